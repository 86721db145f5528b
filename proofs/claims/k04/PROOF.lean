import PyProof.Rows.All
import Wide.All
import OpenK.AllK
import Wide.FinOn
import PyProof.EqAt
import PyProof.EqKinds
import PyProof.TupleCall
import HandS.ForMost
import HandS.IsInst
import HandS.Exc
import HandS.ExcOwn
import HandS.WordsExc
import HandS.CallSlots
import HandS.Walk
import HandS.Defaults
import HandS.EndBits
import HandS.MakeKw
import HandS.MakeKwOnly
import HandS.TryOnly
import HandS.FStr
import HandS.Strs
import HandS.SetKeys
import HandS.Zip
import HandS.TupAny
import HandS.Style
import HandS.SortInts
import KE.KUnpackStar
import HandS.ExcValue
import HandS.SlotsOwn
import PySem.Challenge.RW_groundlots_k04_texts_of_rules
set_option Elab.async false
set_option linter.all false
set_option maxRecDepth 100000
set_option maxHeartbeats 8000000
/-! Gd: statements and expressions that run as their mirrors say. Part 1: data, heaps, states, judgements. -/
namespace Gd
open PySem L2

abbrev Fg := PySem.W.Frag
abbrev Mg := Str → Option Value

/-- data: a value with all that it holds; `obj` a shared thing of the store, `loc` a thing that a slot owns -/
inductive D where
  | non | bl (b : Bool) | int (i : Int) | str (x : Str)
  | lst (l : List D) | tup (l : List D) | dct (l : List (Key × D))
  | ins (c : Str) (l : List (Str × D))
  | ty (n : String) | cls (c : Str)
  | obj (n : Nat) | loc (i : Nat)
instance : Inhabited D := ⟨.non⟩
inductive Slot where
  | un | va (d : D) | ow (d : D)
instance : Inhabited Slot := ⟨.un⟩
abbrev Ro := List Slot
abbrev Sg := List D

section
variable (K : Fg) (mg : Mg) (G : Hp) (ad : List Addr)
mutual
inductive Rep : V → D → Prop
  | non : Rep .non .non
  | bl (b : Bool) : Rep (.bl b) (.bl b)
  | int (i : Int) : Rep (.int i) (.int i)
  | str (x : Str) : Rep (.str x) (.str x)
  | lst {a : Addr} {vs : List V} {ds : List D} : SqL K G a vs → Reps vs ds → Rep (.ref a) (.lst ds)
  | tup {a : Addr} {vs : List V} {ds : List D} : SqT K G a vs → Reps vs ds → Rep (.ref a) (.tup ds)
  | dct {a : Addr} {kvs : List (Key × V)} {ds : List (Key × D)} : Rd G a (.dK kvs) → RepK kvs ds → Rep (.ref a) (.dct ds)
  | ins {c : Str} {C a dx : Addr} {fs : List (Str × V)} {gs : List (Str × D)} : mg c = some (.ref C) → G a = some (.ins C dx fs) → RepF fs gs → Rep (.ref a) (.ins c gs)
  | ty (n : String) : Rep (.ty n) (.ty n)
  | cls {c : Str} {C : Addr} : mg c = some (.ref C) → Rep (.ref C) (.cls c)
  | obj {n : Nat} {a : Addr} : ad[n]? = some a → Rep (.ref a) (.obj n)
inductive Reps : List V → List D → Prop
  | nil : Reps [] []
  | cons {v : V} {d : D} {vs : List V} {ds : List D} : Rep v d → Reps vs ds → Reps (v :: vs) (d :: ds)
inductive RepK : List (Key × V) → List (Key × D) → Prop
  | nil : RepK [] []
  | cons {k : Key} {v : V} {d : D} {vs : List (Key × V)} {ds : List (Key × D)} : Rep v d → RepK vs ds → RepK ((k, v) :: vs) ((k, d) :: ds)
inductive RepF : List (Str × V) → List (Str × D) → Prop
  | nil : RepF [] []
  | cons {k : Str} {v : V} {d : D} {vs : List (Str × V)} {ds : List (Str × D)} : Rep v d → RepF vs ds → RepF ((k, v) :: vs) ((k, d) :: ds)
end
end

theorem rd_mono {G G' : Hp} (e : ∀ b o, G b = some o → G' b = some o) {a : Addr} {u : HO} (h : Rd G a u) : Rd G' a u := by
  rcases h with h | ⟨o, h⟩
  · exact .inl (e _ _ h)
  · exact .inr ⟨o, e _ _ h⟩
theorem sql_mono {K : Fg} {G G' : Hp} (e : ∀ b o, G b = some o → G' b = some o) {a : Addr} {xs : List V} (h : SqL K G a xs) : SqL K G' a xs := by
  rcases h with h | h
  · exact .inl (rd_mono e h)
  · exact .inr h
theorem sqt_mono {K : Fg} {G G' : Hp} (e : ∀ b o, G b = some o → G' b = some o) {a : Addr} {xs : List V} (h : SqT K G a xs) : SqT K G' a xs := by
  rcases h with h | h
  · exact .inl (rd_mono e h)
  · exact .inr h

section
variable {K : Fg} {mg : Mg} {G G' : Hp} {ad ad' : List Addr}
theorem rep_mono_all (e : ∀ b o, G b = some o → G' b = some o) (p : ∀ (n : Nat) a, ad[n]? = some a → ad'[n]? = some a) :
    (∀ v d, Rep K mg G ad v d → Rep K mg G' ad' v d) ∧ (∀ v d, Reps K mg G ad v d → Reps K mg G' ad' v d) ∧ (∀ v d, RepK K mg G ad v d → RepK K mg G' ad' v d) ∧ (∀ v d, RepF K mg G ad v d → RepF K mg G' ad' v d) := by
  have A : ∀ v d, Rep K mg G ad v d → Rep K mg G' ad' v d := fun v d h =>
    Rep.rec (K := K) (mg := mg) (G := G) (ad := ad) (motive_1 := fun v d _ => Rep K mg G' ad' v d) (motive_2 := fun v d _ => Reps K mg G' ad' v d) (motive_3 := fun v d _ => RepK K mg G' ad' v d) (motive_4 := fun v d _ => RepF K mg G' ad' v d)
      .non .bl .int .str (fun h _ r => .lst (sql_mono e h) r) (fun h _ r => .tup (sqt_mono e h) r) (fun h _ r => .dct (rd_mono e h) r) (fun h1 h2 _ r => .ins h1 (e _ _ h2) r) .ty (fun h => .cls h) (fun h => .obj (p _ _ h))
      .nil (fun _ _ a b => .cons a b) .nil (fun _ _ a b => .cons a b) .nil (fun _ _ a b => .cons a b) h
  refine ⟨A, ?_, ?_, ?_⟩
  · intro v d h
    induction v generalizing d with
    | nil => cases h; exact .nil
    | cons x xs ih => cases h with | cons a b => exact .cons (A _ _ a) (ih _ b)
  · intro v d h
    induction v generalizing d with
    | nil => cases h; exact .nil
    | cons x xs ih => cases h with | cons a b => exact .cons (A _ _ a) (ih _ b)
  · intro v d h
    induction v generalizing d with
    | nil => cases h; exact .nil
    | cons x xs ih => cases h with | cons a b => exact .cons (A _ _ a) (ih _ b)
variable (e : ∀ b o, G b = some o → G' b = some o) (p : ∀ (n : Nat) a, ad[n]? = some a → ad'[n]? = some a)
include e p
theorem Rep.mono {v : V} {d : D} (h : Rep K mg G ad v d) : Rep K mg G' ad' v d := (rep_mono_all e p).1 _ _ h
theorem Reps.mono {v : List V} {d : List D} (h : Reps K mg G ad v d) : Reps K mg G' ad' v d := (rep_mono_all e p).2.1 _ _ h
theorem RepK.mono {v : List (Key × V)} {d : List (Key × D)} (h : RepK K mg G ad v d) : RepK K mg G' ad' v d := (rep_mono_all e p).2.2.1 _ _ h
theorem RepF.mono {v : List (Str × V)} {d : List (Str × D)} (h : RepF K mg G ad v d) : RepF K mg G' ad' v d := (rep_mono_all e p).2.2.2 _ _ h
end
section
variable {K : Fg} {mg : Mg} {G : Hp} {ad : List Addr}
theorem Reps.length {vs : List V} {ds : List D} (h : Reps K mg G ad vs ds) : vs.length = ds.length := by
  induction vs generalizing ds with
  | nil => cases h; rfl
  | cons x xs ih => cases h with | cons a b => rw [List.length_cons, List.length_cons, ih b]
theorem Reps.get {vs : List V} {ds : List D} (h : Reps K mg G ad vs ds) {i : Nat} {d : D} (e : ds[i]? = some d) : ∃ v, vs[i]? = some v ∧ Rep K mg G ad v d := by
  induction vs generalizing ds i with
  | nil => cases h; simp at e
  | cons x xs ih =>
    cases h with
    | cons a b =>
      cases i with
      | zero => simp at e; subst e; exact ⟨x, rfl, a⟩
      | succ i => exact ih b (by simpa using e)
theorem Reps.getV {vs : List V} {ds : List D} (h : Reps K mg G ad vs ds) {i : Nat} {v : V} (e : vs[i]? = some v) : ∃ d, ds[i]? = some d ∧ Rep K mg G ad v d := by
  induction vs generalizing ds i with
  | nil => simp at e
  | cons x xs ih =>
    cases h with
    | cons a b =>
      cases i with
      | zero => simp at e; subst e; exact ⟨_, rfl, a⟩
      | succ i => exact ih b (by simpa using e)
theorem Reps.app {vs ws : List V} {ds es : List D} (h : Reps K mg G ad vs ds) (g : Reps K mg G ad ws es) : Reps K mg G ad (vs ++ ws) (ds ++ es) := by
  induction vs generalizing ds with
  | nil => cases h; exact g
  | cons x xs ih => cases h with | cons a b => exact .cons a (ih b)
theorem Reps.set {vs : List V} {ds : List D} (h : Reps K mg G ad vs ds) {i : Nat} {v : V} {d : D} (r : Rep K mg G ad v d) : Reps K mg G ad (vs.set i v) (ds.set i d) := by
  induction vs generalizing ds i with
  | nil => cases h; exact .nil
  | cons x xs ih =>
    cases h with
    | cons a b =>
      cases i with
      | zero => exact .cons r b
      | succ i => exact .cons a (ih b)
theorem Reps.drop {vs : List V} {ds : List D} (h : Reps K mg G ad vs ds) (n : Nat) : Reps K mg G ad (vs.drop n) (ds.drop n) := by
  induction vs generalizing ds n with
  | nil => cases h; simp; exact .nil
  | cons x xs ih =>
    cases h with
    | cons a b =>
      cases n with
      | zero => exact .cons a b
      | succ n => simpa using ih b n
theorem Reps.take {vs : List V} {ds : List D} (h : Reps K mg G ad vs ds) (n : Nat) : Reps K mg G ad (vs.take n) (ds.take n) := by
  induction vs generalizing ds n with
  | nil => cases h; simp; exact .nil
  | cons x xs ih =>
    cases h with
    | cons a b =>
      cases n with
      | zero => exact .nil
      | succ n => simpa using Reps.cons a (ih b n)
theorem Reps.ints {ns : List Int} {vs : List V} (h : Reps K mg G ad vs (ns.map D.int)) : vs = ns.map V.int := by
  induction ns generalizing vs with
  | nil => cases h; rfl
  | cons n ns ih =>
    cases h with
    | cons a b =>
      cases a
      rw [ih b]; rfl
theorem Reps.of_ints {ns : List Int} : Reps K mg G ad (ns.map V.int) (ns.map D.int) := by
  induction ns with
  | nil => exact .nil
  | cons n ns ih => exact .cons (.int n) ih
theorem Reps.strs {ns : List Str} {vs : List V} (h : Reps K mg G ad vs (ns.map D.str)) : vs = ns.map V.str := by
  induction ns generalizing vs with
  | nil => cases h; rfl
  | cons n ns ih =>
    cases h with
    | cons a b =>
      cases a
      rw [ih b]; rfl
theorem Reps.of_strs {ns : List Str} : Reps K mg G ad (ns.map V.str) (ns.map D.str) := by
  induction ns with
  | nil => exact .nil
  | cons n ns ih => exact .cons (.str n) ih
theorem Reps.bls {ns : List Bool} {vs : List V} (h : Reps K mg G ad vs (ns.map D.bl)) : vs = ns.map V.bl := by
  induction ns generalizing vs with
  | nil => cases h; rfl
  | cons n ns ih =>
    cases h with
    | cons a b =>
      cases a
      rw [ih b]; rfl
end

/-! ### heaps -/
open Classical in
noncomputable def hide (O : Addr → Prop) (H : Hp) : Hp := fun a => if O a then none else H a
theorem hide_of {O : Addr → Prop} {H : Hp} {a : Addr} {o : HO} (n : ¬ O a) (h : H a = some o) : hide O H a = some o := by
  unfold hide; rw [if_neg n]; exact h
theorem of_hide {O : Addr → Prop} {H : Hp} {a : Addr} {o : HO} (h : hide O H a = some o) : ¬ O a ∧ H a = some o := by
  unfold hide at h
  split at h
  · cases h
  · exact ⟨by assumption, h⟩
theorem un_hide {O : Addr → Prop} {H : Hp} : ∀ b o, hide O H b = some o → H b = some o := fun _ _ h => (of_hide h).2

/-- a thing at a whose object is read in H, what it holds in G -/
def MRep (K : Fg) (mg : Mg) (G : Hp) (ad : List Addr) (H : Hp) (a : Addr) : D → Prop
  | .lst ds => ∃ vs, H a = some (.lst vs) ∧ Reps K mg G ad vs ds
  | .dct ds => ∃ kvs, H a = some (.dK kvs) ∧ RepK K mg G ad kvs ds
  | .ins c gs => ∃ C dx fs, mg c = some (.ref C) ∧ H a = some (.ins C dx fs) ∧ RepF K mg G ad fs gs
  | _ => False
theorem MRep.mono {K : Fg} {mg : Mg} {G G' H H' : Hp} {ad ad' : List Addr} {a : Addr} {d : D} (h : MRep K mg G ad H a d) (e : ∀ b o, G b = some o → G' b = some o) (p : ∀ (n : Nat) a, ad[n]? = some a → ad'[n]? = some a)
    (k : ∀ o, H a = some o → H' a = some o) : MRep K mg G' ad' H' a d := by
  cases d with
  | lst ds => obtain ⟨vs, h1, h2⟩ := h; exact ⟨vs, k _ h1, h2.mono e p⟩
  | dct ds => obtain ⟨vs, h1, h2⟩ := h; exact ⟨vs, k _ h1, h2.mono e p⟩
  | ins c gs => obtain ⟨C, dx, fs, h0, h1, h2⟩ := h; exact ⟨C, dx, fs, h0, k _ h1, h2.mono e p⟩
  | _ => exact h.elim
theorem MRep.there {K : Fg} {mg : Mg} {G H : Hp} {ad : List Addr} {a : Addr} {d : D} (h : MRep K mg G ad H a d) : ∃ o, H a = some o := by
  cases d with
  | lst ds => obtain ⟨vs, h1, h2⟩ := h; exact ⟨_, h1⟩
  | dct ds => obtain ⟨vs, h1, h2⟩ := h; exact ⟨_, h1⟩
  | ins c gs => obtain ⟨C, dx, fs, h0, h1, h2⟩ := h; exact ⟨_, h1⟩
  | _ => exact h.elim
/-- seen as a thing that stands still -/
theorem MRep.rep {K : Fg} {mg : Mg} {G H : Hp} {ad : List Addr} {a : Addr} {d : D} (h : MRep K mg G ad H a d) (k : ∀ o, H a = some o → G a = some o) : Rep K mg G ad (.ref a) d := by
  cases d with
  | lst ds => obtain ⟨vs, h1, h2⟩ := h; exact .lst (.of (k _ h1)) h2
  | dct ds => obtain ⟨vs, h1, h2⟩ := h; exact .dct (.of (k _ h1)) h2
  | ins c gs => obtain ⟨C, dx, fs, h0, h1, h2⟩ := h; exact .ins h0 (k _ h1) h2
  | _ => exact h.elim

/-- the store -/
structure Sto (K : Fg) (mg : Mg) (O : Addr → Prop) (ad : List Addr) (S : Sg) (H : Hp) : Prop where
  len : ad.length = S.length
  nd : ad.Nodup
  hid : ∀ a, a ∈ ad → O a
  dom : ∀ a, O a → ∃ o, H a = some o
  ob : ∀ (n : Nat) d, S[n]? = some d → ∃ a, ad[n]? = some a ∧ MRep K mg (hide O H) ad H a d
/-- the slots -/
structure Fre (K : Fg) (mg : Mg) (O : Addr → Prop) (ad : List Addr) (ρ : Ro) (σ : L2.St) (H : Hp) : Prop where
  len : σ.length = ρ.length
  va : ∀ (i : Nat) d, ρ[i]? = some (.va d) → ∃ v, σ[i]? = some (some v) ∧ Rep K mg (hide O H) ad v d
  ow : ∀ (i : Nat) d, ρ[i]? = some (.ow d) → ∃ a, σ[i]? = some (some (.ref a)) ∧ O a ∧ a ∉ ad ∧ MRep K mg (hide O H) ad H a d
  ap : ∀ (i j : Nat) d e a, i ≠ j → ρ[i]? = some (.ow d) → ρ[j]? = some (.ow e) → σ[i]? = some (some (.ref a)) → σ[j]? ≠ some (some (.ref a))
/-- the entry -/
structure Ctx where
  H0 : Hp
  ad0 : List Addr
  O0 : Addr → Prop
structure Cst (c : Ctx) (O : Addr → Prop) (ad : List Addr) (H : Hp) : Prop where
  fr : ∀ b o, c.H0 b = some o → b ∉ c.ad0 → H b = some o
  op : ∀ a, c.O0 a → O a
  oq : ∀ a, O a → c.O0 a ∨ c.H0 a = none
  ap : ∃ more, ad = c.ad0 ++ more ∧ ∀ a ∈ more, c.H0 a = none
  wf : ∀ a, a ∈ c.ad0 → c.O0 a
  wd : ∀ a, c.O0 a → ∃ o, c.H0 a = some o
structure Sta (K : Fg) (mg : Mg) (c : Ctx) (O : Addr → Prop) (ad : List Addr) (S : Sg) (ρ : Ro) (σ : L2.St) (H : Hp) : Prop where
  sto : Sto K mg O ad S H
  fre : Fre K mg O ad ρ σ H
  cst : Cst c O ad H
  owf : ∀ (i : Nat) d a, ρ[i]? = some (.ow d) → σ[i]? = some (some (.ref a)) → c.H0 a = none

/-- what an expression's run does -/
structure Stp (O : Addr → Prop) (ad : List Addr) (H : Hp) (O' : Addr → Prop) (ad' : List Addr) (H' : Hp) : Prop where
  fr : ∀ b o, H b = some o → b ∉ ad → H' b = some o
  op : ∀ a, O a → O' a
  oq : ∀ a, O' a → O a ∨ H a = none
  ap : ∃ more, ad' = ad ++ more ∧ ∀ a ∈ more, H a = none
theorem Stp.refl (O : Addr → Prop) (ad : List Addr) (H : Hp) : Stp O ad H O ad H := ⟨fun _ _ h _ => h, fun _ h => h, fun _ h => .inl h, [], by simp, fun _ h => nomatch h⟩
theorem pre_get {ad more : List Addr} : ∀ (n : Nat) a, ad[n]? = some a → (ad ++ more)[n]? = some a := fun n a h => by
  rw [List.getElem?_append_left (List.getElem?_eq_some_iff.mp h).1]; exact h
section
variable {K : Fg} {mg : Mg} {O O1 O2 : Addr → Prop} {ad ad1 ad2 : List Addr} {S S1 S2 : Sg} {H H1 H2 : Hp} {ρ : Ro} {σ : L2.St}
theorem Stp.get (s : Stp O ad H O1 ad1 H1) : ∀ (n : Nat) a, ad[n]? = some a → ad1[n]? = some a := by
  obtain ⟨m, rfl, _⟩ := s.ap
  exact pre_get
theorem Stp.mem (s : Stp O ad H O1 ad1 H1) {a : Addr} (h : a ∈ ad) : a ∈ ad1 := by
  obtain ⟨m, rfl, _⟩ := s.ap
  exact List.mem_append_left _ h
theorem Stp.nmem (s : Stp O ad H O1 ad1 H1) {a : Addr} {o : HO} (n : a ∉ ad) (h : H a = some o) : a ∉ ad1 := by
  obtain ⟨m, rfl, f⟩ := s.ap
  intro q
  rcases List.mem_append.mp q with q | q
  · exact n q
  · rw [f a q] at h; cases h
theorem Stp.hide (s : Stp O ad H O1 ad1 H1) (hid : ∀ a, a ∈ ad → O a) : ∀ b o, Gd.hide O H b = some o → Gd.hide O1 H1 b = some o := fun b o h => by
  obtain ⟨n, e⟩ := of_hide h
  refine hide_of (fun q => ?_) (s.fr b o e fun m => n (hid b m))
  rcases s.oq b q with z | z
  · exact n z
  · rw [z] at e; cases e
theorem Stp.trans (s : Stp O ad H O1 ad1 H1) (t : Stp O1 ad1 H1 O2 ad2 H2) (hid : ∀ a, a ∈ ad → O a) (dom : ∀ a, O1 a → ∃ o, H1 a = some o) : Stp O ad H O2 ad2 H2 := by
  have fre : ∀ a, H1 a = none → H a = none := fun a h => by
    cases e : H a with
    | none => rfl
    | some o =>
      by_cases m : a ∈ ad
      · obtain ⟨o', q⟩ := dom a (s.op a (hid a m))
        rw [h] at q; cases q
      · rw [s.fr a o e m] at h; cases h
  refine ⟨fun b o h m => t.fr b o (s.fr b o h m) (s.nmem m h), fun a h => t.op a (s.op a h), fun a h => ?_, ?_⟩
  · rcases t.oq a h with q | q
    · exact s.oq a q
    · exact .inr (fre a q)
  · obtain ⟨m1, e1, f1⟩ := s.ap
    obtain ⟨m2, e2, f2⟩ := t.ap
    refine ⟨m1 ++ m2, by rw [e2, e1, List.append_assoc], fun a h => ?_⟩
    rcases List.mem_append.mp h with q | q
    · exact f1 a q
    · exact fre a (f2 a q)
theorem Fre.step (f : Fre K mg O ad ρ σ H) (hid : ∀ a, a ∈ ad → O a) (s : Stp O ad H O1 ad1 H1) : Fre K mg O1 ad1 ρ σ H1 := by
  refine ⟨f.len, fun i d h => ?_, fun i d h => ?_, f.ap⟩
  · obtain ⟨v, h1, h2⟩ := f.va i d h
    exact ⟨v, h1, h2.mono (s.hide hid) s.get⟩
  · obtain ⟨a, h1, h2, h3, h4⟩ := f.ow i d h
    obtain ⟨o, ho⟩ := h4.there
    exact ⟨a, h1, s.op a h2, s.nmem h3 ho, h4.mono (s.hide hid) s.get fun o e => s.fr a o e h3⟩
theorem Cst.step {c : Ctx} (f : Cst c O ad H) (t : Sto K mg O ad S H) (s : Stp O ad H O1 ad1 H1) : Cst c O1 ad1 H1 := by
  have fre : ∀ a, H a = none → c.H0 a = none := fun a h => by
    cases e : c.H0 a with
    | none => rfl
    | some o =>
      by_cases m : a ∈ c.ad0
      · obtain ⟨o', q⟩ := t.dom a (f.op a (f.wf a m))
        rw [h] at q; cases q
      · rw [f.fr a o e m] at h; cases h
  refine ⟨fun b o h m => s.fr b o (f.fr b o h m) fun q => ?_, fun a h => s.op a (f.op a h), fun a h => ?_, ?_, f.wf, f.wd⟩
  · obtain ⟨more, e, g⟩ := f.ap
    rw [e] at q
    rcases List.mem_append.mp q with q | q
    · exact m q
    · rw [g b q] at h; cases h
  · rcases s.oq a h with q | q
    · exact f.oq a q
    · exact .inr (fre a q)
  · obtain ⟨m1, e1, f1⟩ := f.ap
    obtain ⟨m2, e2, f2⟩ := s.ap
    refine ⟨m1 ++ m2, by rw [e2, e1, List.append_assoc], fun a h => ?_⟩
    rcases List.mem_append.mp h with q | q
    · exact f1 a q
    · exact fre a (f2 a q)
theorem Cst.fresh {c : Ctx} (f : Cst c O ad H) (t : Sto K mg O ad S H) {a : Addr} (h : H a = none) : c.H0 a = none := by
  cases e : c.H0 a with
  | none => rfl
  | some o =>
    by_cases m : a ∈ c.ad0
    · obtain ⟨o', q⟩ := t.dom a (f.op a (f.wf a m))
      rw [h] at q; cases q
    · rw [f.fr a o e m] at h; cases h
theorem Sta.step {c : Ctx} (z : Sta K mg c O ad S ρ σ H) (s : Stp O ad H O1 ad1 H1) (t : Sto K mg O1 ad1 S1 H1) : Sta K mg c O1 ad1 S1 ρ σ H1 :=
  ⟨t, z.fre.step z.sto.hid s, z.cst.step z.sto s, z.owf⟩
end

/-! ### mirrors -/
inductive Out (α : Type) where
  | ok (a : α) (S : Sg)
  | er (x : Str) (fs : List (Str × D)) (S : Sg)
  | no
def Out.bind {α β : Type} : Out α → (α → Sg → Out β) → Out β
  | .ok a S, f => f a S
  | .er x fs S, _ => .er x fs S
  | .no, _ => .no
theorem bind_ok {α β : Type} (a : α) (S : Sg) (f : α → Sg → Out β) : (Out.ok a S).bind f = f a S := rfl
abbrev ME := Ro → Sg → Out D
abbrev MA := Ro → Sg → Out (List D)
abbrev MT := Ro → Sg → Out Bool
inductive OS where
  | nx (ρ : Ro) (S : Sg)
  | rt (d : D) (S : Sg)
  | bk (ρ : Ro) (S : Sg)
  | ct (ρ : Ro) (S : Sg)
  | ex (x : Str) (fs : List (Str × D)) (ρ : Ro) (S : Sg)
  | no
abbrev MS := Ro → Sg → OS

def isLoc : D → Bool
  | .loc _ => true
  | _ => false
/-- what is read at a value: a thing of the store, a slot's own thing, or the value -/
def deref (ρ : Ro) (S : Sg) : D → Option D
  | .obj n => S[n]?
  | .loc i => match ρ[i]? with
    | some (.ow d) => some d
    | _ => none
  | d => some d

/-! ### what holds behind -/
section
variable (K : Fg) (mg : Mg)
/-- a value as an expression hands it on: it may be a slot's own thing -/
def RepR (O : Addr → Prop) (ad : List Addr) (ρ : Ro) (σ : L2.St) (H : Hp) (v : V) : D → Prop
  | .loc i => (∃ d, ρ[i]? = some (.ow d)) ∧ σ[i]? = some (some v)
  | d => Rep K mg (hide O H) ad v d
/-- a value's own object, what it holds standing still -/
def RepS (O : Addr → Prop) (ad : List Addr) (H : Hp) (v : V) (d : D) : Prop := Rep K mg (hide O H) ad v d ∨ ∃ a, v = .ref a ∧ MRep K mg (hide O H) ad H a d
def XRep (O : Addr → Prop) (ad : List Addr) (H : Hp) (cls : Value) (dd : Option Addr) (x : Str) (fs : List (Str × D)) : Prop :=
  ∃ C, mg x = some (.ref C) ∧ cls = .ref C ∧ ((dd = none ∧ fs = []) ∨ ∃ a vs, dd = some a ∧ H a = some (.xd vs) ∧ RepF K mg (hide O H) ad vs fs)
def PostE (W : WX) (ρ : Ro) (σ : L2.St) (Q : VK) (O : Addr → Prop) (ad : List Addr) (H : Hp) : Out D → Prop
  | .ok d S' => ∀ v O' ad' H', Stp O ad H O' ad' H' → Sto K mg O' ad' S' H' → RepR K mg O' ad' ρ σ H' v d → Q v H'
  | .er x fs S' => ∀ cls dd O' ad' H', Stp O ad H O' ad' H' → Sto K mg O' ad' S' H' → XRep K mg O' ad' H' cls dd x fs → W cls dd σ H'
  | .no => False
def PostA (W : WX) (ρ : Ro) (σ : L2.St) (Q : List V → Hp → Prop) (O : Addr → Prop) (ad : List Addr) (H : Hp) : Out (List D) → Prop
  | .ok ds S' => ∀ vs O' ad' H', Stp O ad H O' ad' H' → Sto K mg O' ad' S' H' → Paired (RepR K mg O' ad' ρ σ H') vs ds → Q vs H'
  | .er x fs S' => ∀ cls dd O' ad' H', Stp O ad H O' ad' H' → Sto K mg O' ad' S' H' → XRep K mg O' ad' H' cls dd x fs → W cls dd σ H'
  | .no => False
def PostT (W : WX) (ρ : Ro) (σ : L2.St) (Q : Bool → Hp → Prop) (O : Addr → Prop) (ad : List Addr) (H : Hp) : Out Bool → Prop
  | .ok b S' => ∀ O' ad' H', Stp O ad H O' ad' H' → Sto K mg O' ad' S' H' → Q b H'
  | .er x fs S' => ∀ cls dd O' ad' H', Stp O ad H O' ad' H' → Sto K mg O' ad' S' H' → XRep K mg O' ad' H' cls dd x fs → W cls dd σ H'
  | .no => False
def Ee (W : WX) (m : ME) : TE := fun σ H Q => ∃ O ad S ρ, Sto K mg O ad S H ∧ Fre K mg O ad ρ σ H ∧ PostE K mg W ρ σ Q O ad H (m ρ S)
def Ea (W : WX) (m : MA) : TA := fun σ H Q => ∃ O ad S ρ, Sto K mg O ad S H ∧ Fre K mg O ad ρ σ H ∧ PostA K mg W ρ σ Q O ad H (m ρ S)
def Et (W : WX) (m : MT) : TT := fun σ H Q => ∃ O ad S ρ, Sto K mg O ad S H ∧ Fre K mg O ad ρ σ H ∧ PostT K mg W ρ σ Q O ad H (m ρ S)
/-- what stood still stands still -/
structure Grow (O : Addr → Prop) (ad : List Addr) (H : Hp) (O' : Addr → Prop) (ad' : List Addr) (H' : Hp) : Prop where
  ex : ∀ b o, hide O H b = some o → hide O' H' b = some o
  ap : ∀ (n : Nat) a, ad[n]? = some a → ad'[n]? = some a
def PostS (W : WX) (c : Ctx) (Dn : Ends) (O : Addr → Prop) (ad : List Addr) (H : Hp) : OS → Prop
  | .nx ρ' S' => ∀ σ' O' ad' H', Grow O ad H O' ad' H' → Sta K mg c O' ad' S' ρ' σ' H' → Dn.nx σ' H'
  | .bk ρ' S' => ∀ σ' O' ad' H', Grow O ad H O' ad' H' → Sta K mg c O' ad' S' ρ' σ' H' → Dn.bk σ' H'
  | .ct ρ' S' => ∀ σ' O' ad' H', Grow O ad H O' ad' H' → Sta K mg c O' ad' S' ρ' σ' H' → Dn.ct σ' H'
  | .rt d S' => ∀ v O' ad' H', Sto K mg O' ad' S' H' → Cst c O' ad' H' → Rep K mg (hide O' H') ad' v d → Dn.rt v H'
  | .ex x fs ρ' S' => ∀ cls dd σ' O' ad' H', Grow O ad H O' ad' H' → Sta K mg c O' ad' S' ρ' σ' H' → XRep K mg O' ad' H' cls dd x fs → W cls dd σ' H'
  | .no => False
def Ss (W : WX) (m : MS) : TS := fun Dn σ H => ∃ c O ad S ρ, Sta K mg c O ad S ρ σ H ∧ PostS K mg W c Dn O ad H (m ρ S)
end
theorem Grow.refl (O : Addr → Prop) (ad : List Addr) (H : Hp) : Grow O ad H O ad H := ⟨fun _ _ h => h, fun _ _ h => h⟩
theorem Grow.trans {O O1 O2 : Addr → Prop} {ad ad1 ad2 : List Addr} {H H1 H2 : Hp} (a : Grow O ad H O1 ad1 H1) (b : Grow O1 ad1 H1 O2 ad2 H2) : Grow O ad H O2 ad2 H2 := ⟨fun x o h => b.ex x o (a.ex x o h), fun n x h => b.ap n x (a.ap n x h)⟩
theorem Stp.grow {O O1 : Addr → Prop} {ad ad1 : List Addr} {H H1 : Hp} (s : Stp O ad H O1 ad1 H1) (hid : ∀ a, a ∈ ad → O a) : Grow O ad H O1 ad1 H1 := ⟨s.hide hid, s.get⟩

/-! ### a judgement's reading is weakened -/
section
variable {X : Cx}
theorem pe_of {e : Expr} {t t' : TE} (h : PE X e t) (w : ∀ σ H Q, t' σ H Q → t σ H Q) : PE X e t' := ⟨fun pins s σ H Q I q => h.run pins s σ H Q I (w _ _ _ q)⟩
theorem pt_of {e : Expr} {t t' : TT} (h : PT X e t) (w : ∀ σ H Q, t' σ H Q → t σ H Q) : PT X e t' := ⟨fun pins s σ H Q I q => h.run pins s σ H Q I (w _ _ _ q)⟩
theorem pw_of {e : Expr} {t t' : TT} (h : PW X e t) (w : ∀ σ H Q, t' σ H Q → t σ H Q) : PW X e t' := ⟨fun wh pins s σ H Q I q => h.run wh pins s σ H Q I (w _ _ _ q)⟩
theorem pa_of {es : List Expr} {t t' : TA} (h : PA X es t) (w : ∀ σ H Q, t' σ H Q → t σ H Q) : PA X es t' := ⟨fun pos pins s σ H Q I q => h.run pos pins s σ H Q I (w _ _ _ q)⟩
theorem ps_of {st : Stmt} {t t' : TS} (h : PS X st t) (w : ∀ Dn σ H, t' Dn σ H → t Dn σ H) : PS X st t' := ⟨fun pins s σ H Dn I q => h.run pins s σ H Dn I (w _ _ _ q)⟩
theorem pss_of {st : List Stmt} {t t' : TS} (h : PSs X st t) (w : ∀ Dn σ H, t' Dn σ H → t Dn σ H) : PSs X st t' := ⟨fun pins s σ H Dn I q => h.run pins s σ H Dn I (w _ _ _ q)⟩
end
end Gd

/-! Gd, part 2: expressions, tests, arguments, plain statements. -/
namespace Gd
open PySem L2

section
variable {K : Fg} {mg : Mg} {W : WX} {O O1 : Addr → Prop} {ad ad1 : List Addr} {S S1 : Sg} {ρ : Ro} {σ : L2.St} {H H1 : Hp}

theorem Sto.of_un (s : Sto K mg O ad S H) : ∀ a, a ∈ ad → O a := s.hid
theorem RepR.step {v : V} {d : D} (r : RepR K mg O ad ρ σ H v d) (hid : ∀ a, a ∈ ad → O a) (s : Stp O ad H O1 ad1 H1) : RepR K mg O1 ad1 ρ σ H1 v d := by
  cases d with
  | loc i => exact r
  | _ => exact Rep.mono (s.hide hid) s.get r
theorem repR_of {v : V} {d : D} (r : Rep K mg (hide O H) ad v d) : RepR K mg O ad ρ σ H v d := by
  cases d with
  | loc i => cases r
  | _ => exact r
theorem RepR.rep {v : V} {d : D} (r : RepR K mg O ad ρ σ H v d) (n : isLoc d = false) : Rep K mg (hide O H) ad v d := by
  cases d with
  | loc i => cases n
  | _ => exact r
theorem deref_rep {v : V} {d e : D} (f : Fre K mg O ad ρ σ H) (s : Sto K mg O ad S H) (r : RepR K mg O ad ρ σ H v d) (h : deref ρ S d = some e) : RepS K mg O ad H v e := by
  cases d with
  | loc i =>
    obtain ⟨⟨d, h1⟩, h2⟩ := r
    have q : (match ρ[i]? with | some (.ow d) => some d | _ => none) = some e := h
    rw [h1] at q
    cases q
    obtain ⟨a, h3, _, _, h4⟩ := f.ow i _ h1
    rw [h3] at h2
    cases h2
    exact .inr ⟨a, rfl, h4⟩
  | obj n =>
    have q : S[n]? = some e := h
    obtain ⟨a, h1, h2⟩ := s.ob n e q
    have r' : Rep K mg (hide O H) ad v (.obj n) := r
    cases r' with
    | obj h3 =>
      rw [h1] at h3; cases h3
      exact .inr ⟨a, rfl, h2⟩
  | _ => cases h; exact .inl r
theorem PostE.rebase {Q : VK} {o : Out D} (h : PostE K mg W ρ σ Q O ad H o) (s : Stp O ad H O1 ad1 H1) (hid : ∀ a, a ∈ ad → O a) (dom : ∀ a, O1 a → ∃ o, H1 a = some o) : PostE K mg W ρ σ Q O1 ad1 H1 o := by
  cases o with
  | ok d S' => exact fun v O' ad' H' t z r => h v O' ad' H' (s.trans t hid dom) z r
  | er x fs S' => exact fun cls dd O' ad' H' t z r => h cls dd O' ad' H' (s.trans t hid dom) z r
  | no => exact h
theorem PostA.rebase {Q : List V → Hp → Prop} {o : Out (List D)} (h : PostA K mg W ρ σ Q O ad H o) (s : Stp O ad H O1 ad1 H1) (hid : ∀ a, a ∈ ad → O a) (dom : ∀ a, O1 a → ∃ o, H1 a = some o) : PostA K mg W ρ σ Q O1 ad1 H1 o := by
  cases o with
  | ok d S' => exact fun v O' ad' H' t z r => h v O' ad' H' (s.trans t hid dom) z r
  | er x fs S' => exact fun cls dd O' ad' H' t z r => h cls dd O' ad' H' (s.trans t hid dom) z r
  | no => exact h
theorem PostT.rebase {Q : Bool → Hp → Prop} {o : Out Bool} (h : PostT K mg W ρ σ Q O ad H o) (s : Stp O ad H O1 ad1 H1) (hid : ∀ a, a ∈ ad → O a) (dom : ∀ a, O1 a → ∃ o, H1 a = some o) : PostT K mg W ρ σ Q O1 ad1 H1 o := by
  cases o with
  | ok d S' => exact fun O' ad' H' t z => h O' ad' H' (s.trans t hid dom) z
  | er x fs S' => exact fun cls dd O' ad' H' t z r => h cls dd O' ad' H' (s.trans t hid dom) z r
  | no => exact h

/-- the state behind a first part -/
def AtE (K : Fg) (mg : Mg) (σ : L2.St) (H : Hp) (v : V) (R : (Addr → Prop) → List Addr → Ro → Sg → D → Prop) : Prop :=
  ∃ O ad S ρ d, Sto K mg O ad S H ∧ Fre K mg O ad ρ σ H ∧ RepR K mg O ad ρ σ H v d ∧ R O ad ρ S d
theorem bindE {m : ME} {f : Ro → D → Sg → Out D} {Q : VK} (h : Ee K mg W (fun ρ S => (m ρ S).bind (f ρ)) σ H Q) :
    Ee K mg W m σ H fun v H1 => AtE K mg σ H1 v fun O ad ρ S d => PostE K mg W ρ σ Q O ad H1 (f ρ d S) := by
  obtain ⟨O, ad, S, ρ, s, fr, h⟩ := h
  refine ⟨O, ad, S, ρ, s, fr, ?_⟩
  cases e : m ρ S with
  | ok d S1 =>
    (dsimp only at h; rw [e] at h)
    exact fun v O' ad' H' t z r => ⟨O', ad', S1, ρ, d, z, fr.step s.hid t, r, h.rebase t s.hid z.dom⟩
  | er x fs S1 =>
    (dsimp only at h; rw [e] at h)
    exact h
  | no =>
    (dsimp only at h; rw [e] at h)
    exact h
theorem bindEA {m : ME} {f : Ro → D → Sg → Out (List D)} {Q : List V → Hp → Prop} (h : Ea K mg W (fun ρ S => (m ρ S).bind (f ρ)) σ H Q) :
    Ee K mg W m σ H fun v H1 => AtE K mg σ H1 v fun O ad ρ S d => PostA K mg W ρ σ Q O ad H1 (f ρ d S) := by
  obtain ⟨O, ad, S, ρ, s, fr, h⟩ := h
  refine ⟨O, ad, S, ρ, s, fr, ?_⟩
  cases e : m ρ S with
  | ok d S1 =>
    (dsimp only at h; rw [e] at h)
    exact fun v O' ad' H' t z r => ⟨O', ad', S1, ρ, d, z, fr.step s.hid t, r, h.rebase t s.hid z.dom⟩
  | er x fs S1 =>
    (dsimp only at h; rw [e] at h)
    exact h
  | no =>
    (dsimp only at h; rw [e] at h)
    exact h
theorem bindET {m : ME} {f : Ro → D → Sg → Out Bool} {Q : Bool → Hp → Prop} (h : Et K mg W (fun ρ S => (m ρ S).bind (f ρ)) σ H Q) :
    Ee K mg W m σ H fun v H1 => AtE K mg σ H1 v fun O ad ρ S d => PostT K mg W ρ σ Q O ad H1 (f ρ d S) := by
  obtain ⟨O, ad, S, ρ, s, fr, h⟩ := h
  refine ⟨O, ad, S, ρ, s, fr, ?_⟩
  cases e : m ρ S with
  | ok d S1 =>
    (dsimp only at h; rw [e] at h)
    exact fun v O' ad' H' t z r => ⟨O', ad', S1, ρ, d, z, fr.step s.hid t, r, h.rebase t s.hid z.dom⟩
  | er x fs S1 =>
    (dsimp only at h; rw [e] at h)
    exact h
  | no =>
    (dsimp only at h; rw [e] at h)
    exact h
theorem bindTE {m : MT} {f : Ro → Bool → Sg → Out D} {Q : VK} (h : Ee K mg W (fun ρ S => (m ρ S).bind (f ρ)) σ H Q) :
    Et K mg W m σ H fun b H1 => ∃ O ad S ρ, Sto K mg O ad S H1 ∧ Fre K mg O ad ρ σ H1 ∧ PostE K mg W ρ σ Q O ad H1 (f ρ b S) := by
  obtain ⟨O, ad, S, ρ, s, fr, h⟩ := h
  refine ⟨O, ad, S, ρ, s, fr, ?_⟩
  cases e : m ρ S with
  | ok d S1 =>
    (dsimp only at h; rw [e] at h)
    exact fun O' ad' H' t z => ⟨O', ad', S1, ρ, z, fr.step s.hid t, h.rebase t s.hid z.dom⟩
  | er x fs S1 =>
    (dsimp only at h; rw [e] at h)
    exact h
  | no =>
    (dsimp only at h; rw [e] at h)
    exact h
theorem bindTT {m : MT} {f : Ro → Bool → Sg → Out Bool} {Q : Bool → Hp → Prop} (h : Et K mg W (fun ρ S => (m ρ S).bind (f ρ)) σ H Q) :
    Et K mg W m σ H fun b H1 => ∃ O ad S ρ, Sto K mg O ad S H1 ∧ Fre K mg O ad ρ σ H1 ∧ PostT K mg W ρ σ Q O ad H1 (f ρ b S) := by
  obtain ⟨O, ad, S, ρ, s, fr, h⟩ := h
  refine ⟨O, ad, S, ρ, s, fr, ?_⟩
  cases e : m ρ S with
  | ok d S1 =>
    (dsimp only at h; rw [e] at h)
    exact fun O' ad' H' t z => ⟨O', ad', S1, ρ, z, fr.step s.hid t, h.rebase t s.hid z.dom⟩
  | er x fs S1 =>
    (dsimp only at h; rw [e] at h)
    exact h
  | no =>
    (dsimp only at h; rw [e] at h)
    exact h
/-- two parts -/
def AtE2 (K : Fg) (mg : Mg) (σ : L2.St) (H : Hp) (v w : V) (R : (Addr → Prop) → List Addr → Ro → Sg → D → D → Prop) : Prop :=
  ∃ O ad S ρ d e, Sto K mg O ad S H ∧ Fre K mg O ad ρ σ H ∧ RepR K mg O ad ρ σ H v d ∧ RepR K mg O ad ρ σ H w e ∧ R O ad ρ S d e
theorem bind2E {m n : ME} {f : Ro → D → D → Sg → Out D} {Q : VK} (h : Ee K mg W (fun ρ S => (m ρ S).bind fun d S1 => (n ρ S1).bind fun e S2 => f ρ d e S2) σ H Q) :
    Ee K mg W m σ H fun v H1 => Ee K mg W n σ H1 fun w H2 => AtE2 K mg σ H2 v w fun O ad ρ S d e => PostE K mg W ρ σ Q O ad H2 (f ρ d e S) := by
  obtain ⟨O, ad, S, ρ, s, fr, h⟩ := h
  refine ⟨O, ad, S, ρ, s, fr, ?_⟩
  cases e : m ρ S with
  | ok d S1 =>
    (dsimp only at h; rw [e] at h)
    intro v O1 ad1 H1 t z r
    have h1 : PostE K mg W ρ σ Q O1 ad1 H1 ((n ρ S1).bind fun e S2 => f ρ d e S2) := PostE.rebase h t s.hid z.dom
    have f1 := fr.step s.hid t
    refine ⟨O1, ad1, S1, ρ, z, f1, ?_⟩
    cases e2 : n ρ S1 with
    | ok d2 S2 =>
      rw [e2] at h1
      exact fun w O2 ad2 H2 t2 z2 r2 => ⟨O2, ad2, S2, ρ, d, d2, z2, f1.step z.hid t2, r.step z.hid t2, r2, h1.rebase t2 z.hid z2.dom⟩
    | er x fs S2 =>
      rw [e2] at h1
      exact h1
    | no =>
      rw [e2] at h1
      exact h1
  | er x fs S1 =>
    (dsimp only at h; rw [e] at h)
    exact h
  | no =>
    (dsimp only at h; rw [e] at h)
    exact h
end

/-! ### names, constants -/
def e_var (i : Nat) : ME := fun ρ S => match ρ[i]? with
  | some (.va d) => .ok d S
  | some (.ow _) => .ok (.loc i) S
  | _ => .no
def e_c (d : D) : ME := fun _ S => .ok d S
section
variable {X : Cx} {W : WX}
theorem E_var {i : Nat} {e : Expr} (h : PE X e (tVar i)) : PE X e (Ee X.K X.mg W (e_var i)) := pe_of h fun σ H Q q => by
  obtain ⟨O, ad, S, ρ, s, fr, h⟩ := q
  unfold e_var at h
  cases e : ρ[i]? with
  | none => rw [e] at h; exact h.elim
  | some z =>
    rw [e] at h
    cases z with
    | un => exact h.elim
    | va d =>
      obtain ⟨v, h1, h2⟩ := fr.va i d e
      exact ⟨v, h1, h v O ad H (.refl _ _ _) s (repR_of h2)⟩
    | ow d =>
      obtain ⟨a, h1, _⟩ := fr.ow i d e
      exact ⟨_, h1, h _ O ad H (.refl _ _ _) s ⟨⟨d, e⟩, h1⟩⟩
theorem E_c {v : V} {d : D} {e : Expr} (h : PE X e (tC v)) (r : ∀ G ad, Rep X.K X.mg G ad v d) : PE X e (Ee X.K X.mg W (e_c d)) := pe_of h fun σ H Q q => by
  obtain ⟨O, ad, S, ρ, s, fr, h⟩ := q
  exact h v O ad H (.refl _ _ _) s (repR_of (r _ _))
theorem E_int {i : Int} {j pos} : PE X (.Constant (.int i) j pos) (Ee X.K X.mg W (e_c (.int i))) := E_c pe_int fun _ _ => .int i
theorem E_bl {b : Bool} {j pos} : PE X (.Constant (.bool b) j pos) (Ee X.K X.mg W (e_c (.bl b))) := E_c pe_bl fun _ _ => .bl b
theorem E_non {j pos} : PE X (.Constant .none j pos) (Ee X.K X.mg W (e_c .non)) := E_c pe_non fun _ _ => .non
theorem E_str {x : Str} {j pos} : PE X (.Constant (.str x) j pos) (Ee X.K X.mg W (e_c (.str x))) := E_c pe_str fun _ _ => .str x
end

/-! ### operations on what is read -/
def liftO (S : Sg) : Option D → Out D
  | some z => .ok z S
  | none => .no
def e_op1 (f : D → Option D) (a : ME) : ME := fun ρ S => (a ρ S).bind fun d S1 => liftO S1 ((deref ρ S1 d).bind f)
def e_op2 (f : D → D → Option D) (a b : ME) : ME := fun ρ S => (a ρ S).bind fun d S1 => (b ρ S1).bind fun e S2 => liftO S2 ((deref ρ S2 d).bind fun d' => (deref ρ S2 e).bind fun e' => f d' e')
def isRefD : D → Bool
  | .lst _ => true
  | .tup _ => true
  | .dct _ => true
  | .ins _ _ => true
  | _ => false
/-- what an operation gives: a value that is there, or a new thing -/
def Res (K : Fg) (mg : Mg) (O : Addr → Prop) (ad : List Addr) (H : Hp) (z : D) (r : VK → Prop) : Prop :=
  (∃ v, Rep K mg (hide O H) ad v z ∧ ∀ Q : VK, Q v H → r Q) ∨
  (isRefD z = true ∧ ∃ o, (∀ p G, (∀ b o', hide O H b = some o' → G b = some o') → G p = some o → Rep K mg G ad (.ref p) z) ∧ ∀ Q : VK, (∀ p, H p = none → Q (.ref p) (upd H p o)) → r Q)
def OpP (K : Fg) (mg : Mg) (r : R2) (f : D → D → Option D) : Prop :=
  ∀ O ad H x y d e z, RepS K mg O ad H x d → RepS K mg O ad H y e → f d e = some z → Res K mg O ad H z (r x y H)
def UnP (K : Fg) (mg : Mg) (r : V → Hp → VK → Prop) (f : D → Option D) : Prop :=
  ∀ O ad H x d z, RepS K mg O ad H x d → f d = some z → Res K mg O ad H z (r x H)
theorem Res.imp {K : Fg} {mg : Mg} {O : Addr → Prop} {ad : List Addr} {H : Hp} {z : D} {r r' : VK → Prop} (h : Res K mg O ad H z r) (k : ∀ Q, r Q → r' Q) : Res K mg O ad H z r' := by
  rcases h with ⟨v, h1, h2⟩ | ⟨h0, o, h1, h2⟩
  · exact .inl ⟨v, h1, fun Q q => k Q (h2 Q q)⟩
  · exact .inr ⟨h0, o, h1, fun Q q => k Q (h2 Q q)⟩
theorem res_v {K : Fg} {mg : Mg} {O : Addr → Prop} {ad : List Addr} {H : Hp} {z : D} {r : VK → Prop} {v : V} (h : Rep K mg (hide O H) ad v z) (k : ∀ Q : VK, Q v H → r Q) : Res K mg O ad H z r := .inl ⟨v, h, k⟩
theorem Res.go {K : Fg} {mg : Mg} {W : WX} {ρ : Ro} {σ : L2.St} {O : Addr → Prop} {ad : List Addr} {H : Hp} {S : Sg} {z : D} {r : VK → Prop} {Q : VK} (h : Res K mg O ad H z r) (s : Sto K mg O ad S H) (k : PostE K mg W ρ σ Q O ad H (.ok z S)) : r Q := by
  rcases h with ⟨v, h1, h2⟩ | ⟨_, o, h1, h2⟩
  · exact h2 Q (k v O ad H (.refl _ _ _) s (repR_of h1))
  · refine h2 Q fun p hp => ?_
    have kk : ∀ b o', H b = some o' → upd H p o b = some o' := fun b o' e => by rw [upd_ne (ne_of_none e hp)]; exact e
    have hk : ∀ b o', hide O H b = some o' → hide O (upd H p o) b = some o' := fun b o' e => hide_of (of_hide e).1 (kk b o' (of_hide e).2)
    have np : ¬ O p := fun q => by
      obtain ⟨o', e⟩ := s.dom p q
      rw [hp] at e; cases e
    refine k (.ref p) O ad (upd H p o) ⟨fun b o' e _ => kk b o' e, fun _ h => h, fun _ h => .inl h, [], by simp, fun _ h => nomatch h⟩ ⟨s.len, s.nd, s.hid, fun a h => ?_, fun n d' h => ?_⟩ (repR_of (h1 p _ hk (hide_of np upd_same)))
    · obtain ⟨o', e⟩ := s.dom a h
      exact ⟨o', kk a o' e⟩
    · obtain ⟨a, h1, h2⟩ := s.ob n d' h
      exact ⟨a, h1, h2.mono hk (fun _ _ e => e) fun o' e => kk a o' e⟩
section
variable {K : Fg} {mg : Mg} {W : WX}
theorem OpP.or {r r' : R2} {f g : D → D → Option D} (h : OpP K mg r f) (h' : OpP K mg r' g) : OpP K mg (fun x y H Q => r x y H Q ∨ r' x y H Q) (fun d e => (f d e).or (g d e)) := by
  intro O ad H x y d e z rx ry q
  cases e1 : f d e with
  | some u =>
    have q' : (f d e).or (g d e) = some z := q
    rw [e1] at q'
    cases q'
    exact (h O ad H x y d e _ rx ry e1).imp fun Q k => .inl k
  | none =>
    have q' : (f d e).or (g d e) = some z := q
    rw [e1] at q'
    exact (h' O ad H x y d e _ rx ry q').imp fun Q k => .inr k
theorem UnP.or {r r' : V → Hp → VK → Prop} {f g : D → Option D} (h : UnP K mg r f) (h' : UnP K mg r' g) : UnP K mg (fun x H Q => r x H Q ∨ r' x H Q) (fun d => (f d).or (g d)) := by
  intro O ad H x d z rx q
  cases e1 : f d with
  | some u =>
    have q' : (f d).or (g d) = some z := q
    rw [e1] at q'
    cases q'
    exact (h O ad H x d _ rx e1).imp fun Q k => .inl k
  | none =>
    have q' : (f d).or (g d) = some z := q
    rw [e1] at q'
    exact (h' O ad H x d _ rx q').imp fun Q k => .inr k
theorem liftO_ok {ρ : Ro} {σ : L2.St} {O : Addr → Prop} {ad : List Addr} {H : Hp} {S : Sg} {o : Option D} {Q : VK} (h : PostE K mg W ρ σ Q O ad H (liftO S o)) : ∃ z, o = some z := by
  cases o with
  | some z => exact ⟨z, rfl⟩
  | none => exact h.elim
theorem w_op2 {r : R2} {f : D → D → Option D} {a b : ME} (hf : OpP K mg r f) : ∀ σ H Q, Ee K mg W (e_op2 f a b) σ H Q → tOp r (Ee K mg W a) (Ee K mg W b) σ H Q := by
  intro σ H Q q
  have q2 := bind2E (f := fun ρ d e S2 => liftO S2 ((deref ρ S2 d).bind fun d' => (deref ρ S2 e).bind fun e' => f d' e')) q
  obtain ⟨O, ad, S, ρ, s, fr, h⟩ := q2
  refine ⟨O, ad, S, ρ, s, fr, ?_⟩
  have imp : ∀ (x : V) (H1 : Hp), (Ee K mg W b σ H1 fun w H2 => AtE2 K mg σ H2 x w fun O ad ρ S d e => PostE K mg W ρ σ Q O ad H2 (liftO S ((deref ρ S d).bind fun d' => (deref ρ S e).bind fun e' => f d' e'))) → Ee K mg W b σ H1 fun y H2 => r x y H2 Q := by
    intro x H1 g
    obtain ⟨O, ad, S, ρ, s, fr, h⟩ := g
    refine ⟨O, ad, S, ρ, s, fr, ?_⟩
    have imp2 : ∀ (y : V) (H2 : Hp), (AtE2 K mg σ H2 x y fun O ad ρ S d e => PostE K mg W ρ σ Q O ad H2 (liftO S ((deref ρ S d).bind fun d' => (deref ρ S e).bind fun e' => f d' e'))) → r x y H2 Q := by
      rintro y H2 ⟨O, ad, S, ρ, d, e, s, fr, r1, r2, k⟩
      obtain ⟨z, ez⟩ := liftO_ok k
      obtain ⟨d', ed, ez⟩ := Option.bind_eq_some_iff.mp ez
      obtain ⟨e', ee, ez⟩ := Option.bind_eq_some_iff.mp ez
      have kv := hf O ad H2 x y d' e' z (deref_rep fr s r1 ed) (deref_rep fr s r2 ee) ez
      rw [ed] at k
      simp only [Option.bind_some, ee, ez, liftO] at k
      exact kv.go s k
    cases e : b ρ S with
    | ok d S1 => rw [e] at h; exact fun v O' ad' H' t z r => imp2 _ _ (h v O' ad' H' t z r)
    | er x fs S1 => rw [e] at h; exact h
    | no => rw [e] at h; exact h
  cases e : a ρ S with
  | ok d S1 => rw [e] at h; exact fun v O' ad' H' t z r => imp _ _ (h v O' ad' H' t z r)
  | er x fs S1 => rw [e] at h; exact h
  | no => rw [e] at h; exact h
/-- a reading's end is weakened -/
theorem Ee.imp {m : ME} {σ : L2.St} {H : Hp} {Q Q' : VK} (h : Ee K mg W m σ H Q) (k : ∀ v H, Q v H → Q' v H) : Ee K mg W m σ H Q' := by
  obtain ⟨O, ad, S, ρ, s, fr, h⟩ := h
  refine ⟨O, ad, S, ρ, s, fr, ?_⟩
  cases e : m ρ S with
  | ok d S1 => rw [e] at h; exact fun v O' ad' H' t z r => k _ _ (h v O' ad' H' t z r)
  | er x fs S1 => rw [e] at h; exact h
  | no => rw [e] at h; exact h
theorem Et.imp {m : MT} {σ : L2.St} {H : Hp} {Q Q' : Bool → Hp → Prop} (h : Et K mg W m σ H Q) (k : ∀ v H, Q v H → Q' v H) : Et K mg W m σ H Q' := by
  obtain ⟨O, ad, S, ρ, s, fr, h⟩ := h
  refine ⟨O, ad, S, ρ, s, fr, ?_⟩
  cases e : m ρ S with
  | ok d S1 => rw [e] at h; exact fun O' ad' H' t z => k _ _ (h O' ad' H' t z)
  | er x fs S1 => rw [e] at h; exact h
  | no => rw [e] at h; exact h
theorem Ea.imp {m : MA} {σ : L2.St} {H : Hp} {Q Q' : List V → Hp → Prop} (h : Ea K mg W m σ H Q) (k : ∀ v H, Q v H → Q' v H) : Ea K mg W m σ H Q' := by
  obtain ⟨O, ad, S, ρ, s, fr, h⟩ := h
  refine ⟨O, ad, S, ρ, s, fr, ?_⟩
  cases e : m ρ S with
  | ok d S1 => rw [e] at h; exact fun v O' ad' H' t z r => k _ _ (h v O' ad' H' t z r)
  | er x fs S1 => rw [e] at h; exact h
  | no => rw [e] at h; exact h
theorem w_op1 {r : V → Hp → VK → Prop} {f : D → Option D} {a : ME} (hf : UnP K mg r f) : ∀ σ H Q, Ee K mg W (e_op1 f a) σ H Q → tUn r (Ee K mg W a) σ H Q := by
  intro σ H Q q
  refine (bindE (f := fun ρ d S1 => liftO S1 ((deref ρ S1 d).bind f)) q).imp fun x H1 g => ?_
  obtain ⟨O, ad, S, ρ, d, s, fr, r1, k⟩ := g
  obtain ⟨z, ez⟩ := liftO_ok k
  obtain ⟨d', ed, ez⟩ := Option.bind_eq_some_iff.mp ez
  have kv := hf O ad H1 x d' z (deref_rep fr s r1 ed) ez
  rw [ed] at k
  simp only [Option.bind_some, ez, liftO] at k
  exact kv.go s k
end

/-! ### tests -/
def liftB (S : Sg) : D → Out Bool
  | .bl b => .ok b S
  | _ => .no
def t_e (m : ME) : MT := fun ρ S => (m ρ S).bind fun d S1 => liftB S1 d
def t_not (t : MT) : MT := fun ρ S => (t ρ S).bind fun b S1 => .ok (!b) S1
def t_and (t u : MT) : MT := fun ρ S => (t ρ S).bind fun b S1 => if b = true then u ρ S1 else .ok false S1
def t_or (t u : MT) : MT := fun ρ S => (t ρ S).bind fun b S1 => if b = true then .ok true S1 else u ρ S1
def e_if (t : MT) (a b : ME) : ME := fun ρ S => (t ρ S).bind fun c S1 => if c = true then a ρ S1 else b ρ S1
def e_not (m : ME) : ME := fun ρ S => (m ρ S).bind fun d S1 => (liftB S1 d).bind fun b S2 => .ok (.bl (!b)) S2
def e_and (a b : ME) : ME := fun ρ S => (a ρ S).bind fun d S1 => (liftB S1 d).bind fun c S2 => if c = true then b ρ S2 else .ok (.bl false) S2
def e_or (a b : ME) : ME := fun ρ S => (a ρ S).bind fun d S1 => (liftB S1 d).bind fun c S2 => if c = true then .ok (.bl true) S2 else b ρ S2
section
variable {K : Fg} {mg : Mg} {W : WX}
theorem liftB_of {ρ : Ro} {σ : L2.St} {O : Addr → Prop} {ad : List Addr} {H : Hp} {S : Sg} {d : D} {v : V} {Q : Bool → Hp → Prop} (r : RepR K mg O ad ρ σ H v d) (h : PostT K mg W ρ σ Q O ad H (liftB S d)) : ∃ b, d = .bl b ∧ v = .bl b := by
  cases d with
  | bl b =>
    have r' : Rep K mg (hide O H) ad v (.bl b) := r
    cases r'
    exact ⟨b, rfl, rfl⟩
  | _ => exact h.elim
theorem w_test {t : TE} {m : ME} (h : ∀ σ H Q, Ee K mg W m σ H Q → t σ H Q) : ∀ σ H Q, Et K mg W (t_e m) σ H Q → tTest t σ H Q := by
  intro σ H Q q
  refine h _ _ _ ((bindET (f := fun _ d S1 => liftB S1 d) q).imp fun v H1 g => ?_)
  obtain ⟨O, ad, S, ρ, d, s, fr, r1, k⟩ := g
  obtain ⟨b, rfl, rfl⟩ := liftB_of r1 k
  exact ⟨b, rfl, k O ad H1 (.refl _ _ _) s⟩
theorem w_testB {t : TE} {m : ME} (h : ∀ σ H Q, Ee K mg W m σ H Q → t σ H Q) : ∀ σ H Q, Et K mg W (t_e m) σ H Q → tB t σ H Q := w_test h
theorem w_not {t : MT} : ∀ σ H Q, Et K mg W (t_not t) σ H Q → tNot (Et K mg W t) σ H Q := by
  intro σ H Q q
  refine (bindTT (f := fun _ b S1 => .ok (!b) S1) q).imp fun b H1 g => ?_
  obtain ⟨O, ad, S, ρ, s, fr, k⟩ := g
  exact k O ad H1 (.refl _ _ _) s
theorem w_and {t u : MT} : ∀ σ H Q, Et K mg W (t_and t u) σ H Q → tAnd (Et K mg W t) (Et K mg W u) σ H Q := by
  intro σ H Q q
  refine (bindTT (f := fun ρ b S1 => if b = true then u ρ S1 else .ok false S1) q).imp fun b H1 g => ?_
  obtain ⟨O, ad, S, ρ, s, fr, k⟩ := g
  cases b with
  | true =>
    rw [if_pos rfl] at k ⊢
    exact ⟨O, ad, S, ρ, s, fr, k⟩
  | false =>
    rw [if_neg Bool.false_ne_true] at k ⊢
    exact k O ad H1 (.refl _ _ _) s
theorem w_or {t u : MT} : ∀ σ H Q, Et K mg W (t_or t u) σ H Q → tOr (Et K mg W t) (Et K mg W u) σ H Q := by
  intro σ H Q q
  refine (bindTT (f := fun ρ b S1 => if b = true then .ok true S1 else u ρ S1) q).imp fun b H1 g => ?_
  obtain ⟨O, ad, S, ρ, s, fr, k⟩ := g
  cases b with
  | true =>
    rw [if_pos rfl] at k ⊢
    exact k O ad H1 (.refl _ _ _) s
  | false =>
    rw [if_neg Bool.false_ne_true] at k ⊢
    exact ⟨O, ad, S, ρ, s, fr, k⟩
theorem w_ifE {t : MT} {a b : ME} : ∀ σ H Q, Ee K mg W (e_if t a b) σ H Q → tIf (Et K mg W t) (Ee K mg W a) (Ee K mg W b) σ H Q := by
  intro σ H Q q
  refine (bindTE (f := fun ρ c S1 => if c = true then a ρ S1 else b ρ S1) q).imp fun c H1 g => ?_
  obtain ⟨O, ad, S, ρ, s, fr, k⟩ := g
  cases c with
  | true =>
    rw [if_pos rfl] at k ⊢
    exact ⟨O, ad, S, ρ, s, fr, k⟩
  | false =>
    rw [if_neg Bool.false_ne_true] at k ⊢
    exact ⟨O, ad, S, ρ, s, fr, k⟩
theorem post_bl {ρ : Ro} {σ : L2.St} {O : Addr → Prop} {ad : List Addr} {H : Hp} {S : Sg} {Q : VK} {b : Bool} (s : Sto K mg O ad S H) (k : PostE K mg W ρ σ Q O ad H (.ok (.bl b) S)) : Q (.bl b) H :=
  k _ O ad H (.refl _ _ _) s (repR_of (d := .bl b) (.bl b))
theorem liftB_ofE {ρ : Ro} {σ : L2.St} {O : Addr → Prop} {ad : List Addr} {H : Hp} {S : Sg} {d : D} {v : V} {f : Bool → Sg → Out D} {Q : VK} (r : RepR K mg O ad ρ σ H v d) (h : PostE K mg W ρ σ Q O ad H ((liftB S d).bind f)) : ∃ b, d = .bl b ∧ v = .bl b := by
  cases d with
  | bl b =>
    have r' : Rep K mg (hide O H) ad v (.bl b) := r
    cases r'
    exact ⟨b, rfl, rfl⟩
  | _ => exact h.elim
theorem w_notE {m : ME} : ∀ σ H Q, Ee K mg W (e_not m) σ H Q → tNotV (Ee K mg W m) σ H Q := by
  intro σ H Q q
  refine (bindE (f := fun _ d S1 => (liftB S1 d).bind fun b S2 => .ok (.bl (!b)) S2) q).imp fun v H1 g => ?_
  obtain ⟨O, ad, S, ρ, d, s, fr, r1, k⟩ := g
  obtain ⟨b, rfl, rfl⟩ := liftB_ofE r1 k
  exact ⟨b, rfl, post_bl s k⟩
theorem w_andE {a b : ME} : ∀ σ H Q, Ee K mg W (e_and a b) σ H Q → tAndV (Ee K mg W a) (Ee K mg W b) σ H Q := by
  intro σ H Q q
  refine (bindE (f := fun ρ d S1 => (liftB S1 d).bind fun c S2 => if c = true then b ρ S2 else .ok (.bl false) S2) q).imp fun v H1 g => ?_
  obtain ⟨O, ad, S, ρ, d, s, fr, r1, k⟩ := g
  obtain ⟨c, rfl, rfl⟩ := liftB_ofE r1 k
  refine ⟨c, rfl, ?_⟩
  cases c with
  | true => exact ⟨O, ad, S, ρ, s, fr, k⟩
  | false => exact post_bl s k
theorem w_orE {a b : ME} : ∀ σ H Q, Ee K mg W (e_or a b) σ H Q → tOrV (Ee K mg W a) (Ee K mg W b) σ H Q := by
  intro σ H Q q
  refine (bindE (f := fun ρ d S1 => (liftB S1 d).bind fun c S2 => if c = true then .ok (.bl true) S2 else b ρ S2) q).imp fun v H1 g => ?_
  obtain ⟨O, ad, S, ρ, d, s, fr, r1, k⟩ := g
  obtain ⟨c, rfl, rfl⟩ := liftB_ofE r1 k
  refine ⟨c, rfl, ?_⟩
  cases c with
  | true => exact post_bl s k
  | false => exact ⟨O, ad, S, ρ, s, fr, k⟩
end
section
variable {X : Cx} {W : WX} {a b c e : Expr} {pos : Pos} {op : CmpOp} {ta tb : ME} {tm um : MT}
/-- a comparison by its rule -/
theorem E_cmp {r : R2} {f : D → D → Option D} (ho : OpR X (compareOp op) r) (hf : OpP X.K X.mg r f) (hm : behindInMarks op b = false) (ha : PE X a (Ee X.K X.mg W ta)) (hb : PE X b (Ee X.K X.mg W tb)) : PE X (.Compare a [op] [b] pos) (Ee X.K X.mg W (e_op2 f ta tb)) :=
  pe_of (pe_cmpR ho ha hb hm) (w_op2 hf)
theorem T_cmp {r : R2} {f : D → D → Option D} (ho : OpR X (compareOp op) r) (hf : OpP X.K X.mg r f) (hm : behindInMarks op b = false) (ha : PE X a (Ee X.K X.mg W ta)) (hb : PE X b (Ee X.K X.mg W tb)) : PT X (.Compare a [op] [b] pos) (Et X.K X.mg W (t_e (e_op2 f ta tb))) :=
  pt_of (pt_cmpR ho ha hb hm) (w_test (w_op2 hf))
theorem E_bin {o : Operator} {r : R2} {f : D → D → Option D} (ho : OpR X (binaryOp o) r) (hf : OpP X.K X.mg r f) (ha : PE X a (Ee X.K X.mg W ta)) (hb : PE X b (Ee X.K X.mg W tb)) : PE X (.BinOp a o b pos) (Ee X.K X.mg W (e_op2 f ta tb)) :=
  pe_of (pe_op ho ha hb) (w_op2 hf)
theorem E_ix {r : R2} {f : D → D → Option D} (hr : IxR X r) (hf : OpP X.K X.mg r f) (hs : PlainIx b) (ha : PE X a (Ee X.K X.mg W ta)) (hb : PE X b (Ee X.K X.mg W tb)) : PE X (.Subscript a b pos) (Ee X.K X.mg W (e_op2 f ta tb)) :=
  pe_of (pe_ix hr ha hb hs) (w_op2 hf)
theorem T_val {m : ME} (h : PE X e (Ee X.K X.mg W m)) (he : ∀ whole, isTrue e X.env whole = (do let v ← whole; standAt e.pos; holding [v] (truthy v)) := by intro _; rfl) : PT X e (Et X.K X.mg W (t_e m)) :=
  pt_of (pt_val h he) (w_testB fun _ _ _ q => q)
theorem T_not (h : PT X a (Et X.K X.mg W tm)) : PT X (.UnaryOp .Not a pos) (Et X.K X.mg W (t_not tm)) := pt_of (pt_not h) w_not
theorem W_and {rest : List Expr} (ha : PT X a (Et X.K X.mg W tm)) (hb : PW X (.BoolOp .And (b :: rest) pos) (Et X.K X.mg W um)) : PW X (.BoolOp .And (a :: b :: rest) pos) (Et X.K X.mg W (t_and tm um)) := pw_of (pw_and ha hb) w_and
theorem W_or {rest : List Expr} (ha : PT X a (Et X.K X.mg W tm)) (hb : PW X (.BoolOp .Or (b :: rest) pos) (Et X.K X.mg W um)) : PW X (.BoolOp .Or (a :: b :: rest) pos) (Et X.K X.mg W (t_or tm um)) := pw_of (pw_or ha hb) w_or
theorem E_if (hc : PT X c (Et X.K X.mg W tm)) (ha : PE X a (Ee X.K X.mg W ta)) (hb : PE X b (Ee X.K X.mg W tb)) : PE X (.IfExp c a b pos) (Ee X.K X.mg W (e_if tm ta tb)) := pe_of (pe_ifExp hc ha hb) w_ifE
theorem E_not (ha : PE X a (Ee X.K X.mg W ta)) : PE X (.UnaryOp .Not a pos) (Ee X.K X.mg W (e_not ta)) := pe_of (pe_not ha) w_notE
theorem E_and {rest : List Expr} (ha : PE X a (Ee X.K X.mg W ta)) (hb : PE X (.BoolOp .And (b :: rest) pos) (Ee X.K X.mg W tb)) : PE X (.BoolOp .And (a :: b :: rest) pos) (Ee X.K X.mg W (e_and ta tb)) := pe_of (pe_and ha hb) w_andE
theorem E_or {rest : List Expr} (ha : PE X a (Ee X.K X.mg W ta)) (hb : PE X (.BoolOp .Or (b :: rest) pos) (Ee X.K X.mg W tb)) : PE X (.BoolOp .Or (a :: b :: rest) pos) (Ee X.K X.mg W (e_or ta tb)) := pe_of (pe_or ha hb) w_orE
end

/-! ### arguments -/
def a_nil : MA := fun _ S => .ok [] S
def a_cons (m : ME) (r : MA) : MA := fun ρ S => (m ρ S).bind fun d S1 => (r ρ S1).bind fun ds S2 => .ok (d :: ds) S2
section
variable {K : Fg} {mg : Mg} {W : WX}
theorem PairedR.step {O O1 : Addr → Prop} {ad ad1 : List Addr} {ρ : Ro} {σ : L2.St} {H H1 : Hp} (hid : ∀ a, a ∈ ad → O a) (s : Stp O ad H O1 ad1 H1) : ∀ {vs : List V} {ds : List D}, Paired (RepR K mg O ad ρ σ H) vs ds → Paired (RepR K mg O1 ad1 ρ σ H1) vs ds
  | _, _, .nil => .nil
  | _, _, .cons r t => .cons (r.step hid s) (PairedR.step hid s t)
theorem w_acons {m : ME} {r : MA} : ∀ σ H Q, Ea K mg W (a_cons m r) σ H Q → tCons (Ee K mg W m) (Ea K mg W r) σ H Q := by
  intro σ H Q q
  refine (bindEA (f := fun ρ d S1 => (r ρ S1).bind fun ds S2 => .ok (d :: ds) S2) q).imp fun v H1 g => ?_
  obtain ⟨O, ad, S, ρ, d, s, fr, r1, k⟩ := g
  refine ⟨O, ad, S, ρ, s, fr, ?_⟩
  cases e : r ρ S with
  | ok ds S1 =>
    rw [e] at k
    exact fun vs O' ad' H' t z rs => k (v :: vs) O' ad' H' t z (.cons (r1.step s.hid t) rs)
  | er x fs S1 => rw [e] at k; exact k
  | no => rw [e] at k; exact k
end
section
variable {X : Cx} {W : WX}
theorem A_nil : PA X [] (Ea X.K X.mg W a_nil) := pa_of pa_nil fun σ H Q q => by
  obtain ⟨O, ad, S, ρ, s, fr, k⟩ := q
  exact k [] O ad H (.refl _ _ _) s .nil
theorem A_cons {e : Expr} {es : List Expr} {m : ME} {r : MA} (he : PE X e (Ee X.K X.mg W m)) (hr : PA X es (Ea X.K X.mg W r)) (hs : starEach (e :: es) X.env = (false, eval e X.env) :: starEach es X.env := by rfl) :
    PA X (e :: es) (Ea X.K X.mg W (a_cons m r)) := pa_of (pa_cons he hr hs) w_acons
theorem K_nil : PK X [] (Ea X.K X.mg W a_nil) := ⟨fun pos pins s σ H Q I q => pk_nil.run pos pins s σ H Q I (by
  obtain ⟨O, ad, S, ρ, s, fr, k⟩ := q
  exact k [] O ad H (.refl _ _ _) s .nil)⟩
theorem K_cons {e : Expr} {kws : List Keyword} {nm : Option Str} {kpos : Pos} {m : ME} {r : MA} (he : PE X e (Ee X.K X.mg W m)) (hr : PK X kws (Ea X.K X.mg W r)) : PK X (⟨nm, e, kpos⟩ :: kws) (Ea X.K X.mg W (a_cons m r)) :=
  ⟨fun pos pins s σ H Q I q => (pk_cons he hr).run pos pins s σ H Q I (w_acons _ _ _ q)⟩
end
end Gd

/-! Gd, part 3: new things, statements, defs, calls. -/
namespace Gd
open PySem L2

/-! ### a new thing -/
section
variable (K : Fg) (mg : Mg)
def PostF (W : WX) (ρ : Ro) (σ : L2.St) (Q : VK) (O : Addr → Prop) (ad : List Addr) (H : Hp) : Out D → Prop
  | .ok d S' => ∀ p O' ad' H', Stp O ad H O' ad' H' → Sto K mg O' ad' S' H' → O' p → p ∉ ad' → H p = none → MRep K mg (hide O' H') ad' H' p d → Q (.ref p) H'
  | .er x fs S' => ∀ cls dd O' ad' H', Stp O ad H O' ad' H' → Sto K mg O' ad' S' H' → XRep K mg O' ad' H' cls dd x fs → W cls dd σ H'
  | .no => False
def Ef (W : WX) (m : ME) : TE := fun σ H Q => ∃ O ad S ρ, Sto K mg O ad S H ∧ Fre K mg O ad ρ σ H ∧ PostF K mg W ρ σ Q O ad H (m ρ S)
end
def e_sh (m : ME) : ME := fun ρ S => (m ρ S).bind fun d S1 => .ok (.obj S1.length) (S1 ++ [d])
section
variable {K : Fg} {mg : Mg} {W : WX} {O O1 : Addr → Prop} {ad ad1 : List Addr} {S S1 : Sg} {ρ : Ro} {σ : L2.St} {H H1 : Hp}
theorem PostF.rebase {Q : VK} {o : Out D} (h : PostF K mg W ρ σ Q O ad H o) (s : Stp O ad H O1 ad1 H1) (hid : ∀ a, a ∈ ad → O a) (dom : ∀ a, O1 a → ∃ o, H1 a = some o) : PostF K mg W ρ σ Q O1 ad1 H1 o := by
  cases o with
  | ok d S' =>
    refine fun p O' ad' H' t z h1 h2 h3 r => h p O' ad' H' (s.trans t hid dom) z h1 h2 ?_ r
    cases e : H p with
    | none => rfl
    | some o =>
      by_cases m : p ∈ ad
      · exact absurd (t.mem (s.mem m)) h2
      · rw [s.fr p o e m] at h3; cases h3
  | er x fs S' => exact fun cls dd O' ad' H' t z r => h cls dd O' ad' H' (s.trans t hid dom) z r
  | no => exact h
/-- the store does not hang on a young thing being seen or not -/
theorem Sto.seen (s : Sto K mg O ad S H) {p : Addr} (hp : p ∉ ad) : Sto K mg (fun a => O a ∧ a ≠ p) ad S H :=
  ⟨s.len, s.nd, fun a h => ⟨s.hid a h, fun e => hp (e ▸ h)⟩, fun a h => s.dom a h.1, fun n d h => by
    obtain ⟨a, h1, h2⟩ := s.ob n d h
    exact ⟨a, h1, h2.mono (fun b o e => hide_of (fun q => (of_hide e).1 q.1) (of_hide e).2) (fun _ _ e => e) fun _ e => e⟩⟩
theorem hide_le {O O' : Addr → Prop} {H : Hp} (h : ∀ a, O' a → O a) : ∀ b o, hide O H b = some o → hide O' H b = some o := fun b o e => hide_of (fun q => (of_hide e).1 (h b q)) (of_hide e).2
theorem w_fz {m : ME} : ∀ σ H Q, Ee K mg W m σ H Q → Ef K mg W m σ H Q := by
  rintro σ H Q ⟨O, ad, S, ρ, s, fr, h⟩
  refine ⟨O, ad, S, ρ, s, fr, ?_⟩
  cases e : m ρ S with
  | ok d S1 =>
    rw [e] at h
    intro p O' ad' H' t z h1 h2 h3 r
    have np : ∀ a, O a → a ≠ p := fun a ha q => by
      obtain ⟨o, ho⟩ := s.dom a ha
      rw [q, h3] at ho; cases ho
    refine h (.ref p) (fun a => O' a ∧ a ≠ p) ad' H' ⟨t.fr, fun a ha => ⟨t.op a ha, np a ha⟩, fun a ha => t.oq a ha.1, t.ap⟩ (z.seen h2) (repR_of ?_)
    have r' : MRep K mg (hide (fun a => O' a ∧ a ≠ p) H') ad' H' p d := r.mono (hide_le fun a q => q.1) (fun _ _ e => e) fun _ e => e
    exact r'.rep fun o e => hide_of (fun q => q.2 rfl) e
  | er x fs S1 => rw [e] at h; exact h
  | no => rw [e] at h; exact h
theorem w_sh {m : ME} : ∀ σ H Q, Ee K mg W (e_sh m) σ H Q → Ef K mg W m σ H Q := by
  rintro σ H Q ⟨O, ad, S, ρ, s, fr, h⟩
  refine ⟨O, ad, S, ρ, s, fr, ?_⟩
  unfold e_sh at h
  cases e : m ρ S with
  | ok d S1 =>
    rw [e] at h
    intro p O' ad' H' t z h1 h2 h3 r
    refine h (.ref p) O' (ad' ++ [p]) H' ⟨t.fr, t.op, t.oq, ?_⟩ ⟨by rw [List.length_append, List.length_append, z.len] <;> rfl, ?_, ?_, z.dom, ?_⟩ (repR_of (.obj ?_))
    · obtain ⟨m1, e1, f1⟩ := t.ap
      refine ⟨m1 ++ [p], by rw [e1, List.append_assoc], fun a ha => ?_⟩
      rcases List.mem_append.mp ha with q | q
      · exact f1 a q
      · rw [List.mem_singleton.mp q]; exact h3
    · refine List.nodup_append.mpr ⟨z.nd, by simp, fun a ha b hb q => ?_⟩
      rw [List.mem_singleton.mp hb] at q
      exact h2 (q ▸ ha)
    · intro a ha
      rcases List.mem_append.mp ha with q | q
      · exact z.hid a q
      · rw [List.mem_singleton.mp q]; exact h1
    · intro n d' hn
      by_cases hl : n < S1.length
      · rw [List.getElem?_append_left hl] at hn
        obtain ⟨a, q1, q2⟩ := z.ob n d' hn
        exact ⟨a, pre_get n a q1, q2.mono (fun _ _ e => e) pre_get fun _ e => e⟩
      · have hb : n < (S1 ++ [d]).length := (List.getElem?_eq_some_iff.mp hn).1
        rw [List.length_append] at hb
        have hb' : n < S1.length + 1 := hb
        have en : n = S1.length := by omega
        subst en
        rw [List.getElem?_append_right (Nat.le_refl _), Nat.sub_self] at hn
        cases hn
        refine ⟨p, ?_, r.mono (fun _ _ e => e) pre_get fun _ e => e⟩
        rw [← z.len, List.getElem?_append_right (Nat.le_refl _), Nat.sub_self]
        rfl
    · show (ad' ++ [p])[S1.length]? = some p
      rw [← z.len, List.getElem?_append_right (Nat.le_refl _), Nat.sub_self]
      rfl
  | er x fs S1 => rw [e] at h; exact h
  | no => rw [e] at h; exact h
/-- what stands at p is new: owned by nobody yet -/
theorem new_own {o : HO} {d : D} {p : Addr} (s : Sto K mg O ad S H) (hp : H p = none) (r : MRep K mg (hide O H) ad (upd H p o) p d) :
    Stp O ad H (fun a => O a ∨ a = p) ad (upd H p o) ∧ Sto K mg (fun a => O a ∨ a = p) ad S (upd H p o) ∧ p ∉ ad ∧ MRep K mg (hide (fun a => O a ∨ a = p) (upd H p o)) ad (upd H p o) p d := by
  have np : p ∉ ad := fun m => by
    obtain ⟨o', e⟩ := s.dom p (s.hid p m)
    rw [hp] at e; cases e
  have k : ∀ b o', H b = some o' → upd H p o b = some o' := fun b o' e => by rw [upd_ne (ne_of_none e hp)]; exact e
  have hk : ∀ b o', hide O H b = some o' → hide (fun a => O a ∨ a = p) (upd H p o) b = some o' := fun b o' e => by
    obtain ⟨n, e⟩ := of_hide e
    exact hide_of (fun q => q.elim n (ne_of_none e hp)) (k b o' e)
  refine ⟨⟨fun b o' e _ => k b o' e, fun a h => .inl h, fun a h => h.elim .inl fun e => .inr (e ▸ hp), [], by simp, fun _ h => nomatch h⟩, ⟨s.len, s.nd, fun a h => .inl (s.hid a h), fun a h => ?_, fun n d' h => ?_⟩, np, r.mono hk (fun _ _ e => e) fun _ e => e⟩
  · rcases h with h | h
    · obtain ⟨o', e⟩ := s.dom a h
      exact ⟨o', k a o' e⟩
    · rw [h]; exact ⟨o, upd_same⟩
  · obtain ⟨a, h1, h2⟩ := s.ob n d' h
    exact ⟨a, h1, h2.mono hk (fun _ _ e => e) fun o' e => k a o' e⟩
/-- what stands at p is new and never changes -/
theorem new_still {o : HO} {p : Addr} (s : Sto K mg O ad S H) (hp : H p = none) : Stp O ad H O ad (upd H p o) ∧ Sto K mg O ad S (upd H p o) ∧ (∀ b o', hide O H b = some o' → hide O (upd H p o) b = some o') ∧ hide O (upd H p o) p = some o := by
  have k : ∀ b o', H b = some o' → upd H p o b = some o' := fun b o' e => by rw [upd_ne (ne_of_none e hp)]; exact e
  have hk : ∀ b o', hide O H b = some o' → hide O (upd H p o) b = some o' := fun b o' e => hide_of (of_hide e).1 (k b o' (of_hide e).2)
  have np : ¬ O p := fun q => by
    obtain ⟨o', e⟩ := s.dom p q
    rw [hp] at e; cases e
  refine ⟨⟨fun b o' e _ => k b o' e, fun _ h => h, fun _ h => .inl h, [], by simp, fun _ h => nomatch h⟩, ⟨s.len, s.nd, s.hid, fun a h => ?_, fun n d' h => ?_⟩, hk, hide_of np upd_same⟩
  · obtain ⟨o', e⟩ := s.dom a h
    exact ⟨o', k a o' e⟩
  · obtain ⟨a, h1, h2⟩ := s.ob n d' h
    exact ⟨a, h1, h2.mono hk (fun _ _ e => e) fun o' e => k a o' e⟩
theorem bindAE {m : MA} {f : Ro → List D → Sg → Out D} {Q : VK} (h : Ee K mg W (fun ρ S => (m ρ S).bind (f ρ)) σ H Q) :
    Ea K mg W m σ H fun vs H1 => ∃ O ad S ρ ds, Sto K mg O ad S H1 ∧ Fre K mg O ad ρ σ H1 ∧ Paired (RepR K mg O ad ρ σ H1) vs ds ∧ PostE K mg W ρ σ Q O ad H1 (f ρ ds S) := by
  obtain ⟨O, ad, S, ρ, s, fr, h⟩ := h
  refine ⟨O, ad, S, ρ, s, fr, ?_⟩
  dsimp only at h
  cases e : m ρ S with
  | ok d S1 =>
    rw [e] at h
    exact fun v O' ad' H' t z r => ⟨O', ad', S1, ρ, d, z, fr.step s.hid t, r, PostE.rebase h t s.hid z.dom⟩
  | er x fs S1 => rw [e] at h; exact h
  | no => rw [e] at h; exact h
theorem bindAF {m : MA} {f : Ro → List D → Sg → Out D} {Q : VK} (h : Ef K mg W (fun ρ S => (m ρ S).bind (f ρ)) σ H Q) :
    Ea K mg W m σ H fun vs H1 => ∃ O ad S ρ ds, Sto K mg O ad S H1 ∧ Fre K mg O ad ρ σ H1 ∧ Paired (RepR K mg O ad ρ σ H1) vs ds ∧ PostF K mg W ρ σ Q O ad H1 (f ρ ds S) := by
  obtain ⟨O, ad, S, ρ, s, fr, h⟩ := h
  refine ⟨O, ad, S, ρ, s, fr, ?_⟩
  dsimp only at h
  cases e : m ρ S with
  | ok d S1 =>
    rw [e] at h
    exact fun v O' ad' H' t z r => ⟨O', ad', S1, ρ, d, z, fr.step s.hid t, r, PostF.rebase h t s.hid z.dom⟩
  | er x fs S1 => rw [e] at h; exact h
  | no => rw [e] at h; exact h
theorem bindEF {m : ME} {f : Ro → D → Sg → Out D} {Q : VK} (h : Ef K mg W (fun ρ S => (m ρ S).bind (f ρ)) σ H Q) :
    Ee K mg W m σ H fun v H1 => AtE K mg σ H1 v fun O ad ρ S d => PostF K mg W ρ σ Q O ad H1 (f ρ d S) := by
  obtain ⟨O, ad, S, ρ, s, fr, h⟩ := h
  refine ⟨O, ad, S, ρ, s, fr, ?_⟩
  dsimp only at h
  cases e : m ρ S with
  | ok d S1 =>
    rw [e] at h
    exact fun v O' ad' H' t z r => ⟨O', ad', S1, ρ, d, z, fr.step s.hid t, r, PostF.rebase h t s.hid z.dom⟩
  | er x fs S1 => rw [e] at h; exact h
  | no => rw [e] at h; exact h
theorem bind2F {m n : ME} {f : Ro → D → D → Sg → Out D} {Q : VK} (h : Ef K mg W (fun ρ S => (m ρ S).bind fun d S1 => (n ρ S1).bind fun e S2 => f ρ d e S2) σ H Q) :
    Ee K mg W m σ H fun v H1 => Ee K mg W n σ H1 fun w H2 => AtE2 K mg σ H2 v w fun O ad ρ S d e => PostF K mg W ρ σ Q O ad H2 (f ρ d e S) := by
  obtain ⟨O, ad, S, ρ, s, fr, h⟩ := h
  refine ⟨O, ad, S, ρ, s, fr, ?_⟩
  dsimp only at h
  cases e : m ρ S with
  | ok d S1 =>
    rw [e] at h
    intro v O1 ad1 H1 t z r
    have h1 : PostF K mg W ρ σ Q O1 ad1 H1 ((n ρ S1).bind fun e S2 => f ρ d e S2) := PostF.rebase h t s.hid z.dom
    have f1 := fr.step s.hid t
    refine ⟨O1, ad1, S1, ρ, z, f1, ?_⟩
    cases e2 : n ρ S1 with
    | ok d2 S2 =>
      rw [e2] at h1
      exact fun w O2 ad2 H2 t2 z2 r2 => ⟨O2, ad2, S2, ρ, d, d2, z2, f1.step z.hid t2, r.step z.hid t2, r2, PostF.rebase h1 t2 z.hid z2.dom⟩
    | er x fs S2 => rw [e2] at h1; exact h1
    | no => rw [e2] at h1; exact h1
  | er x fs S1 => rw [e] at h; exact h
  | no => rw [e] at h; exact h
end

/-! ### displays -/
def noLoc (ds : List D) : Bool := ds.all fun d => !isLoc d
def f_lst (r : MA) : ME := fun ρ S => (r ρ S).bind fun ds S1 => if noLoc ds = true ∧ ds.length ≤ 100000 then .ok (.lst ds) S1 else .no
def e_tup (r : MA) : ME := fun ρ S => (r ρ S).bind fun ds S1 => if noLoc ds = true ∧ ds.length ≤ 100000 then .ok (.tup ds) S1 else .no
theorem sz5 {n : Nat} (h : n ≤ 100000) : n ≤ sizeLine := Nat.le_trans h (by decide)
section
variable {K : Fg} {mg : Mg} {W : WX} {O O1 : Addr → Prop} {ad ad1 : List Addr} {S S1 : Sg} {ρ : Ro} {σ : L2.St} {H H1 : Hp}
theorem reps_of : ∀ {vs : List V} {ds : List D}, Paired (RepR K mg O ad ρ σ H) vs ds → noLoc ds = true → Reps K mg (hide O H) ad vs ds
  | _, _, .nil, _ => .nil
  | _, _, .cons r t, n => by
    have n' := List.all_eq_true.mp n
    refine .cons (r.rep ?_) (reps_of t (List.all_eq_true.mpr fun x hx => n' x (List.mem_cons_of_mem _ hx)))
    have := n' _ List.mem_cons_self
    simpa using this
theorem post_if {α : Type} {c : Prop} [Decidable c] {a : Out α} {P : Out α → Prop} (hn : ¬ P .no) (h : P (if c then a else .no)) : c ∧ P a := by
  by_cases hc : c
  · rw [if_pos hc] at h; exact ⟨hc, h⟩
  · rw [if_neg hc] at h; exact (hn h).elim
theorem w_lst {r : MA} : ∀ σ H Q, Ef K mg W (f_lst r) σ H Q → tLst (Ea K mg W r) σ H Q := by
  intro σ H Q q
  refine (bindAF (f := fun _ ds S1 => if noLoc ds = true ∧ ds.length ≤ 100000 then .ok (.lst ds) S1 else .no) q).imp fun vs H1 g => ?_
  obtain ⟨O, ad, S, ρ, ds, s, fr, r1, k⟩ := g
  obtain ⟨⟨c1, c2⟩, k⟩ := post_if (P := PostF K mg W ρ σ Q O ad H1) (fun z => z) k
  have rs := reps_of r1 c1
  refine ⟨by rw [rs.length]; exact sz5 c2, fun p hp => ?_⟩
  obtain ⟨t, z, np, mr⟩ := new_own (o := .lst vs) (d := .lst ds) s hp ⟨vs, upd_same, rs⟩
  exact k p _ ad _ t z (.inr rfl) np hp mr
theorem w_tup {r : MA} : ∀ σ H Q, Ee K mg W (e_tup r) σ H Q → tTup (Ea K mg W r) σ H Q := by
  intro σ H Q q
  refine (bindAE (f := fun _ ds S1 => if noLoc ds = true ∧ ds.length ≤ 100000 then .ok (.tup ds) S1 else .no) q).imp fun vs H1 g => ?_
  obtain ⟨O, ad, S, ρ, ds, s, fr, r1, k⟩ := g
  obtain ⟨⟨c1, c2⟩, k⟩ := post_if (P := PostE K mg W ρ σ Q O ad H1) (fun z => z) k
  have rs := reps_of r1 c1
  refine ⟨by rw [rs.length]; exact sz5 c2, fun p hp => ?_⟩
  obtain ⟨t, z, hk, e⟩ := new_still (o := .tup vs) s hp
  exact k _ _ ad _ t z (repR_of (.tup (.of e) (rs.mono hk fun _ _ e => e)))
end
section
variable {X : Cx} {W : WX}
theorem E_fz {e : Expr} {m : ME} (h : PE X e (Ef X.K X.mg W m)) : PE X e (Ee X.K X.mg W m) := pe_of h w_fz
theorem E_sh {e : Expr} {m : ME} (h : PE X e (Ef X.K X.mg W m)) : PE X e (Ee X.K X.mg W (e_sh m)) := pe_of h w_sh
theorem F_lst {es : List Expr} {pos : Pos} {r : MA} (h : PA X es (Ea X.K X.mg W r)) : PE X (.List es pos) (Ef X.K X.mg W (f_lst r)) := pe_of (pe_lst h) w_lst
theorem E_tup {es : List Expr} {x1} {pos : Pos} {r : MA} (h : PA X es (Ea X.K X.mg W r)) : PE X (.Tuple es x1 pos) (Ee X.K X.mg W (e_tup r)) := pe_of (pe_tup h) w_tup
end

/-! ### statements -/
def s_e (m : ME) (f : D → MS) : MS := fun ρ S => match m ρ S with
  | .ok d S1 => f d ρ S1
  | .er x fs S1 => .ex x fs ρ S1
  | .no => .no
def s_t (t : MT) (f : Bool → MS) : MS := fun ρ S => match t ρ S with
  | .ok b S1 => f b ρ S1
  | .er x fs S1 => .ex x fs ρ S1
  | .no => .no
def s_nx : MS := fun ρ S => .nx ρ S
def s_seq (a b : MS) : MS := fun ρ S => match a ρ S with
  | .nx ρ1 S1 => b ρ1 S1
  | o => o
def s_if (t : MT) (a b : MS) : MS := s_t t fun c => if c = true then a else b
def s_set (i : Nat) (m : ME) : MS := s_e m fun d ρ S => if isLoc d = true then .no else .nx (ρ.set i (.va d)) S
def s_own (i : Nat) (m : ME) : MS := s_e m fun d ρ S => .nx (ρ.set i (.ow d)) S
def s_do (m : ME) : MS := s_e m fun _ ρ S => .nx ρ S
def s_ret (m : ME) : MS := s_e m fun d ρ S => match d with
  | .loc i => (match deref ρ S (.loc i) with
    | some e => .rt e S
    | none => .no)
  | d => .rt d S
def s_retN : MS := fun _ S => .rt .non S
def s_bk : MS := fun ρ S => .bk ρ S
def s_ct : MS := fun ρ S => .ct ρ S
section
variable {K : Fg} {mg : Mg} {W : WX} {c : Ctx} {O O1 : Addr → Prop} {ad ad1 : List Addr} {S S1 : Sg} {ρ : Ro} {σ : L2.St} {H H1 : Hp} {Dn : Ends}
theorem PostS.rebase {o : OS} (h : PostS K mg W c Dn O ad H o) (g : Grow O ad H O1 ad1 H1) : PostS K mg W c Dn O1 ad1 H1 o := by
  cases o with
  | nx ρ S => exact fun σ' O' ad' H' t z => h σ' O' ad' H' (g.trans t) z
  | bk ρ S => exact fun σ' O' ad' H' t z => h σ' O' ad' H' (g.trans t) z
  | ct ρ S => exact fun σ' O' ad' H' t z => h σ' O' ad' H' (g.trans t) z
  | rt d S => exact h
  | ex x fs ρ S => exact fun cls dd σ' O' ad' H' t z r => h cls dd σ' O' ad' H' (g.trans t) z r
  | no => exact h
/-- the state behind an expression -/
def AtS (K : Fg) (mg : Mg) (σ : L2.St) (H : Hp) (R : Ctx → (Addr → Prop) → List Addr → Sg → Ro → Prop) : Prop := ∃ c O ad S ρ, Sta K mg c O ad S ρ σ H ∧ R c O ad S ρ
theorem bindS {m : ME} {f : D → MS} (h : Ss K mg W (s_e m f) Dn σ H) :
    Ee K mg W m σ H fun v H1 => AtS K mg σ H1 fun c O ad S ρ => ∃ d, RepR K mg O ad ρ σ H1 v d ∧ PostS K mg W c Dn O ad H1 (f d ρ S) := by
  obtain ⟨c, O, ad, S, ρ, z, h⟩ := h
  refine ⟨O, ad, S, ρ, z.sto, z.fre, ?_⟩
  unfold s_e at h
  cases e : m ρ S with
  | ok d S1 =>
    simp only [e] at h
    exact fun v O' ad' H' t z' r => ⟨c, O', ad', S1, ρ, z.step t z', d, r, h.rebase (t.grow z.sto.hid)⟩
  | er x fs S1 =>
    simp only [e] at h
    exact fun cls dd O' ad' H' t z' r => h cls dd σ O' ad' H' (t.grow z.sto.hid) (z.step t z') r
  | no => simp only [e] at h; exact h
theorem bindST {m : MT} {f : Bool → MS} (h : Ss K mg W (s_t m f) Dn σ H) :
    Et K mg W m σ H fun b H1 => AtS K mg σ H1 fun c O ad S ρ => PostS K mg W c Dn O ad H1 (f b ρ S) := by
  obtain ⟨c, O, ad, S, ρ, z, h⟩ := h
  refine ⟨O, ad, S, ρ, z.sto, z.fre, ?_⟩
  unfold s_t at h
  cases e : m ρ S with
  | ok d S1 =>
    simp only [e] at h
    exact fun O' ad' H' t z' => ⟨c, O', ad', S1, ρ, z.step t z', h.rebase (t.grow z.sto.hid)⟩
  | er x fs S1 =>
    simp only [e] at h
    exact fun cls dd O' ad' H' t z' r => h cls dd σ O' ad' H' (t.grow z.sto.hid) (z.step t z') r
  | no => simp only [e] at h; exact h
/-- a slot is given a value -/
theorem get_set {α : Type} {l : List α} {i j : Nat} {x y : α} (h : (l.set i x)[j]? = some y) : (i = j ∧ y = x ∧ j < l.length) ∨ (i ≠ j ∧ l[j]? = some y) := by
  by_cases e : i = j
  · subst e
    by_cases hl : i < l.length
    · rw [List.getElem?_set_self hl] at h
      cases h
      exact .inl ⟨rfl, rfl, hl⟩
    · rw [List.getElem?_eq_none (by rw [List.length_set]; omega)] at h; cases h
  · rw [List.getElem?_set_ne e] at h
    exact .inr ⟨e, h⟩
theorem Fre.set_va (f : Fre K mg O ad ρ σ H) {i : Nat} {v : V} {d : D} (r : Rep K mg (hide O H) ad v d) : Fre K mg O ad (ρ.set i (.va d)) (σ.set i (some v)) H := by
  refine ⟨by rw [List.length_set, List.length_set, f.len], fun j e h => ?_, fun j e h => ?_, fun j k e e' a n h1 h2 h3 => ?_⟩
  · rcases get_set h with ⟨rfl, e1, hl⟩ | ⟨n, h⟩
    · cases e1
      exact ⟨v, List.getElem?_set_self (by rw [f.len]; exact hl), r⟩
    · rw [List.getElem?_set_ne n]
      exact f.va j e h
  · rcases get_set h with ⟨rfl, e1, hl⟩ | ⟨n, h⟩
    · cases e1
    · rw [List.getElem?_set_ne n]
      exact f.ow j e h
  · rcases get_set h1 with ⟨rfl, e1, _⟩ | ⟨n1, h1⟩
    · cases e1
    · rcases get_set h2 with ⟨rfl, e1, _⟩ | ⟨n2, h2⟩
      · cases e1
      · rw [List.getElem?_set_ne n1] at h3
        rw [List.getElem?_set_ne n2]
        exact f.ap j k e e' a n h1 h2 h3
theorem Sta.set_va (z : Sta K mg c O ad S ρ σ H) {i : Nat} {v : V} {d : D} (r : Rep K mg (hide O H) ad v d) : Sta K mg c O ad S (ρ.set i (.va d)) (σ.set i (some v)) H :=
  ⟨z.sto, z.fre.set_va r, z.cst, fun j e a h1 h2 => by
    rcases get_set h1 with ⟨rfl, e1, _⟩ | ⟨n1, h1⟩
    · cases e1
    · rw [List.getElem?_set_ne n1] at h2
      exact z.owf j e a h1 h2⟩
theorem Sta.set_ow (z : Sta K mg c O ad S ρ σ H) {i : Nat} {p : Addr} {d : D} (h0 : c.H0 p = none) (hO : O p) (np : p ∉ ad) (r : MRep K mg (hide O H) ad H p d) (un : ∀ (j : Nat) e, ρ[j]? = some (.ow e) → j ≠ i → σ[j]? ≠ some (some (.ref p))) :
    Sta K mg c O ad S (ρ.set i (.ow d)) (σ.set i (some (.ref p))) H := by
  have f := z.fre
  refine ⟨z.sto, ⟨by rw [List.length_set, List.length_set, f.len], fun j e h => ?_, fun j e h => ?_, fun j k e e' a n h1 h2 h3 => ?_⟩, z.cst, fun j e a h1 h2 => ?_⟩
  · rcases get_set h with ⟨rfl, e1, hl⟩ | ⟨n, h⟩
    · cases e1
    · rw [List.getElem?_set_ne n]
      exact f.va j e h
  · rcases get_set h with ⟨rfl, e1, hl⟩ | ⟨n, h⟩
    · cases e1
      exact ⟨p, List.getElem?_set_self (by rw [f.len]; exact hl), hO, np, r⟩
    · rw [List.getElem?_set_ne n]
      exact f.ow j e h
  · rcases get_set h1 with ⟨rfl, e1, hl⟩ | ⟨n1, h1⟩
    · rw [List.getElem?_set_self (by rw [f.len]; exact hl)] at h3
      cases h3
      rcases get_set h2 with ⟨rfl, e2, _⟩ | ⟨n2, h2⟩
      · exact absurd rfl n
      · rw [List.getElem?_set_ne n2]
        exact un k _ h2 (Ne.symm n2)
    · rw [List.getElem?_set_ne n1] at h3
      rcases get_set h2 with ⟨rfl, e2, hl⟩ | ⟨n2, h2⟩
      · rw [List.getElem?_set_self (by rw [f.len]; exact hl)]
        intro q
        cases q
        exact un j _ h1 (Ne.symm n1) h3
      · rw [List.getElem?_set_ne n2]
        exact f.ap j k e e' a n h1 h2 h3
  · rcases get_set h1 with ⟨rfl, e1, hl⟩ | ⟨n1, h1⟩
    · rw [List.getElem?_set_self (by rw [f.len]; exact hl)] at h2
      cases h2
      exact h0
    · rw [List.getElem?_set_ne n1] at h2
      exact z.owf j e a h1 h2
theorem w_set {i : Nat} {m : ME} : ∀ Dn σ H, Ss K mg W (s_set i m) Dn σ H → tAsg (Ee K mg W m) (gName i) Dn σ H := by
  intro Dn σ H q
  refine (bindS (f := fun d ρ S => if isLoc d = true then .no else .nx (ρ.set i (.va d)) S) q).imp fun v H1 g => ?_
  obtain ⟨c, O, ad, S, ρ, z, d, r, k⟩ := g
  cases e : isLoc d with
  | true => rw [if_pos e] at k; exact k.elim
  | false =>
    rw [if_neg (by rw [e]; exact Bool.false_ne_true)] at k
    exact k _ O ad H1 (.refl _ _ _) (z.set_va (r.rep e))
theorem w_own {i : Nat} {m : ME} : ∀ Dn σ H, Ss K mg W (s_own i m) Dn σ H → tAsg (Ef K mg W m) (gName i) Dn σ H := by
  rintro Dn σ H ⟨c, O, ad, S, ρ, z, h⟩
  refine ⟨O, ad, S, ρ, z.sto, z.fre, ?_⟩
  unfold s_own s_e at h
  cases e : m ρ S with
  | ok d S1 =>
    simp only [e] at h
    intro p O' ad' H' t z' h1 h2 h3 r
    refine h _ O' ad' H' (t.grow z.sto.hid) ((z.step t z').set_ow (z.cst.fresh z.sto h3) h1 h2 r fun j e' hj _ q => ?_)
    obtain ⟨a, q1, q2, q3, q4⟩ := z.fre.ow j e' hj
    rw [q1] at q
    cases q
    obtain ⟨o, ho⟩ := q4.there
    rw [h3] at ho; cases ho
  | er x fs S1 =>
    simp only [e] at h
    exact fun cls dd O' ad' H' t z' r => h cls dd σ O' ad' H' (t.grow z.sto.hid) (z.step t z') r
  | no => simp only [e] at h; exact h
theorem w_do {m : ME} : ∀ Dn σ H, Ss K mg W (s_do m) Dn σ H → tDrop (Ee K mg W m) Dn σ H := by
  intro Dn σ H q
  refine (bindS (f := fun d ρ S => .nx ρ S) q).imp fun v H1 g => ?_
  obtain ⟨c, O, ad, S, ρ, z, d, r, k⟩ := g
  exact k σ O ad H1 (.refl _ _ _) z
theorem w_if {t : MT} {a b : MS} : ∀ Dn σ H, Ss K mg W (s_if t a b) Dn σ H → tIfS (Et K mg W t) (Ss K mg W a) (Ss K mg W b) Dn σ H := by
  intro Dn σ H q
  refine (bindST (f := fun c => if c = true then a else b) q).imp fun v H1 g => ?_
  obtain ⟨c, O, ad, S, ρ, z, k⟩ := g
  cases v with
  | true =>
    rw [if_pos rfl] at k ⊢
    exact ⟨c, O, ad, S, ρ, z, k⟩
  | false =>
    rw [if_neg Bool.false_ne_true] at k ⊢
    exact ⟨c, O, ad, S, ρ, z, k⟩
theorem w_seq {a b : MS} : ∀ Dn σ H, Ss K mg W (s_seq a b) Dn σ H → tSeq (Ss K mg W a) (Ss K mg W b) Dn σ H := by
  rintro Dn σ H ⟨c, O, ad, S, ρ, z, h⟩
  refine ⟨c, O, ad, S, ρ, z, ?_⟩
  unfold s_seq at h
  cases e : a ρ S with
  | nx ρ1 S1 =>
    simp only [e] at h
    exact fun σ' O' ad' H' g z' => ⟨c, O', ad', S1, ρ1, z', h.rebase g⟩
  | bk ρ1 S1 => simp only [e] at h; exact h
  | ct ρ1 S1 => simp only [e] at h; exact h
  | rt d S1 => simp only [e] at h; exact h
  | ex x fs ρ1 S1 => simp only [e] at h; exact h
  | no => simp only [e] at h; exact h
theorem w_nx : ∀ Dn σ H, Ss K mg W s_nx Dn σ H → tNext Dn σ H := by
  rintro Dn σ H ⟨c, O, ad, S, ρ, z, h⟩
  exact h σ O ad H (.refl _ _ _) z
theorem w_bk : ∀ Dn σ H, Ss K mg W s_bk Dn σ H → tBreak Dn σ H := by
  rintro Dn σ H ⟨c, O, ad, S, ρ, z, h⟩
  exact h σ O ad H (.refl _ _ _) z
theorem w_ct : ∀ Dn σ H, Ss K mg W s_ct Dn σ H → tCont Dn σ H := by
  rintro Dn σ H ⟨c, O, ad, S, ρ, z, h⟩
  exact h σ O ad H (.refl _ _ _) z
theorem w_retN : ∀ Dn σ H, Ss K mg W s_retN Dn σ H → tRetN Dn σ H := by
  rintro Dn σ H ⟨c, O, ad, S, ρ, z, h⟩
  exact h .non O ad H z.sto z.cst .non
theorem w_ret {m : ME} : ∀ Dn σ H, Ss K mg W (s_ret m) Dn σ H → tRet (Ee K mg W m) Dn σ H := by
  intro Dn σ H q
  refine (bindS (f := fun d ρ S => match d with | .loc i => (match deref ρ S (.loc i) with | some e => .rt e S | none => .no) | d => .rt d S) q).imp fun v H1 g => ?_
  obtain ⟨c, O, ad, S, ρ, z, d, r, k⟩ := g
  cases d with
  | loc i =>
    obtain ⟨⟨e, h1⟩, h2⟩ := r
    have dr : deref ρ S (.loc i) = some e := by show (match ρ[i]? with | some (.ow d) => some d | _ => none) = some e; rw [h1]
    simp only [dr] at k
    obtain ⟨a, h3, h4, h5, h6⟩ := z.fre.ow i e h1
    rw [h3] at h2
    cases h2
    have h0 := z.owf i e a h1 h3
    refine k (.ref a) (fun b => O b ∧ b ≠ a) ad H1 (z.sto.seen h5) ⟨z.cst.fr, fun b hb => ⟨z.cst.op b hb, fun q => ?_⟩, fun b hb => z.cst.oq b hb.1, z.cst.ap, z.cst.wf, z.cst.wd⟩ ?_
    · obtain ⟨o, ho⟩ := z.cst.wd b hb
      rw [q, h0] at ho; cases ho
    · have r' : MRep K mg (hide (fun b => O b ∧ b ≠ a) H1) ad H1 a e := h6.mono (hide_le fun a q => q.1) (fun _ _ e => e) fun _ e => e
      exact r'.rep fun o e => hide_of (fun q => q.2 rfl) e
  | _ => exact k v O ad H1 z.sto z.cst r
end
section
variable {X : Cx} {W : WX} {pos : Pos}
theorem S_nil : PSs X [] (Ss X.K X.mg W s_nx) := pss_of pss_nil w_nx
theorem S_cons {st : Stmt} {rest : List Stmt} {a b : MS} (h1 : PS X st (Ss X.K X.mg W a)) (h2 : PSs X rest (Ss X.K X.mg W b)) : PSs X (st :: rest) (Ss X.K X.mg W (s_seq a b)) := pss_of (pss_cons h1 h2) w_seq
theorem S_one {st : Stmt} {a : MS} (h1 : PS X st (Ss X.K X.mg W a)) : PSs X [st] (Ss X.K X.mg W a) := pss_one h1
theorem S_pass : PS X (.Pass pos) (Ss X.K X.mg W s_nx) := ps_of ps_pass w_nx
theorem S_bk : PS X (.Break pos) (Ss X.K X.mg W s_bk) := ps_of ps_break w_bk
theorem S_ct : PS X (.Continue pos) (Ss X.K X.mg W s_ct) := ps_of ps_continue w_ct
theorem S_set {i : Nat} {x : Str} {e : Expr} {m : ME} {pos' : Pos} (hN : X.N.Nodup) (hi : X.N[i]? = some x) (hx : Loc X.env.scope x) (he : PE X e (Ee X.K X.mg W m)) (hs : swapsWith e (some (.Name x pos')) pos.line X.env = pure false := by rfl) (hf : X.fn x = true ∨ X.env.scope.names.lookup x = some .local := by first | exact .inl rfl | exact .inr rfl | assumption) :
    PS X (.Assign [.Name x pos'] e pos) (Ss X.K X.mg W (s_set i m)) := ps_of (ps_set hN hi hx he hs hf) w_set
theorem S_own {i : Nat} {x : Str} {e : Expr} {m : ME} {pos' : Pos} (hN : X.N.Nodup) (hi : X.N[i]? = some x) (hx : Loc X.env.scope x) (he : PE X e (Ef X.K X.mg W m)) (hs : swapsWith e (some (.Name x pos')) pos.line X.env = pure false := by rfl) (hf : X.fn x = true ∨ X.env.scope.names.lookup x = some .local := by first | exact .inl rfl | exact .inr rfl | assumption) :
    PS X (.Assign [.Name x pos'] e pos) (Ss X.K X.mg W (s_own i m)) := ps_of (ps_set hN hi hx he hs hf) w_own
theorem S_do {e : Expr} {m : ME} (he : PE X e (Ee X.K X.mg W m)) (hs : swapsWith e none pos.line X.env = pure false := by rfl) : PS X (.Expr e pos) (Ss X.K X.mg W (s_do m)) := ps_of (ps_expr he hs) w_do
theorem S_ret {e : Expr} {m : ME} (he : PE X e (Ee X.K X.mg W m)) : PS X (.Return (some e) pos) (Ss X.K X.mg W (s_ret m)) := ps_of (ps_ret he) w_ret
theorem S_retN : PS X (.Return none pos) (Ss X.K X.mg W s_retN) := ps_of ps_retN w_retN
theorem S_if {c : Expr} {a b : List Stmt} {t : MT} {ma mb : MS} (hc : PT X c (Et X.K X.mg W t)) (ha : PSs X a (Ss X.K X.mg W ma)) (hb : PSs X b (Ss X.K X.mg W mb)) : PS X (.If c a b pos) (Ss X.K X.mg W (s_if t ma mb)) := ps_of (ps_if hc ha hb) w_if
end

/-! ### defs -/
def SpM (K : Fg) (mg : Mg) (n : Nat) (m : List D → Sg → Out D) : Sp := fun vs H Q E => ∃ O ad S ds, Sto K mg O ad S H ∧ Reps K mg (hide O H) ad vs ds ∧ ds.length = n ∧
  match m ds S with
  | .ok r S' => ∀ v O' ad' H', Stp O ad H O' ad' H' → Sto K mg O' ad' S' H' → Rep K mg (hide O' H') ad' v r → Q v H'
  | .er x fs S' => ∀ cls dd O' ad' H', Stp O ad H O' ad' H' → Sto K mg O' ad' S' H' → XRep K mg O' ad' H' cls dd x fs → E cls dd H'
  | .no => False
def fnM (n : Nat) (b : MS) : List D → Sg → Out D := fun ds S => match b (ds.map .va ++ List.replicate (n - ds.length) .un) S with
  | .nx _ S' => .ok .non S'
  | .rt d S' => .ok d S'
  | .ex x fs _ S' => .er x fs S'
  | _ => .no
theorem start_va {K : Fg} {mg : Mg} {G : Hp} {ad : List Addr} {n : Nat} : ∀ {vs : List V} {ds : List D}, Reps K mg G ad vs ds → ∀ (i : Nat) (z : Slot), (ds.map Slot.va ++ List.replicate n .un)[i]? = some z →
    z = .un ∨ ∃ d v, z = .va d ∧ (vs.map some ++ List.replicate n (none : Option V))[i]? = some (some v) ∧ Rep K mg G ad v d := by
  intro vs
  induction vs with
  | nil =>
    intro ds r i z h
    cases r
    have h' : (List.replicate n Slot.un)[i]? = some z := h
    rw [List.getElem?_replicate] at h'
    split at h'
    · cases h'; exact .inl rfl
    · cases h'
  | cons v vs ih =>
    intro ds r i z h
    cases r with
    | cons a b =>
      cases i with
      | zero =>
        cases h
        exact .inr ⟨_, v, rfl, rfl, a⟩
      | succ i => exact ih b i z h
theorem Cst.back {K : Fg} {mg : Mg} {H H' : Hp} {O O' : Addr → Prop} {ad ad' : List Addr} {S' : Sg} (z : Sto K mg O' ad' S' H') (c : Cst ⟨H, ad, O⟩ O' ad' H') :
    Stp O ad H (fun a => O a ∨ a ∈ ad') ad' H' ∧ Sto K mg (fun a => O a ∨ a ∈ ad') ad' S' H' ∧ ∀ b o, hide O' H' b = some o → hide (fun a => O a ∨ a ∈ ad') H' b = some o := by
  have le : ∀ a, (O a ∨ a ∈ ad') → O' a := fun a h => h.elim (c.op a) (z.hid a)
  refine ⟨⟨c.fr, fun a h => .inl h, fun a h => ?_, c.ap⟩, ⟨z.len, z.nd, fun a h => .inr h, fun a h => z.dom a (le a h), fun n d h => ?_⟩, hide_le le⟩
  · rcases h with h | h
    · exact .inl h
    · obtain ⟨m, e, f⟩ := c.ap
      rw [e] at h
      rcases List.mem_append.mp h with q | q
      · exact .inl (c.wf a q)
      · exact .inr (f a q)
  · obtain ⟨a, h1, h2⟩ := z.ob n d h
    exact ⟨a, h1, h2.mono (hide_le le) (fun _ _ e => e) fun _ e => e⟩
theorem def_ok {P : Program} {w : World} {K : Fg} {mg : Mg} {base : Heap} {x qual : Str} {st : Stmt} {f : Addr} {fd : FuncData} {N ps : List Str} {k : Nat} {m : MS} (F : Fun K x qual st f fd) (S : FnScope N ps (defScope st))
    (hb : ∀ (cdv : Value) (A : Around) (outer : List Env) (s : Shared) (H : Hp) (E : XK), Room k (A.deeper (PyProof.Rows.envOfC qual (defScope st) s.heap.objs.size f cdv)) →
      PSs (cxOf (L2.CX P w) P w K mg base N qual (defScope st) f cdv A outer s H E) (defBody st) (Ss K mg (fun cls d _ H' => E cls d H') m)) :
    FnOk P w K mg base (L2.CX P w) (k + 1) f fd ps (SpM K mg ps.length (fnM N.length m)) := by
  refine F.okX S (fun vs H Q E h => ?_) (fun cdv A outer s H vs Q E hr h => ?_)
  · obtain ⟨O, ad, S0, ds, z, r, hl, _⟩ := h
    rw [r.length, hl]
  · refine ⟨_, hb cdv A outer s H E hr, ?_⟩
    obtain ⟨O, ad, S0, ds, z, r, hl, h⟩ := h
    have hvl : vs.length = ds.length := r.length
    refine ⟨⟨H, ad, O⟩, O, ad, S0, ds.map .va ++ List.replicate (N.length - ds.length) .un, ⟨z, ⟨?_, fun i d e => ?_, fun i d e => ?_, fun i j d e a n h1 => ?_⟩, ⟨fun b o e _ => e, fun _ h => h, fun _ h => .inl h, ⟨[], by simp, fun _ h => nomatch h⟩, z.hid, z.dom⟩, fun i d a e => ?_⟩, ?_⟩
    · unfold L2.start
      simp [hvl]
    · unfold L2.start
      rw [hvl]
      rcases start_va r i _ e with q | ⟨d', v, q, h1, h2⟩
      · cases q
      · cases q; exact ⟨v, h1, h2⟩
    · rcases start_va r i _ e with q | ⟨d', v, q, h1, h2⟩
      · cases q
      · cases q
    · rcases start_va r i _ h1 with q | ⟨d', v, q, h1, h2⟩
      · cases q
      · cases q
    · rcases start_va r i _ e with q | ⟨d', v, q, h1, h2⟩
      · cases q
      · cases q
    · unfold fnM at h
      cases e : m (ds.map .va ++ List.replicate (N.length - ds.length) .un) S0 with
      | nx ρ' S' =>
        simp only [e] at h
        intro σ' O' ad' H' g z'
        obtain ⟨b1, b2, b3⟩ := Cst.back z'.sto z'.cst
        exact h .non _ ad' H' b1 b2 .non
      | rt d S' =>
        simp only [e] at h
        intro v O' ad' H' z' c' r'
        obtain ⟨b1, b2, b3⟩ := Cst.back z' c'
        exact h v _ ad' H' b1 b2 (r'.mono b3 fun _ _ e => e)
      | ex x fs ρ' S' =>
        simp only [e] at h
        intro cls dd σ' O' ad' H' g z' r'
        obtain ⟨b1, b2, b3⟩ := Cst.back z'.sto z'.cst
        obtain ⟨C, q1, q2, q3⟩ := r'
        refine h cls dd _ ad' H' b1 b2 ⟨C, q1, q2, q3.imp id fun ⟨a, vs, q4, q5, q6⟩ => ⟨a, vs, q4, q5, q6.mono b3 fun _ _ e => e⟩⟩
      | bk ρ' S' => simp only [e] at h
      | ct ρ' S' => simp only [e] at h
      | no => simp only [e] at h

/-! ### calls -/
def e_call (m : List D → Sg → Out D) (r : MA) : ME := fun ρ S => (r ρ S).bind fun ds S1 => if noLoc ds = true then m ds S1 else .no
section
variable {K : Fg} {mg : Mg} {W : WX}
theorem w_call {n : Nat} {m : List D → Sg → Out D} {r : MA} (len : ∀ ds S, ds.length ≠ n → m ds S = .no) : ∀ σ H Q, Ee K mg W (e_call m r) σ H Q → tCallS (SpM K mg n m) (WE W) (Ea K mg W r) σ H Q := by
  intro σ H Q q
  refine (bindAE (f := fun _ ds S1 => if noLoc ds = true then m ds S1 else .no) q).imp fun vs H1 g => ?_
  obtain ⟨O, ad, S, ρ, ds, s, fr, r1, k⟩ := g
  obtain ⟨c1, k⟩ := post_if (P := PostE K mg W ρ σ Q O ad H1) (fun z => z) k
  have rs := reps_of r1 c1
  refine ⟨O, ad, S, ds, s, rs, ?_, ?_⟩
  · by_cases e : ds.length = n
    · exact e
    · rw [len ds S e] at k; exact k.elim
  · cases e : m ds S with
    | ok d S' => rw [e] at k; exact fun v O' ad' H' t z r => k v O' ad' H' t z (repR_of r)
    | er x fs S' => rw [e] at k; exact k
    | no => rw [e] at k; exact k
end
def fn (n : Nat) (b : MS) (k : Nat) : List D → Sg → Out D := fun ds S => if ds.length = k then fnM n b ds S else .no
theorem fn_len {n k : Nat} {b : MS} : ∀ ds S, ds.length ≠ k → fn n b k ds S = .no := fun ds S h => by unfold fn; rw [if_neg h]
theorem SpM.fn {K : Fg} {mg : Mg} {n k : Nat} {b : MS} : ∀ vs H Q E, SpM K mg k (Gd.fn n b k) vs H Q E → SpM K mg k (fnM n b) vs H Q E := by
  rintro vs H Q E ⟨O, ad, S, ds, z, r, hl, h⟩
  refine ⟨O, ad, S, ds, z, r, hl, ?_⟩
  unfold Gd.fn at h
  rw [if_pos hl] at h
  exact h
theorem def_ok' {P : Program} {w : World} {K : Fg} {mg : Mg} {base : Heap} {x qual : Str} {st : Stmt} {f : Addr} {fd : FuncData} {N ps : List Str} {k : Nat} {m : MS} (F : Fun K x qual st f fd) (S : FnScope N ps (defScope st))
    (hb : ∀ (cdv : Value) (A : Around) (outer : List Env) (s : Shared) (H : Hp) (E : XK), Room k (A.deeper (PyProof.Rows.envOfC qual (defScope st) s.heap.objs.size f cdv)) →
      PSs (cxOf (L2.CX P w) P w K mg base N qual (defScope st) f cdv A outer s H E) (defBody st) (Ss K mg (fun cls d _ H' => E cls d H') m)) :
    FnOk P w K mg base (L2.CX P w) (k + 1) f fd ps (SpM K mg ps.length (Gd.fn N.length m ps.length)) := (def_ok F S hb).imp SpM.fn
section
variable {X : Cx} {W : WX} {k : Nat} {f : Addr} {fd : FuncData} {ps : List Str} {x : Str} {p pos : Pos} {e : Expr} {es : List Expr} {r : MA} {m : List D → Sg → Out D}
theorem E_call {n b : Nat} {mb : MS} (F : FnOk X.prog X.w X.K X.mg X.base (L2.CX X.prog X.w) k f fd ps (SpM X.K X.mg b (Gd.fn n mb b))) (hr : Room k X.A) (hg : Gl X x) (hm : X.mg x = some (.ref f)) (hk : PySem.W.keepIn X.K (.ref f) = true) (hb : Binds X.K fd ps []) (tk : Takes X W)
    (ha : PA X (e :: es) (Ea X.K X.mg W r)) (hdb : (x == ("__debug__" : Str)) = false := by decide) (he : starEach (e :: es) X.env = (false, eval e X.env) :: starEach es X.env := by rfl) (hpl : (backTo pos (starEach es X.env)).any (·.1) = false := by rfl) :
    PE X (.Call (.Name x p) (e :: es) [] pos) (Ee X.K X.mg W (e_call (Gd.fn n mb b) r)) :=
  pe_of (pe_callS F hr hg hm hk hb (fun σ => passAt tk σ) ha hdb he hpl) (w_call fn_len)
end
end Gd

/-! Gd, part 4: what is walked, loops, comprehensions. -/
namespace Gd
open PySem L2 PyProof.Rows

abbrev MI := Ro → Sg → Out (List D)
abbrev Rel := (Addr → Prop) → List Addr → Hp → (Addr → Prop) → List Addr → Hp → Prop
/-- a walk whose items are ds, as long as ok holds of the state -/
def Src (K : Fg) (mg : Mg) (ok : (Addr → Prop) → List Addr → Hp → Prop) (J : It) (ds : List D) : Prop :=
  ∃ G Y, Walk J ds.length G Y ∧ (∀ O2 ad2 H2, ok O2 ad2 H2 → G H2) ∧ ∀ (i : Nat) H2 x H3 O2 ad2 S2, ok O2 ad2 H2 → Sto K mg O2 ad2 S2 H2 → i < ds.length → Y i H2 x H3 →
    ∃ d, ds[i]? = some d ∧ Stp O2 ad2 H2 O2 ad2 H3 ∧ Sto K mg O2 ad2 S2 H3 ∧ Rep K mg (hide O2 H3) ad2 x d
section
variable (K : Fg) (mg : Mg) (rel : Rel)
def PostI (W : WX) (ρ : Ro) (σ : L2.St) (R : It → Hp → Prop) (O : Addr → Prop) (ad : List Addr) (H : Hp) : Out (List D) → Prop
  | .ok ds S' => ∀ O' ad' H' J, Stp O ad H O' ad' H' → Sto K mg O' ad' S' H' → Src K mg (rel O' ad' H') J ds → R J H'
  | .er x fs S' => ∀ cls dd O' ad' H', Stp O ad H O' ad' H' → Sto K mg O' ad' S' H' → XRep K mg O' ad' H' cls dd x fs → W cls dd σ H'
  | .no => False
def Ei (W : WX) (m : MI) : TI := fun σ H R => ∃ O ad S ρ, Sto K mg O ad S H ∧ Fre K mg O ad ρ σ H ∧ PostI K mg rel W ρ σ R O ad H (m ρ S)
end
/-- a target: the slots ts are given values -/
def TgOk (K : Fg) (mg : Mg) (ts : List Nat) (g : TG) (tgt : D → Ro → Option Ro) : Prop :=
  ∀ O ad ρ σ H x d ρ1, Fre K mg O ad ρ σ H → Rep K mg (hide O H) ad x d → tgt d ρ = some ρ1 →
    ∃ σ1, Fre K mg O ad ρ1 σ1 H ∧ (∀ (j : Nat) e a, ρ1[j]? = some (.ow e) → σ1[j]? = some (some (.ref a)) → ρ[j]? = some (.ow e) ∧ σ[j]? = some (some (.ref a))) ∧ wipe σ1 ts = wipe σ ts ∧ ∀ Q : L2.St → Hp → Prop, Q σ1 H → g x σ H Q
def t_name (i : Nat) : D → Ro → Option Ro := fun d ρ => if isLoc d = true then none else some (ρ.set i (.va d))
theorem wipe_set1 (σ : L2.St) (i : Nat) (v : Option V) : wipe (σ.set i v) [i] = wipe σ [i] := by
  show (σ.set i v).set i none = σ.set i none
  exact List.set_set ..
section
variable {K : Fg} {mg : Mg} {W : WX} {c : Ctx} {O O1 : Addr → Prop} {ad ad1 : List Addr} {S S1 : Sg} {ρ : Ro} {σ : L2.St} {H H1 : Hp} {Dn : Ends}
theorem tg_name {i : Nat} : TgOk K mg [i] (gName i) (t_name i) := by
  intro O ad ρ σ H x d ρ1 f r e
  unfold t_name at e
  split at e
  · cases e
  · cases e
    refine ⟨σ.set i (some x), f.set_va r, fun j e a h1 h2 => ?_, wipe_set1 _ _ _, fun Q q => q⟩
    rcases get_set h1 with ⟨rfl, e1, _⟩ | ⟨n1, h1⟩
    · cases e1
    · rw [List.getElem?_set_ne n1] at h2
      exact ⟨h1, h2⟩
/-- a target that is a pair -/
def t_pair (i j : Nat) : D → Ro → Option Ro := fun d ρ => match d with
  | .tup [a, b] => if isLoc a = true ∨ isLoc b = true then none else some ((ρ.set i (.va a)).set j (.va b))
  | _ => none
theorem wipe_set2 (σ : L2.St) (i j : Nat) (v w : Option V) : wipe ((σ.set i v).set j w) [i, j] = wipe σ [i, j] := by
  show (((σ.set i v).set j w).set j none).set i none = (σ.set j none).set i none
  by_cases e : i = j
  · subst e; simp only [List.set_set]
  · rw [List.set_set, List.set_comm _ _ e, List.set_set]
theorem tg_pair {i j : Nat} : TgOk K mg [i, j] (gTup K 2 (gCons (gName i) (gCons (gName j) gNil))) (t_pair i j) := by
  intro O ad ρ σ H x d ρ1 f r e
  unfold t_pair at e
  split at e
  · rename_i a b
    split at e
    · cases e
    · cases e
      cases r with
      | tup h1 h2 =>
        rename_i p vs
        cases h2 with
        | cons ra h2 =>
          cases h2 with
          | cons rb h2 =>
            cases h2
            rename_i va vb
            refine ⟨(σ.set i (some va)).set j (some vb), (f.set_va ra).set_va rb, fun k e a h1 h2 => ?_, wipe_set2 _ _ _ _ _, fun Q q => ?_⟩
            · rcases get_set h1 with ⟨rfl, e1, _⟩ | ⟨n1, h1⟩
              · cases e1
              · rw [List.getElem?_set_ne n1] at h2
                rcases get_set h1 with ⟨rfl, e1, _⟩ | ⟨n2, h1⟩
                · cases e1
                · rw [List.getElem?_set_ne n2] at h2
                  exact ⟨h1, h2⟩
            · exact ⟨p, [va, vb], rfl, sqt_mono un_hide h1, rfl, va, [vb], rfl, vb, [], rfl, rfl, q⟩
  · cases e

/-! ### for -/
def s_loop (tgt : D → Ro → Option Ro) (b : MS) : List D → MS
  | [] => s_nx
  | d :: ds => fun ρ S => match tgt d ρ with
    | none => .no
    | some ρ1 => match b ρ1 S with
      | .nx ρ2 S2 => s_loop tgt b ds ρ2 S2
      | .ct ρ2 S2 => s_loop tgt b ds ρ2 S2
      | .bk ρ2 S2 => .nx ρ2 S2
      | o => o
def s_for (mi : MI) (tgt : D → Ro → Option Ro) (b : MS) : MS := fun ρ S => match mi ρ S with
  | .ok ds S1 => s_loop tgt b ds ρ S1
  | .er x fs S1 => .ex x fs ρ S1
  | .no => .no
theorem Sta.still {O' : Addr → Prop} {ad' : List Addr} {H' : Hp} {S' : Sg} (z : Sta K mg c O ad S ρ σ H) (s : Stp O ad H O' ad' H') (t : Sto K mg O' ad' S' H') : Sta K mg c O' ad' S' ρ σ H' := z.step s t
theorem w_for {mi : MI} {ts : List Nat} {g : TG} {tgt : D → Ro → Option Ro} {b : MS} (hg : TgOk K mg ts g tgt) : ∀ Dn σ H, Ss K mg W (s_for mi tgt b) Dn σ H → tFor (Ei K mg Grow W mi) g (Ss K mg W b) Dn σ H := by
  rintro Dn σ H ⟨c, O, ad, S, ρ, z, h⟩
  refine ⟨O, ad, S, ρ, z.sto, z.fre, ?_⟩
  unfold s_for at h
  cases e : mi ρ S with
  | no => simp only [e] at h; exact h
  | er x fs S1 =>
    simp only [e] at h
    exact fun cls dd O' ad' H' t z' r => h cls dd σ O' ad' H' (t.grow z.sto.hid) (z.step t z') r
  | ok ds S1 =>
    simp only [e] at h
    intro O1 ad1 H1 J t s1 src
    obtain ⟨G, Y, wk, hG, hY⟩ := src
    have z1 := z.step t s1
    have h1 := h.rebase (t.grow z.sto.hid)
    refine for_it wk (fun i σ' H' => ∃ O' ad' S' ρ', Grow O1 ad1 H1 O' ad' H' ∧ Sta K mg c O' ad' S' ρ' σ' H' ∧ PostS K mg W c Dn O' ad' H' (s_loop tgt b (ds.drop i) ρ' S')) ⟨O1, ad1, S1, ρ, .refl _ _ _, z1, by simpa using h1⟩ ?_ ?_ ?_
    · rintro i σ' H' hi ⟨O', ad', S', ρ', gr, _, _⟩
      exact hG O' ad' H' gr
    · rintro i x σ' H' H2 hi ⟨O', ad', S', ρ', gr, zz, hp⟩ y
      obtain ⟨d, hd, t2, s2, rx⟩ := hY i H' x H2 O' ad' S' gr zz.sto hi y
      have zz2 := zz.step t2 s2
      have hp2 := hp.rebase (t2.grow zz.sto.hid)
      have ed : ds.drop i = d :: ds.drop (i + 1) := by
        obtain ⟨hl, hd'⟩ := List.getElem?_eq_some_iff.mp hd
        rw [List.drop_eq_getElem_cons hl, hd']
      rw [ed] at hp2
      unfold s_loop at hp2
      cases et : tgt d ρ' with
      | none => simp only [et] at hp2; exact hp2.elim
      | some ρ1 =>
        simp only [et] at hp2
        obtain ⟨σ1, f1, ow1, _, kg⟩ := hg O' ad' ρ' σ' H2 x d ρ1 zz2.fre rx et
        refine kg _ ?_
        have z3 : Sta K mg c O' ad' S' ρ1 σ1 H2 := ⟨s2, f1, zz2.cst, fun j e a q1 q2 => let q := ow1 j e a q1 q2; zz2.owf j e a q.1 q.2⟩
        refine ⟨c, O', ad', S', ρ1, z3, ?_⟩
        have gr2 := gr.trans (t2.grow zz.sto.hid)
        cases eb : b ρ1 S' with
        | nx ρ2 S2 =>
          simp only [eb] at hp2
          exact fun σ'' O'' ad'' H3 g3 z4 => ⟨O'', ad'', S2, ρ2, gr2.trans g3, z4, PostS.rebase hp2 g3⟩
        | ct ρ2 S2 =>
          simp only [eb] at hp2
          exact fun σ'' O'' ad'' H3 g3 z4 => ⟨O'', ad'', S2, ρ2, gr2.trans g3, z4, PostS.rebase hp2 g3⟩
        | bk ρ2 S2 => simp only [eb] at hp2; exact hp2
        | rt d2 S2 => simp only [eb] at hp2; exact hp2
        | ex x2 fs2 ρ2 S2 => simp only [eb] at hp2; exact hp2
        | no => simp only [eb] at hp2; exact hp2
    · rintro σ' H' ⟨O', ad', S', ρ', gr, zz, hp⟩
      rw [List.drop_length] at hp
      exact hp σ' O' ad' H' (.refl _ _ _) zz

/-! ### while -/
def s_wh (t : MT) (b : MS) : Nat → MS
  | 0 => fun _ _ => .no
  | n + 1 => fun ρ S => match t ρ S with
    | .ok c S1 => if c = true then (match b ρ S1 with
        | .nx ρ2 S2 => s_wh t b n ρ2 S2
        | .ct ρ2 S2 => s_wh t b n ρ2 S2
        | .bk ρ2 S2 => .nx ρ2 S2
        | o => o) else .nx ρ S1
    | .er x fs S1 => .ex x fs ρ S1
    | .no => .no
theorem w_while {t : MT} {b : MS} {n : Nat} : ∀ Dn σ H, Ss K mg W (s_wh t b n) Dn σ H → tWhile (Et K mg W t) (Ss K mg W b) Dn σ H := by
  rintro Dn σ H ⟨c, O, ad, S, ρ, z, h⟩
  refine ⟨fun m σ' H' => ∃ O' ad' S' ρ', Grow O ad H O' ad' H' ∧ Sta K mg c O' ad' S' ρ' σ' H' ∧ PostS K mg W c Dn O' ad' H' (s_wh t b m ρ' S'), ⟨n, O, ad, S, ρ, .refl _ _ _, z, h⟩, ?_⟩
  rintro m σ' H' ⟨O', ad', S', ρ', gr, zz, hp⟩
  refine ⟨O', ad', S', ρ', zz.sto, zz.fre, ?_⟩
  cases m with
  | zero => exact hp.elim
  | succ m =>
    unfold s_wh at hp
    cases e : t ρ' S' with
    | no => simp only [e] at hp; exact hp
    | er x fs S1 =>
      simp only [e] at hp
      exact fun cls dd O2 ad2 H2 t2 z2 r => hp cls dd σ' O2 ad2 H2 (t2.grow zz.sto.hid) (zz.step t2 z2) r
    | ok k S1 =>
      simp only [e] at hp
      intro O2 ad2 H2 t2 s2
      have z2 := zz.step t2 s2
      have hp2 := PostS.rebase hp (t2.grow zz.sto.hid)
      have gr2 := gr.trans (t2.grow zz.sto.hid)
      cases k with
      | false =>
        rw [if_neg Bool.false_ne_true] at hp2 ⊢
        exact hp2 σ' O2 ad2 H2 (.refl _ _ _) z2
      | true =>
        rw [if_pos rfl] at hp2 ⊢
        refine ⟨fun σ3 H3 => ∃ O' ad' S' ρ', Grow O ad H O' ad' H3 ∧ Sta K mg c O' ad' S' ρ' σ3 H3 ∧ PostS K mg W c Dn O' ad' H3 (s_wh t b m ρ' S'), fun σ3 H3 q => ⟨m, Nat.lt_succ_self m, q⟩, ?_⟩
        refine ⟨c, O2, ad2, S1, ρ', z2, ?_⟩
        cases eb : b ρ' S1 with
        | nx ρ2 S2 =>
          simp only [eb] at hp2
          exact fun σ'' O'' ad'' H3 g3 z4 => ⟨O'', ad'', S2, ρ2, gr2.trans g3, z4, PostS.rebase hp2 g3⟩
        | ct ρ2 S2 =>
          simp only [eb] at hp2
          exact fun σ'' O'' ad'' H3 g3 z4 => ⟨O'', ad'', S2, ρ2, gr2.trans g3, z4, PostS.rebase hp2 g3⟩
        | bk ρ2 S2 => simp only [eb] at hp2; exact hp2
        | rt d2 S2 => simp only [eb] at hp2; exact hp2
        | ex x2 fs2 ρ2 S2 => simp only [eb] at hp2; exact hp2
        | no => simp only [eb] at hp2; exact hp2

/-! ### comprehensions -/
def noEr {α : Type} : Out α → Out α
  | .er _ _ _ => .no
  | o => o
def lcL (tgt : D → Ro → Option Ro) (t : MT) (e : ME) (ρ : Ro) : List D → Sg → Out (List D)
  | [], S => .ok [] S
  | d :: ds, S => match tgt d ρ with
    | none => .no
    | some ρ1 => (noEr (t ρ1 S)).bind fun b S1 => if b = true then (noEr (e ρ1 S1)).bind fun y S2 => if isLoc y = true then .no else (lcL tgt t e ρ ds S2).bind fun ys S3 => .ok (y :: ys) S3 else lcL tgt t e ρ ds S1
def wipeR (ρ : Ro) : List Nat → Ro
  | [] => ρ
  | i :: r => (wipeR ρ r).set i .un
def f_lc (vs : List Nat) (mi : MI) (tgt : D → Ro → Option Ro) (t : MT) (e : ME) : ME := fun ρ S => (mi ρ S).bind fun ds S1 => (lcL tgt t e (wipeR ρ vs) ds S1).bind fun ys S2 => if ys.length ≤ 100000 then .ok (.lst ys) S2 else .no
theorem Fre.set_un (f : Fre K mg O ad ρ σ H) (i : Nat) : Fre K mg O ad (ρ.set i .un) (σ.set i none) H := by
  refine ⟨by rw [List.length_set, List.length_set, f.len], fun j e h => ?_, fun j e h => ?_, fun j k e e' a n h1 h2 h3 => ?_⟩
  · rcases get_set h with ⟨rfl, e1, hl⟩ | ⟨n, h⟩
    · cases e1
    · rw [List.getElem?_set_ne n]
      exact f.va j e h
  · rcases get_set h with ⟨rfl, e1, hl⟩ | ⟨n, h⟩
    · cases e1
    · rw [List.getElem?_set_ne n]
      exact f.ow j e h
  · rcases get_set h1 with ⟨rfl, e1, _⟩ | ⟨n1, h1⟩
    · cases e1
    · rcases get_set h2 with ⟨rfl, e1, _⟩ | ⟨n2, h2⟩
      · cases e1
      · rw [List.getElem?_set_ne n1] at h3
        rw [List.getElem?_set_ne n2]
        exact f.ap j k e e' a n h1 h2 h3
theorem Fre.wipe : ∀ (vs : List Nat) {ρ : Ro} {σ : L2.St}, Fre K mg O ad ρ σ H → Fre K mg O ad (wipeR ρ vs) (L2.wipe σ vs) H
  | [], _, _, f => f
  | i :: r, _, _, f => (Fre.wipe r f).set_un i
abbrev W0 : WX := fun _ _ _ _ => False
theorem lc_len {tgt : D → Ro → Option Ro} {t : MT} {e : ME} {ρ : Ro} : True := trivial
theorem w_lc {vs : List Nat} {mi : MI} {g : TG} {tgt : D → Ro → Option Ro} {t : MT} {e : ME} (hg : TgOk K mg vs g tgt) :
    ∀ σ H Q, Ef K mg W (f_lc vs mi tgt t e) σ H Q → tLc (Ei K mg Stp W mi) g (Et K mg W0 t) (Ee K mg W0 e) vs σ H Q := by
  rintro σ H Q ⟨O, ad, S, ρ, s, fr, h⟩
  refine ⟨O, ad, S, ρ, s, fr, ?_⟩
  unfold f_lc at h
  cases em : mi ρ S with
  | no => rw [em] at h; exact h
  | er x fs S1 => rw [em] at h; exact h
  | ok ds S1 =>
    rw [em] at h
    intro O1 ad1 H1 J t1 s1 src Dl hD
    obtain ⟨G, Y, wk, hG, hY⟩ := src
    have f1 : Fre K mg O1 ad1 ρ σ H1 := fr.step s.hid t1
    have h1 : PostF K mg W ρ σ Q O1 ad1 H1 ((lcL tgt t e (wipeR ρ vs) ds S1).bind fun ys S2 => if ys.length ≤ 100000 then .ok (.lst ys) S2 else .no) := PostF.rebase h t1 s.hid s1.dom
    have fw : Fre K mg O1 ad1 (wipeR ρ vs) (L2.wipe σ vs) H1 := f1.wipe vs
    refine lc_it wk (fun i H' => ∃ O2 ad2 S2 acc ys, Stp O1 ad1 H1 O2 ad2 H' ∧ Sto K mg O2 ad2 S2 H' ∧ O2 Dl ∧ Dl ∉ ad2 ∧ H' Dl = some (.lst acc) ∧ Reps K mg (hide O2 H') ad2 acc ys ∧
      PostF K mg W ρ σ Q O1 ad1 H1 ((lcL tgt t e (wipeR ρ vs) (ds.drop i) S2).bind fun zs S3 => if (ys ++ zs).length ≤ 100000 then .ok (.lst (ys ++ zs)) S3 else .no)) ?_ ?_ ?_ ?_
    · obtain ⟨t2, z2, np, mr⟩ := new_own (K := K) (mg := mg) (o := .lst []) (d := .lst []) s1 hD ⟨[], upd_same, .nil⟩
      exact ⟨_, ad1, S1, [], [], t2, z2, .inr rfl, np, upd_same, .nil, by simpa using h1⟩
    · rintro i H' hi ⟨O2, ad2, S2, acc, ys, t2, _⟩
      exact hG O2 ad2 H' t2
    · rintro i x H' H2 hi ⟨O2, ad2, S2, acc, ys, t2, z2, oD, nD, hDl, rs, hp⟩ y
      obtain ⟨d, hd, t3, z3, rx⟩ := hY i H' x H2 O2 ad2 S2 t2 z2 hi y
      have ed : ds.drop i = d :: ds.drop (i + 1) := by
        obtain ⟨hl, hd'⟩ := List.getElem?_eq_some_iff.mp hd
        rw [List.drop_eq_getElem_cons hl, hd']
      rw [ed] at hp
      have t23 := t2.trans t3 s1.hid z2.dom
      have f3 : Fre K mg O2 ad2 (wipeR ρ vs) (L2.wipe σ vs) H2 := fw.step s1.hid t23
      have hDl3 := t3.fr Dl _ hDl nD
      have rs3 : Reps K mg (hide O2 H2) ad2 acc ys := rs.mono (t3.hide z2.hid) t3.get
      unfold lcL at hp
      cases et : tgt d (wipeR ρ vs) with
      | none => simp only [et] at hp; exact hp.elim
      | some ρ1 =>
        simp only [et] at hp
        obtain ⟨σ1, g1, _, wp, kg⟩ := hg O2 ad2 _ _ H2 x d ρ1 f3 rx et
        refine kg _ ⟨?_, ?_⟩
        · rw [wp]
          have ww : ∀ (l : List Nat) (τ : L2.St), (∀ j ∈ l, j < τ.length → τ[j]? = some none) → L2.wipe τ l = τ := by
            intro l
            induction l with
            | nil => intro τ _; rfl
            | cons a l ih =>
              intro τ hτ
              have e0 : τ.set a none = τ := by
                by_cases hl : a < τ.length
                · have := hτ a List.mem_cons_self hl
                  rw [List.getElem?_eq_getElem hl] at this
                  have e1 : τ[a] = none := Option.some.inj this
                  rw [← e1]; exact List.set_getElem_self hl
                · exact List.set_eq_of_length_le (by omega)
              show (L2.wipe τ l).set a none = τ
              rw [ih τ fun j hj hl => hτ j (List.mem_cons_of_mem _ hj) hl]
              exact e0
          refine ww vs _ fun j hj hl => ?_
          have hc : ∀ o, (L2.wipe σ vs)[j]? = some o → o = none := fun o ho => by
            cases o with
            | none => rfl
            | some v => exact absurd hj (wipe_some ho).2
          rw [List.getElem?_eq_getElem hl]
          exact congrArg some (hc _ (List.getElem?_eq_getElem hl))
        · refine ⟨O2, ad2, S2, ρ1, z3, g1, ?_⟩
          cases et2 : t ρ1 S2 with
          | no => simp only [et2] at hp; exact hp.elim
          | er x2 fs2 S3 => simp only [et2] at hp; exact hp.elim
          | ok b S3 =>
            simp only [et2, noEr, Out.bind] at hp
            intro O3 ad3 H3 t4 z4
            have t24 := t23.trans t4 s1.hid z3.dom
            have oD4 := t4.op Dl oD
            have nD4 := t4.nmem nD hDl3
            have hDl4 := t4.fr Dl _ hDl3 nD
            have rs4 : Reps K mg (hide O3 H3) ad3 acc ys := rs3.mono (t4.hide z3.hid) t4.get
            cases b with
            | false =>
              rw [if_neg Bool.false_ne_true] at hp ⊢
              exact ⟨O3, ad3, S3, acc, ys, t24, z4, oD4, nD4, hDl4, rs4, hp⟩
            | true =>
              rw [if_pos rfl] at hp ⊢
              refine ⟨O3, ad3, S3, ρ1, z4, g1.step z3.hid t4, ?_⟩
              cases ee : e ρ1 S3 with
              | no => simp only [ee] at hp; exact hp.elim
              | er x2 fs2 S4 => simp only [ee] at hp; exact hp.elim
              | ok yd S4 =>
                simp only [ee] at hp
                intro v O4 ad4 H4 t5 z5 ry
                cases el : isLoc yd with
                | true => simp only [el, if_true] at hp; exact hp.elim
                | false =>
                  simp only [el, Bool.false_eq_true, if_false] at hp
                  have t25 := t24.trans t5 s1.hid z4.dom
                  have oD5 := t5.op Dl oD4
                  have nD5 := t5.nmem nD4 hDl4
                  have hDl5 := t5.fr Dl _ hDl4 nD4
                  have rs5 : Reps K mg (hide O4 H4) ad4 acc ys := rs4.mono (t5.hide z4.hid) t5.get
                  cases er2 : lcL tgt t e (wipeR ρ vs) (ds.drop (i + 1)) S4 with
                  | no => rw [er2] at hp; exact hp.elim
                  | er x3 fs3 S5 => 
                    exfalso
                    have key : ∀ (l : List D) (S : Sg) x fs S', lcL tgt t e (wipeR ρ vs) l S ≠ .er x fs S' := by
                      intro l
                      induction l with
                      | nil => intro S x fs S' q; cases q
                      | cons a l ih =>
                        intro S x fs S' q
                        unfold lcL at q
                        split at q
                        · cases q
                        · rename_i ρ2 _
                          cases q1 : t ρ2 S with
                          | no => simp only [q1, noEr, Out.bind] at q; cases q
                          | er _ _ _ => simp only [q1, noEr, Out.bind] at q; cases q
                          | ok b S1 =>
                            simp only [q1, noEr, Out.bind] at q
                            cases b with
                            | false => rw [if_neg Bool.false_ne_true] at q; exact ih _ _ _ _ q
                            | true =>
                              rw [if_pos rfl] at q
                              cases q2 : e ρ2 S1 with
                              | no => simp only [q2, noEr, Out.bind] at q; cases q
                              | er _ _ _ => simp only [q2, noEr, Out.bind] at q; cases q
                              | ok y S2 =>
                                simp only [q2, noEr, Out.bind] at q
                                split at q
                                · cases q
                                · cases q3 : lcL tgt t e (wipeR ρ vs) l S2 with
                                  | no => simp only [q3] at q; cases q
                                  | er _ _ _ => exact ih _ _ _ _ q3
                                  | ok _ _ => simp only [q3] at q; cases q
                    exact key _ _ _ _ _ er2
                  | ok zs S5 =>
                    rw [er2] at hp
                    have hp' : PostF K mg W ρ σ Q O1 ad1 H1 (if (ys ++ yd :: zs).length ≤ 100000 then .ok (.lst (ys ++ yd :: zs)) S5 else .no) := hp
                    obtain ⟨c1, _⟩ := post_if (P := PostF K mg W ρ σ Q O1 ad1 H1) (fun z => z) hp'
                    have hlen : acc.length < 100000 := by
                      rw [rs5.length]
                      rw [List.length_append, List.length_cons] at c1
                      omega
                    refine ⟨acc, hDl5, Nat.lt_of_lt_of_le hlen (by decide), O4, ad4, S4, acc ++ [v], ys ++ [yd], ?_, ?_, oD5, nD5, upd_same, ?_, ?_⟩
                    · refine ⟨fun b o hb m => ?_, t25.op, t25.oq, t25.ap⟩
                      rw [upd_ne (ne_of_none hb hD)]
                      exact t25.fr b o hb m
                    · have hh : ∀ b o, hide O4 H4 b = some o → hide O4 (upd H4 Dl (.lst (acc ++ [v]))) b = some o := fun b o q => by
                        obtain ⟨n, q⟩ := of_hide q
                        refine hide_of n ?_
                        rw [upd_ne (fun z => n (by rw [z]; exact oD5))]
                        exact q
                      refine ⟨z5.len, z5.nd, z5.hid, fun a ha => ?_, fun n d2 hn => ?_⟩
                      · by_cases q : a = Dl
                        · exact ⟨_, by rw [q]; exact upd_same⟩
                        · obtain ⟨o, ho⟩ := z5.dom a ha
                          exact ⟨o, by rw [upd_ne q]; exact ho⟩
                      · obtain ⟨a, q1, q2⟩ := z5.ob n d2 hn
                        refine ⟨a, q1, q2.mono hh (fun _ _ e => e) fun o q => ?_⟩
                        rw [upd_ne (fun z => nD5 (by rw [← z]; exact List.mem_of_getElem? q1))]
                        exact q
                    · have hh : ∀ b o, hide O4 H4 b = some o → hide O4 (upd H4 Dl (.lst (acc ++ [v]))) b = some o := fun b o q => by
                        obtain ⟨n, q⟩ := of_hide q
                        refine hide_of n ?_
                        rw [upd_ne (fun z => n (by rw [z]; exact oD5))]
                        exact q
                      exact (rs5.app (.cons (ry.rep el) .nil)).mono hh fun _ _ e => e
                    · rw [er2]
                      simp only [Out.bind, List.append_assoc, List.singleton_append]
                      exact hp'
    · rintro H' ⟨O2, ad2, S2, acc, ys, t2, z2, oD, nD, hDl, rs, hp⟩
      rw [List.drop_length] at hp
      have hp' : PostF K mg W ρ σ Q O1 ad1 H1 (if (ys ++ []).length ≤ 100000 then .ok (.lst (ys ++ [])) S2 else .no) := hp
      obtain ⟨_, k⟩ := post_if (P := PostF K mg W ρ σ Q O1 ad1 H1) (fun z => z) hp'
      rw [List.append_nil] at k
      exact k Dl O2 ad2 H' t2 z2 oD nD hD ⟨acc, hDl, rs⟩
end
end Gd

/-! Gd, part 5: what the operations give. -/
namespace Gd
open PySem L2

section
variable {K : Fg} {mg : Mg} {O : Addr → Prop} {ad : List Addr} {H : Hp} {x y : V}
theorem RepS.int {i : Int} (r : RepS K mg O ad H x (.int i)) : x = .int i := by
  rcases r with r | ⟨a, _, r⟩
  · cases r; rfl
  · exact r.elim
theorem RepS.str {i : Str} (r : RepS K mg O ad H x (.str i)) : x = .str i := by
  rcases r with r | ⟨a, _, r⟩
  · cases r; rfl
  · exact r.elim
theorem RepS.bl {i : Bool} (r : RepS K mg O ad H x (.bl i)) : x = .bl i := by
  rcases r with r | ⟨a, _, r⟩
  · cases r; rfl
  · exact r.elim
theorem RepS.non (r : RepS K mg O ad H x .non) : x = .non := by
  rcases r with r | ⟨a, _, r⟩
  · cases r; rfl
  · exact r.elim
theorem RepS.ty {n : String} (r : RepS K mg O ad H x (.ty n)) : x = .ty n := by
  rcases r with r | ⟨a, _, r⟩
  · cases r; rfl
  · exact r.elim
theorem RepS.lst {ds : List D} (r : RepS K mg O ad H x (.lst ds)) : ∃ a vs, x = .ref a ∧ SqL K H a vs ∧ Reps K mg (hide O H) ad vs ds := by
  rcases r with r | ⟨a, e, vs, h1, h2⟩
  · cases r with
    | lst h1 h2 => exact ⟨_, _, rfl, sql_mono un_hide h1, h2⟩
  · exact ⟨a, vs, e, .of h1, h2⟩
theorem RepS.tup {ds : List D} (r : RepS K mg O ad H x (.tup ds)) : ∃ a vs, x = .ref a ∧ SqT K H a vs ∧ Reps K mg (hide O H) ad vs ds := by
  rcases r with r | ⟨a, e, r⟩
  · cases r with
    | tup h1 h2 => exact ⟨_, _, rfl, sqt_mono un_hide h1, h2⟩
  · exact r.elim
theorem RepS.dct {ds : List (Key × D)} (r : RepS K mg O ad H x (.dct ds)) : ∃ a vs, x = .ref a ∧ Rd H a (.dK vs) ∧ RepK K mg (hide O H) ad vs ds := by
  rcases r with r | ⟨a, e, vs, h1, h2⟩
  · cases r with
    | dct h1 h2 => exact ⟨_, _, rfl, rd_mono un_hide h1, h2⟩
  · exact ⟨a, vs, e, .of h1, h2⟩
theorem RepS.of {d : D} (r : Rep K mg (hide O H) ad x d) : RepS K mg O ad H x d := .inl r
end

/-! ### ints -/
def d_int2 (f : Int → Int → Option D) : D → D → Option D := fun d e => match d, e with
  | .int i, .int j => f i j
  | _, _ => none
theorem d_int2_some {f : Int → Int → Option D} {d e z : D} (h : d_int2 f d e = some z) : ∃ i j, d = .int i ∧ e = .int j ∧ f i j = some z := by
  unfold d_int2 at h
  split at h
  · exact ⟨_, _, rfl, rfl, h⟩
  · cases h
section
variable {K : Fg} {mg : Mg}
theorem op_int0 {g : Int → Int → Int} : OpP K mg (rI0 fun i j => .int (g i j)) (d_int2 fun i j => some (.int (g i j))) := by
  intro O ad H x y d e z rx ry h
  obtain ⟨i, j, rfl, rfl, hh⟩ := d_int2_some h
  clear h
  cases hh
  cases rx.int
  cases ry.int
  exact res_v (.int _) fun Q q => ⟨i, j, rfl, rfl, q⟩
theorem op_intB {g : Int → Int → Bool} : OpP K mg (rI0 fun i j => .bl (g i j)) (d_int2 fun i j => some (.bl (g i j))) := by
  intro O ad H x y d e z rx ry h
  obtain ⟨i, j, rfl, rfl, hh⟩ := d_int2_some h
  clear h
  cases hh
  cases rx.int
  cases ry.int
  exact res_v (.bl _) fun Q q => ⟨i, j, rfl, rfl, q⟩
theorem op_intC {C : Int → Int → Prop} [∀ i j, Decidable (C i j)] {g : Int → Int → Int} : OpP K mg (rI C fun i j => .int (g i j)) (d_int2 fun i j => if C i j then some (.int (g i j)) else none) := by
  intro O ad H x y d e z rx ry h
  obtain ⟨i, j, rfl, rfl, hh⟩ := d_int2_some h
  clear h
  split at hh
  · rename_i hc
    cases hh
    cases rx.int
    cases ry.int
    exact res_v (.int _) fun Q q => ⟨i, j, rfl, rfl, hc, q⟩
  · cases hh
end
instance (i j : Int) : Decidable (CDivN i j) := by unfold CDivN; infer_instance
instance (i j : Int) : Decidable (CPow i j) := by unfold CPow; infer_instance
instance (i j : Int) : Decidable (CMul i j) := by unfold CMul; infer_instance
def d_sub := d_int2 fun i j => some (.int (i - j))
def d_mul := d_int2 fun i j => if CMul i j then some (.int (i * j)) else none
def d_fdiv := d_int2 fun i j => if CDivN i j then some (.int (i.fdiv j)) else none
def d_mod := d_int2 fun i j => if j ≠ 0 then some (.int (i.fmod j)) else none
def d_pow := d_int2 fun i j => if CPow i j then some (.int (i ^ j.toNat)) else none
def d_addI := d_int2 fun i j => some (.int (i + j))

/-! ### texts -/
def d_str2 (f : Str → Str → Option D) : D → D → Option D := fun d e => match d, e with
  | .str i, .str j => f i j
  | _, _ => none
theorem d_str2_some {f : Str → Str → Option D} {d e z : D} (h : d_str2 f d e = some z) : ∃ i j, d = .str i ∧ e = .str j ∧ f i j = some z := by
  unfold d_str2 at h
  split at h
  · exact ⟨_, _, rfl, rfl, h⟩
  · cases h
def d_addS := d_str2 fun i j => if i.length + j.length ≤ 100000 then some (.str (i ++ j)) else none
def slt (i j : Str) : Bool := decide (i.cps.toList < j.cps.toList)
section
variable {K : Fg} {mg : Mg}
theorem op_addS : OpP K mg (fun x y H Q => ∃ i j, x = .str i ∧ y = .str j ∧ i.length + j.length ≤ sizeLine ∧ Q (.str (i ++ j)) H) d_addS := by
  intro O ad H x y d e z rx ry h
  obtain ⟨i, j, rfl, rfl, hh⟩ := d_str2_some h
  clear h
  split at hh
  · rename_i hc
    cases hh
    cases rx.str
    cases ry.str
    exact res_v (.str _) fun Q q => ⟨i, j, rfl, rfl, sz5 hc, q⟩
  · cases hh
theorem op_strB {g : Str → Str → Bool} : OpP K mg (fun x y H Q => ∃ i j, x = .str i ∧ y = .str j ∧ Q (.bl (g i j)) H) (d_str2 fun i j => some (.bl (g i j))) := by
  intro O ad H x y d e z rx ry h
  obtain ⟨i, j, rfl, rfl, hh⟩ := d_str2_some h
  clear h
  cases hh
  cases rx.str
  cases ry.str
  exact res_v (.bl _) fun Q q => ⟨i, j, rfl, rfl, q⟩
end
/-! ### lists and tuples put together -/
def d_addL : D → D → Option D := fun d e => match d, e with
  | .lst a, .lst b => if a.length + b.length ≤ 100000 then some (.lst (a ++ b)) else none
  | _, _ => none
def rCatL (K : Fg) : R2 := fun x y H Q => ∃ a b xs ys, x = .ref a ∧ y = .ref b ∧ SqL K H a xs ∧ SqL K H b ys ∧ xs.length + ys.length ≤ sizeLine ∧ ∀ p, H p = none → Q (.ref p) (upd H p (.lst (xs ++ ys)))

/-! ### == -/
mutual
def py : D → Option PyData
  | .non => some .none
  | .bl b => some (.bool b)
  | .int i => some (.int i)
  | .str x => some (.str x)
  | .lst l => (pyL l).map .list
  | .tup l => (pyL l).map .tuple
  | .dct _ => none
  | .ins _ _ => none
  | .ty _ => none
  | .cls _ => none
  | .obj _ => none
  | .loc _ => none
def pyL : List D → Option (List PyData)
  | [] => some []
  | d :: ds => match py d, pyL ds with
    | some a, some b => some (a :: b)
    | _, _ => none
end
section
variable {K : Fg} {mg : Mg} {G : Hp} {ad : List Addr}
theorem py_dp : ∀ v d, Rep K mg G ad v d → ∀ p, py d = some p → Dp K G v p := fun v d h =>
  Rep.rec (K := K) (mg := mg) (G := G) (ad := ad) (motive_1 := fun v d _ => ∀ p, py d = some p → Dp K G v p) (motive_2 := fun v d _ => ∀ p, pyL d = some p → DpAll K G v p) (motive_3 := fun _ _ _ => True) (motive_4 := fun _ _ _ => True)
    (fun p e => by cases e; exact .non) (fun b p e => by cases e; exact .bl b) (fun b p e => by cases e; exact .int b) (fun b p e => by cases e; exact .str b)
    (fun {a vs ds} h _ r p e => by
      unfold py at e
      obtain ⟨q, h1, h2⟩ := Option.map_eq_some_iff.mp e
      subst h2
      exact .lst h (r q h1))
    (fun {a vs ds} h _ r p e => by
      unfold py at e
      obtain ⟨q, h1, h2⟩ := Option.map_eq_some_iff.mp e
      subst h2
      exact .tup h (r q h1))
    (fun _ _ _ p e => by unfold py at e; cases e) (fun _ _ _ _ p e => by unfold py at e; cases e) (fun _ p e => by unfold py at e; cases e) (fun _ p e => by unfold py at e; cases e) (fun _ p e => by unfold py at e; cases e)
    (fun p e => by cases e; exact .nil)
    (fun {v d vs ds} _ _ r1 r2 p e => by
      unfold pyL at e
      split at e
      · rename_i a b h1 h2
        cases e
        exact .cons (r1 _ h1) (r2 _ h2)
      · cases e)
    trivial (fun _ _ _ _ => trivial) trivial (fun _ _ _ _ => trivial) h
theorem pyL_dp {vs : List V} {ds : List D} (h : Reps K mg G ad vs ds) : ∀ p, pyL ds = some p → DpAll K G vs p := by
  induction vs generalizing ds with
  | nil => cases h; intro p e; cases e; exact .nil
  | cons v vs ih =>
    cases h with
    | cons a b =>
      intro p e
      unfold pyL at e
      split at e
      · rename_i x y h1 h2
        cases e
        exact .cons (py_dp _ _ a _ h1) (ih b _ h2)
      · cases e
theorem dp_mono_all {G G' : Hp} (e : ∀ b o, G b = some o → G' b = some o) : (∀ v d, Dp K G v d → Dp K G' v d) ∧ ∀ vs ds, DpAll K G vs ds → DpAll K G' vs ds := by
  have A : ∀ v d, Dp K G v d → Dp K G' v d := fun v d h =>
    Dp.rec (K := K) (H := G) (motive_1 := fun v d _ => Dp K G' v d) (motive_2 := fun v d _ => DpAll K G' v d) .non .bl .int .str (fun h _ r => .lst (sql_mono e h) r) (fun h _ r => .tup (sqt_mono e h) r) .nil (fun _ _ a b => .cons a b) h
  refine ⟨A, fun vs => ?_⟩
  induction vs with
  | nil => intro ds h; cases h; exact .nil
  | cons v vs ih => intro ds h; cases h with | cons a b => exact .cons (A _ _ a) (ih _ b)
end
theorem RepS.dp {K : Fg} {mg : Mg} {O : Addr → Prop} {ad : List Addr} {H : Hp} {x : V} {d : D} {p : PyData} (r : RepS K mg O ad H x d) (h : py d = some p) : Dp K H x p := by
  rcases r with r | ⟨a, e, r⟩
  · exact (dp_mono_all un_hide).1 _ _ (py_dp _ _ r _ h)
  · cases d with
    | lst ds =>
      obtain ⟨vs, h1, h2⟩ := r
      unfold py at h
      obtain ⟨q, h3, h4⟩ := Option.map_eq_some_iff.mp h
      subst h4 e
      exact .lst (.of h1) ((dp_mono_all un_hide).2 _ _ (pyL_dp h2 _ h3))
    | dct ds => unfold py at h; cases h
    | ins c ds => unfold py at h; cases h
    | _ => exact r.elim
/-- == of scalars of one kind, and None beside the others -/
def eqSc : D → D → Option Bool
  | .non, .non => some true
  | .non, .int _ => some false
  | .int _, .non => some false
  | .non, .bl _ => some false
  | .bl _, .non => some false
  | .non, .str _ => some false
  | .str _, .non => some false
  | .int a, .int b => some (decide (a = b))
  | .bl a, .bl b => some (decide (a = b))
  | .str a, .str b => some (decide (a = b))
  | .int _, .str _ => some false
  | .str _, .int _ => some false
  | .bl _, .str _ => some false
  | .str _, .bl _ => some false
  | _, _ => none
def eqDp (d e : D) : Option Bool := match py d, py e with
  | some a, some b => if SeqAt.shaped a = true ∧ SeqAt.shaped b = true then some (PyData.eqv a b) else none
  | _, _ => none
def d_eq : D → D → Option D := fun d e => ((eqSc d e).or (eqDp d e)).map .bl
def d_ne : D → D → Option D := fun d e => ((eqSc d e).or (eqDp d e)).map fun b => .bl (!b)
theorem eqSc_V {K : Fg} {mg : Mg} {O : Addr → Prop} {ad : List Addr} {H : Hp} {x y : V} {d e : D} {b : Bool} (rx : RepS K mg O ad H x d) (ry : RepS K mg O ad H y e) (h : eqSc d e = some b) : scal x y = true ∧ decide (x = y) = b := by
  unfold eqSc at h
  split at h <;> cases h
  · cases rx.non; cases ry.non; exact ⟨rfl, by simp⟩
  · cases rx.non; cases ry.int; exact ⟨rfl, by simp⟩
  · cases rx.int; cases ry.non; exact ⟨rfl, by simp⟩
  · cases rx.non; cases ry.bl; exact ⟨rfl, by simp⟩
  · cases rx.bl; cases ry.non; exact ⟨rfl, by simp⟩
  · cases rx.non; cases ry.str; exact ⟨rfl, by simp⟩
  · cases rx.str; cases ry.non; exact ⟨rfl, by simp⟩
  · cases rx.int; cases ry.int; exact ⟨rfl, by simp⟩
  · cases rx.bl; cases ry.bl; exact ⟨rfl, by simp⟩
  · cases rx.str; cases ry.str; exact ⟨rfl, by simp⟩
  · cases rx.int; cases ry.str; exact ⟨rfl, by simp⟩
  · cases rx.str; cases ry.int; exact ⟨rfl, by simp⟩
  · cases rx.bl; cases ry.str; exact ⟨rfl, by simp⟩
  · cases rx.str; cases ry.bl; exact ⟨rfl, by simp⟩
theorem eqDp_some {d e : D} {b : Bool} (h : eqDp d e = some b) : ∃ p q, py d = some p ∧ py e = some q ∧ SeqAt.shaped p = true ∧ SeqAt.shaped q = true ∧ PyData.eqv p q = b := by
  unfold eqDp at h
  split at h
  · rename_i p q h1 h2
    split at h
    · rename_i hc
      cases h
      exact ⟨p, q, h1, h2, hc.1, hc.2, rfl⟩
    · cases h
  · cases h
section
variable {K : Fg} {mg : Mg}
theorem op_dEq : OpP K mg (fun x y H Q => rEq x y H Q ∨ rEqD K x y H Q) d_eq := by
  intro O ad H x y d e z rx ry h
  unfold d_eq at h
  obtain ⟨b, hh, rfl⟩ := Option.map_eq_some_iff.mp h
  cases e1 : eqSc d e with
  | some b' =>
    rw [e1] at hh
    cases hh
    obtain ⟨s1, s2⟩ := eqSc_V rx ry e1
    exact res_v (.bl _) fun Q q => .inl ⟨s1, by rw [s2]; exact q⟩
  | none =>
    rw [e1] at hh
    obtain ⟨p, q, h1, h2, h3, h4, h5⟩ := eqDp_some hh
    exact res_v (.bl _) fun Q k => .inr ⟨p, q, rx.dp h1, ry.dp h2, h3, h4, by rw [h5]; exact k⟩
theorem op_dNe : OpP K mg (fun x y H Q => rNe x y H Q ∨ rNeD K x y H Q) d_ne := by
  intro O ad H x y d e z rx ry h
  unfold d_ne at h
  obtain ⟨b, hh, rfl⟩ := Option.map_eq_some_iff.mp h
  cases e1 : eqSc d e with
  | some b' =>
    rw [e1] at hh
    cases hh
    obtain ⟨s1, s2⟩ := eqSc_V rx ry e1
    exact res_v (.bl _) fun Q q => .inl ⟨s1, by rw [s2]; exact q⟩
  | none =>
    rw [e1] at hh
    obtain ⟨p, q, h1, h2, h3, h4, h5⟩ := eqDp_some hh
    exact res_v (.bl _) fun Q k => .inr ⟨p, q, rx.dp h1, ry.dp h2, h3, h4, by rw [h5]; exact k⟩
end

/-! ### in -/
def flatD : D → Bool
  | .non => true
  | .bl _ => true
  | .int _ => true
  | .str _ => true
  | _ => false
def eqF : D → D → Bool
  | .non, .non => true
  | .bl a, .bl b => a == b
  | .bl a, .int b => (if a then 1 else 0) == b
  | .int a, .bl b => a == (if b then 1 else 0)
  | .int a, .int b => a == b
  | .str a, .str b => a == b
  | _, _ => false
section
variable {K : Fg} {mg : Mg} {G : Hp} {ad : List Addr}
theorem flat_V {v : V} {d : D} (r : Rep K mg G ad v d) (f : flatD d = true) : flatV v = true := by
  cases r <;> first | rfl | cases f
theorem eqF_V {v w : V} {d e : D} (r : Rep K mg G ad v d) (q : Rep K mg G ad w e) (f : flatD d = true) (g : flatD e = true) : eqV v w = eqF d e := by
  cases r <;> first | cases f; done | (cases q <;> first | rfl | (cases g; done))
theorem inF_V {v : V} {d : D} (r : Rep K mg G ad v d) (f : flatD d = true) : ∀ {vs : List V} {ds : List D}, Reps K mg G ad vs ds → ds.all flatD = true → vs.all flatV = true ∧ inV v vs = ds.any fun e => eqF e d := by
  intro vs
  induction vs with
  | nil => intro ds h _; cases h; exact ⟨rfl, rfl⟩
  | cons w vs ih =>
    intro ds h g
    cases h with
    | cons a b =>
      rw [List.all_cons, Bool.and_eq_true] at g
      obtain ⟨h1, h2⟩ := ih b g.2
      refine ⟨by rw [List.all_cons, flat_V a g.1, h1]; rfl, ?_⟩
      unfold inV at h2 ⊢
      rw [List.any_cons, List.any_cons, h2, eqF_V a r g.1 f]
end
def inD (d : D) (ds : List D) : Option Bool := if flatD d = true ∧ ds.all flatD = true then some (ds.any fun e => eqF e d) else none
def d_in (neg : Bool) : D → D → Option D := fun d e => match e with
  | .lst ds => (inD d ds).map fun b => .bl (if neg then !b else b)
  | .tup ds => (inD d ds).map fun b => .bl (if neg then !b else b)
  | .str z => match d with
    | .str x => if x.cps.size = 1 then some (.bl (if neg then !decide (x.cps.getD 0 0 ∈ z.cps.toList) else decide (x.cps.getD 0 0 ∈ z.cps.toList))) else none
    | _ => none
  | _ => none
theorem str_one {x : Str} (h : x.cps.size = 1) : x = ⟨#[x.cps.getD 0 0]⟩ := by
  obtain ⟨a⟩ := x
  congr 1
  apply Array.ext
  · simpa using h
  · intro i h1 h2
    have : i = 0 := by simp at h2; omega
    subst this
    simp [Array.getD, h1]
section
variable {K : Fg} {mg : Mg}
def rIn2 (K : Fg) (neg : Bool) : R2 := fun x y H Q => rIn K neg x y H Q ∨ ∃ (c : Nat) (z : Str), x = .str ⟨#[c]⟩ ∧ y = .str z ∧ Q (.bl (if neg then !decide (c ∈ z.cps.toList) else decide (c ∈ z.cps.toList))) H
theorem flatS {O : Addr → Prop} {ad : List Addr} {H : Hp} {x : V} {d : D} (r : RepS K mg O ad H x d) (f : flatD d = true) : Rep K mg (hide O H) ad x d := by
  rcases r with r | ⟨a, e, r⟩
  · exact r
  · cases d <;> first | exact r.elim | cases f
theorem op_dIn {neg : Bool} : OpP K mg (rIn2 K neg) (d_in neg) := by
  intro O ad H x y d e z rx ry h
  unfold d_in at h
  split at h
  · obtain ⟨b, hh, rfl⟩ := Option.map_eq_some_iff.mp h
    unfold inD at hh
    split at hh
    · rename_i ds hc
      cases hh
      obtain ⟨a, vs, rfl, h1, h2⟩ := ry.lst
      have fx := flatS rx hc.1
      obtain ⟨q1, q2⟩ := inF_V fx hc.1 h2 hc.2
      exact res_v (.bl _) fun Q q => .inl ⟨a, vs, rfl, .inl h1, flat_V fx hc.1, q1, by rw [q2]; exact q⟩
    · cases hh
  · obtain ⟨b, hh, rfl⟩ := Option.map_eq_some_iff.mp h
    unfold inD at hh
    split at hh
    · rename_i ds hc
      cases hh
      obtain ⟨a, vs, rfl, h1, h2⟩ := ry.tup
      have fx := flatS rx hc.1
      obtain ⟨q1, q2⟩ := inF_V fx hc.1 h2 hc.2
      exact res_v (.bl _) fun Q q => .inl ⟨a, vs, rfl, .inr h1, flat_V fx hc.1, q1, by rw [q2]; exact q⟩
    · cases hh
  · split at h
    · split at h
      · rename_i hc
        cases h
        cases rx.str
        cases ry.str
        exact res_v (.bl _) fun Q q => .inr ⟨_, _, by rw [← str_one hc], rfl, q⟩
      · cases h
    · cases h
  · cases h
end

/-! ### items -/
def d_ix : D → D → Option D := fun d e => match d, e with
  | .lst ds, .int i => atI ds i
  | .tup ds, .int i => atI ds i
  | .str z, .int i => if z.length ≤ 100000 then (atI z.cps.toList i).map fun c => .str ⟨#[c]⟩ else none
  | _, _ => none
theorem atI_rep {K : Fg} {mg : Mg} {G : Hp} {ad : List Addr} {vs : List V} {ds : List D} (r : Reps K mg G ad vs ds) {i : Int} {z : D} (h : atI ds i = some z) : ∃ v, atI vs i = some v ∧ Rep K mg G ad v z := by
  unfold atI at h ⊢
  obtain ⟨j, h1, h2⟩ := Option.bind_eq_some_iff.mp h
  rw [r.length, h1]
  obtain ⟨v, q1, q2⟩ := r.get h2
  exact ⟨v, q1, q2⟩
theorem op_dIx {K : Fg} {mg : Mg} : OpP K mg (rIx K) d_ix := by
  intro O ad H x y d e z rx ry h
  unfold d_ix at h
  split at h
  · rename_i ds i
    obtain ⟨a, vs, rfl, h1, h2⟩ := rx.lst
    cases ry.int
    obtain ⟨v, q1, q2⟩ := atI_rep h2 h
    exact res_v q2 fun Q q => .inl ⟨a, vs, i, v, rfl, rfl, h1, q1, q⟩
  · rename_i ds i
    obtain ⟨a, vs, rfl, h1, h2⟩ := rx.tup
    cases ry.int
    obtain ⟨v, q1, q2⟩ := atI_rep h2 h
    exact res_v q2 fun Q q => .inr (.inl ⟨a, vs, i, v, rfl, rfl, h1, q1, q⟩)
  · rename_i w i
    split at h
    · rename_i hl
      obtain ⟨c, h1, rfl⟩ := Option.map_eq_some_iff.mp h
      cases rx.str
      cases ry.int
      exact res_v (.str _) fun Q q => .inr (.inr ⟨w, i, c, rfl, rfl, sz5 hl, h1, q⟩)
    · cases h
  · cases h

/-! ### built-in calls -/
def derefL (ρ : Ro) (S : Sg) : List D → Option (List D)
  | [] => some []
  | d :: ds => match deref ρ S d, derefL ρ S ds with
    | some a, some b => some (a :: b)
    | _, _ => none
def e_cb (f : List D → Option D) (r : MA) : ME := fun ρ S => (r ρ S).bind fun ds S1 => liftO S1 ((derefL ρ S1 ds).bind f)
def CallP (K : Fg) (mg : Mg) (r : List V → Hp → VK → Prop) (f : List D → Option D) : Prop :=
  ∀ O ad H vs ds z, Paired (RepS K mg O ad H) vs ds → f ds = some z → Res K mg O ad H z (r vs H)
section
variable {K : Fg} {mg : Mg} {W : WX}
theorem derefL_rep {O : Addr → Prop} {ad : List Addr} {S : Sg} {ρ : Ro} {σ : L2.St} {H : Hp} (f : Fre K mg O ad ρ σ H) (s : Sto K mg O ad S H) : ∀ {vs : List V} {ds es : List D}, Paired (RepR K mg O ad ρ σ H) vs ds → derefL ρ S ds = some es → Paired (RepS K mg O ad H) vs es
  | _, _, _, .nil, e => by cases e; exact .nil
  | _, _, _, .cons r t, e => by
    unfold derefL at e
    split at e
    · rename_i a b h1 h2
      cases e
      exact .cons (deref_rep f s r h1) (derefL_rep f s t h2)
    · cases e
theorem w_cb {r : List V → Hp → VK → Prop} {f : List D → Option D} {a : MA} (hf : CallP K mg r f) : ∀ σ H Q, Ee K mg W (e_cb f a) σ H Q → tCB r (Ea K mg W a) σ H Q := by
  intro σ H Q q
  refine (bindAE (f := fun ρ ds S1 => liftO S1 ((derefL ρ S1 ds).bind f)) q).imp fun vs H1 g => ?_
  obtain ⟨O, ad, S, ρ, ds, s, fr, r1, k⟩ := g
  obtain ⟨z, ez⟩ := liftO_ok k
  obtain ⟨d', ed, ez⟩ := Option.bind_eq_some_iff.mp ez
  have kv := hf O ad H1 vs d' z (derefL_rep fr s r1 ed) ez
  rw [ed] at k
  simp only [Option.bind_some, ez, liftO] at k
  exact kv.go s k
end
def d_1 (f : D → Option D) : List D → Option D
  | [d] => f d
  | _ => none
def d_2 (f : D → D → Option D) : List D → Option D
  | [d, e] => f d e
  | _ => none
theorem paired1 {α β : Type} {R : α → β → Prop} {xs : List α} {y : β} (h : Paired R xs [y]) : ∃ x, xs = [x] ∧ R x y := by
  cases h with
  | cons a b => cases b; exact ⟨_, rfl, a⟩
theorem paired2 {α β : Type} {R : α → β → Prop} {xs : List α} {y z : β} (h : Paired R xs [y, z]) : ∃ x w, xs = [x, w] ∧ R x y ∧ R w z := by
  cases h with
  | cons a b => cases b with | cons c d => cases d; exact ⟨_, _, rfl, a, c⟩
theorem d_1_some {f : D → Option D} {ds : List D} {z : D} (h : d_1 f ds = some z) : ∃ d, ds = [d] ∧ f d = some z := by
  unfold d_1 at h
  split at h
  · exact ⟨_, rfl, h⟩
  · cases h
theorem d_2_some {f : D → D → Option D} {ds : List D} {z : D} (h : d_2 f ds = some z) : ∃ d e, ds = [d, e] ∧ f d e = some z := by
  unfold d_2 at h
  split at h
  · exact ⟨_, _, rfl, h⟩
  · cases h
/-! len -/
def d_len : D → Option D
  | .lst ds => some (.int ds.length)
  | .tup ds => some (.int ds.length)
  | .str z => if z.length ≤ 100000 then some (.int z.length) else none
  | _ => none
def rLen2 (K : Fg) : List V → Hp → VK → Prop := fun xs H Q => (∃ p ys, xs = [.ref p] ∧ (SqL K H p ys ∨ SqT K H p ys) ∧ Q (.int ys.length) H) ∨ ∃ z, xs = [.str z] ∧ z.length ≤ sizeLine ∧ Q (.int z.length) H
theorem cr_len2 {X : Cx} : CallR X (.builtin "len") (rLen2 X.K) := call_len_seq.or call_len_str
theorem cp_len {K : Fg} {mg : Mg} : CallP K mg (rLen2 K) (d_1 d_len) := by
  intro O ad H vs ds z r h
  obtain ⟨d, rfl, hh⟩ := d_1_some h
  clear h
  obtain ⟨v, rfl, r1⟩ := paired1 r
  clear r
  unfold d_len at hh
  split at hh
  · cases hh
    obtain ⟨a, vs, rfl, h1, h2⟩ := r1.lst
    exact res_v (.int _) fun Q q => .inl ⟨a, vs, rfl, .inl h1, by rw [h2.length]; exact q⟩
  · cases hh
    obtain ⟨a, vs, rfl, h1, h2⟩ := r1.tup
    exact res_v (.int _) fun Q q => .inl ⟨a, vs, rfl, .inr h1, by rw [h2.length]; exact q⟩
  · split at hh
    · rename_i hl
      cases hh
      cases r1.str
      exact res_v (.int _) fun Q q => .inr ⟨_, rfl, sz5 hl, q⟩
    · cases hh
  · cases hh
/-! abs -/
def d_abs : D → Option D
  | .int i => some (.int (if i < 0 then -i else i))
  | _ => none
theorem cp_abs {K : Fg} {mg : Mg} : CallP K mg (fun xs H Q => ∃ i, xs = [.int i] ∧ Q (.int (if i < 0 then -i else i)) H) (d_1 d_abs) := by
  intro O ad H vs ds z r h
  obtain ⟨d, rfl, hh⟩ := d_1_some h
  clear h
  obtain ⟨v, rfl, r1⟩ := paired1 r
  clear r
  unfold d_abs at hh
  split at hh
  · cases hh
    cases r1.int
    exact res_v (.int _) fun Q q => ⟨_, rfl, q⟩
  · cases hh
/-! all, any -/
def asBl : D → Option Bool
  | .bl b => some b
  | _ => none
def blsOf : List D → Option (List Bool)
  | [] => some []
  | d :: ds => match asBl d, blsOf ds with
    | some a, some b => some (a :: b)
    | _, _ => none
theorem blsOf_eq : ∀ {ds : List D} {bs : List Bool}, blsOf ds = some bs → ds = bs.map .bl
  | [], _, h => by cases h; rfl
  | d :: ds, _, h => by
    unfold blsOf at h
    split at h
    · rename_i a b h1 h2
      cases h
      cases d <;> cases h1
      rw [blsOf_eq h2]; rfl
    · cases h
theorem blsOf_map (bs : List Bool) : blsOf (bs.map .bl) = some bs := by
  induction bs with
  | nil => rfl
  | cons b bs ih => simp [blsOf, asBl, ih]
def d_all : D → Option D
  | .lst ds => (blsOf ds).map fun bs => .bl (bs.all id)
  | _ => none
def d_any : D → Option D
  | .lst ds => (blsOf ds).map fun bs => .bl (bs.any id)
  | _ => none
theorem cp_all {K : Fg} {mg : Mg} : CallP K mg (rAll K) (d_1 d_all) := by
  intro O ad H vs ds z r h
  obtain ⟨d, rfl, hh⟩ := d_1_some h
  clear h
  obtain ⟨v, rfl, r1⟩ := paired1 r
  clear r
  unfold d_all at hh
  split at hh
  · obtain ⟨bs, h1, rfl⟩ := Option.map_eq_some_iff.mp hh
    obtain ⟨a, ws, rfl, h2, h3⟩ := r1.lst
    rw [blsOf_eq h1] at h3
    exact res_v (.bl _) fun Q q => ⟨a, bs, rfl, by rw [← h3.bls]; exact h2, q⟩
  · cases hh
theorem cp_any {K : Fg} {mg : Mg} : CallP K mg (rAny K) (d_1 d_any) := by
  intro O ad H vs ds z r h
  obtain ⟨d, rfl, hh⟩ := d_1_some h
  clear h
  obtain ⟨v, rfl, r1⟩ := paired1 r
  clear r
  unfold d_any at hh
  split at hh
  · obtain ⟨bs, h1, rfl⟩ := Option.map_eq_some_iff.mp hh
    obtain ⟨a, ws, rfl, h2, h3⟩ := r1.lst
    rw [blsOf_eq h1] at h3
    exact res_v (.bl _) fun Q q => ⟨a, bs, rfl, by rw [← h3.bls]; exact h2, q⟩
  · cases hh

/-! ### slices -/
def cutD (ds : List D) (lo hi : Option Int) : List D := (ds.drop (HT.sIx ds.length 0 lo)).take (HT.sIx ds.length ds.length hi - HT.sIx ds.length 0 lo)
def d_sl (d : D) (lo hi : Option Int) : Option D := match d with
  | .lst ds => some (.lst (cutD ds lo hi))
  | .str z => if z.length ≤ 100000 then some (.str (cutS z lo hi)) else none
  | _ => none
def rSl2 (K : Fg) : V → Option Int → Option Int → Hp → VK → Prop := fun x lo hi H Q => rSlL K x lo hi H Q ∨ rSlS x lo hi H Q
def SlP (K : Fg) (mg : Mg) (r : V → Option Int → Option Int → Hp → VK → Prop) (f : D → Option Int → Option Int → Option D) : Prop :=
  ∀ O ad H x d lo hi z, RepS K mg O ad H x d → f d lo hi = some z → Res K mg O ad H z (r x lo hi H)
theorem sp_sl {K : Fg} {mg : Mg} : SlP K mg (rSl2 K) d_sl := by
  intro O ad H x d lo hi z r h
  unfold d_sl at h
  split at h
  · cases h
    obtain ⟨a, vs, rfl, h1, h2⟩ := r.lst
    refine .inr ⟨rfl, .lst (cutV vs lo hi), fun p G e ep => .lst (.of ep) ?_, fun Q q => .inl ⟨a, vs, rfl, h1, q⟩⟩
    unfold cutV cutD
    rw [h2.length]
    exact ((h2.drop _).take _).mono e fun _ _ e => e
  · split at h
    · rename_i hl
      cases h
      cases r.str
      exact res_v (.str _) fun Q q => .inr ⟨_, rfl, sz5 hl, q⟩
    · cases h
  · cases h
abbrev MO := Ro → Sg → Out (Option Int)
def o_no : MO := fun _ S => .ok none S
def o_e (m : ME) : MO := fun ρ S => (m ρ S).bind fun d S1 => match d with
  | .int i => .ok (some i) S1
  | _ => .no
def e_sl (f : D → Option Int → Option Int → Option D) (a : ME) (lo hi : MO) : ME := fun ρ S => (a ρ S).bind fun d S1 => (lo ρ S1).bind fun l S2 => (hi ρ S2).bind fun h S3 => liftO S3 ((deref ρ S3 d).bind fun d' => f d' l h)
section
variable (K : Fg) (mg : Mg)
def PostO (W : WX) (ρ : Ro) (σ : L2.St) (Q : Option Int → Hp → Prop) (O : Addr → Prop) (ad : List Addr) (H : Hp) : Out (Option Int) → Prop
  | .ok b S' => ∀ O' ad' H', Stp O ad H O' ad' H' → Sto K mg O' ad' S' H' → Q b H'
  | .er x fs S' => ∀ cls dd O' ad' H', Stp O ad H O' ad' H' → Sto K mg O' ad' S' H' → XRep K mg O' ad' H' cls dd x fs → W cls dd σ H'
  | .no => False
def Eo (W : WX) (m : MO) : TO := fun σ H Q => ∃ O ad S ρ, Sto K mg O ad S H ∧ Fre K mg O ad ρ σ H ∧ PostO K mg W ρ σ Q O ad H (m ρ S)
end
section
variable {K : Fg} {mg : Mg} {W : WX}
theorem w_ono : ∀ σ H Q, Eo K mg W o_no σ H Q → tNoPart σ H Q := by
  rintro σ H Q ⟨O, ad, S, ρ, s, fr, k⟩
  exact k O ad H (.refl _ _ _) s
theorem w_oe {m : ME} : ∀ σ H Q, Eo K mg W (o_e m) σ H Q → tPart (Ee K mg W m) σ H Q := by
  rintro σ H Q ⟨O, ad, S, ρ, s, fr, k⟩
  refine ⟨O, ad, S, ρ, s, fr, ?_⟩
  unfold o_e at k
  cases e : m ρ S with
  | no => rw [e] at k; exact k
  | er x fs S1 => rw [e] at k; exact k
  | ok d S1 =>
    rw [e] at k
    intro v O' ad' H' t z r
    cases d with
    | int i =>
      have r' : Rep K mg (hide O' H') ad' v (.int i) := r
      cases r'
      exact ⟨i, rfl, k O' ad' H' t z⟩
    | _ => exact k.elim
theorem w_sl {r : V → Option Int → Option Int → Hp → VK → Prop} {f : D → Option Int → Option Int → Option D} {a : ME} {lo hi : MO} (hf : SlP K mg r f) : ∀ σ H Q, Ee K mg W (e_sl f a lo hi) σ H Q → tSl r (Ee K mg W a) (Eo K mg W lo) (Eo K mg W hi) σ H Q := by
  intro σ H Q q
  refine (bindE (f := fun ρ d S1 => (lo ρ S1).bind fun l S2 => (hi ρ S2).bind fun h S3 => liftO S3 ((deref ρ S3 d).bind fun d' => f d' l h)) q).imp fun x H1 g => ?_
  obtain ⟨O, ad, S, ρ, d, s, fr, rx, k⟩ := g
  refine ⟨O, ad, S, ρ, s, fr, ?_⟩
  cases e : lo ρ S with
  | no => rw [e] at k; exact k
  | er x fs S1 => rw [e] at k; exact k
  | ok l S1 =>
    rw [e] at k
    intro O1 ad1 H2 t1 s1
    have k1 : PostE K mg W ρ σ Q O1 ad1 H2 ((hi ρ S1).bind fun h S3 => liftO S3 ((deref ρ S3 d).bind fun d' => f d' l h)) := PostE.rebase k t1 s.hid s1.dom
    have fr1 := fr.step s.hid t1
    have rx1 := rx.step s.hid t1
    refine ⟨O1, ad1, S1, ρ, s1, fr1, ?_⟩
    cases e2 : hi ρ S1 with
    | no => rw [e2] at k1; exact k1
    | er x fs S2 => rw [e2] at k1; exact k1
    | ok h S2 =>
      rw [e2] at k1
      intro O2 ad2 H3 t2 s2
      have k2 : PostE K mg W ρ σ Q O2 ad2 H3 (liftO S2 ((deref ρ S2 d).bind fun d' => f d' l h)) := PostE.rebase k1 t2 s1.hid s2.dom
      obtain ⟨z, ez⟩ := liftO_ok k2
      obtain ⟨d', ed, ez⟩ := Option.bind_eq_some_iff.mp ez
      have kv := hf O2 ad2 H3 x d' l h z (deref_rep (fr1.step s1.hid t2) s2 (rx1.step s1.hid t2) ed) ez
      rw [ed] at k2
      simp only [Option.bind_some, ez, liftO] at k2
      exact kv.go s2 k2
end
section
variable {X : Cx} {W : WX}
theorem po_of {e : Option Expr} {t t' : TO} (h : PO X e t) (w : ∀ σ H Q, t' σ H Q → t σ H Q) : PO X e t' := ⟨fun pins s σ H Q I q => h.run pins s σ H Q I (w _ _ _ q)⟩
theorem O_no : PO X none (Eo X.K X.mg W o_no) := po_of po_none w_ono
theorem O_e {e : Expr} {m : ME} (h : PE X e (Ee X.K X.mg W m)) : PO X (some e) (Eo X.K X.mg W (o_e m)) := po_of (po_some h) w_oe
end
end Gd

/-! Gd, part 6: what is walked; loops, comprehensions, stores, methods, isinstance. -/
namespace Gd
open PySem L2 PyProof.Rows

/-! ### a list, a tuple, a text -/
def signs (z : Str) : List D := z.cps.toList.map fun c => .str ⟨#[c]⟩
def itemsG : D → Option (List D)
  | .lst ds => some ds
  | .tup ds => some ds
  | .str z => some (signs z)
  | _ => none
def itemsC (ρ : Ro) (d : D) : Option (List D) := match d with
  | .loc i => (match ρ[i]? with
    | some (.ow (.lst ds)) => some ds
    | _ => none)
  | d => itemsG d
def liftI (S : Sg) : Option (List D) → Out (List D)
  | some z => .ok z S
  | none => .no
def i_seqG (m : ME) : MI := fun ρ S => (m ρ S).bind fun d S1 => liftI S1 (itemsG d)
def i_seqC (m : ME) : MI := fun ρ S => (m ρ S).bind fun d S1 => liftI S1 (itemsC ρ d)
def iAny (K : Fg) (tl : TE) : TI := fun σ H R => tl σ H fun x H1 => (∃ a xs, x = .ref a ∧ SqL K H1 a xs ∧ R (Itl K a) H1) ∨ (∃ a xs, x = .ref a ∧ SqT K H1 a xs ∧ R (Itt K a) H1) ∨ ∃ z, x = .str z ∧ R (Its z) H1
theorem pi_any {X : Cx} {tg l : Expr} {tl : TE} (hl : PE X l tl) : PI X tg l (iAny X.K tl) := by
  constructor
  intro pins s σ H R I h
  apply thn (hl.run pins s σ H _ I h)
  rintro v s1 ⟨x, H1, I1, r1, ⟨a, xs, rfl, hq, q⟩ | ⟨a, xs, rfl, hq, q⟩ | ⟨z, rfl, q⟩⟩
  · cases r1
    obtain ⟨its, rv, p, _⟩ := I1.list hq
    exact wpAny_pyIter_list p.isList (pi_one (tk := s1.toks) I1 _ (turn_list a _) ⟨_, Heap.get?_push_size _ rfl, rfl, rfl⟩ q)
  · cases r1
    obtain ⟨its, rv, p, _⟩ := I1.tuple hq
    exact wpAny_pyIter_tuple (show s1.heap.IsTuple a its.toArray from p) (pi_one (tk := s1.toks) I1 _ (turn_tuple a _) ⟨_, Heap.get?_push_size _ rfl, rfl, rfl⟩ q)
  · obtain ⟨t, rfl⟩ := r1
    cases hz : z.cps.all (· < 128) with
    | false => exact wpAny_pyIter_wide hz (pi_one (tk := s1.toks) I1 _ (turn_str _ z t "str_iterator" (.inr rfl)) ⟨_, Heap.get?_push_size _ rfl, rfl, rfl⟩ q)
    | true => exact wpAny_pyIter_ascii hz (pi_one (tk := s1.toks) I1 _ (turn_str _ z t "str_ascii_iterator" (.inl rfl)) ⟨_, Heap.get?_push_size _ rfl, rfl, rfl⟩ q)
section
variable {K : Fg} {mg : Mg} {W : WX}
/-- items of a thing that stands still -/
theorem src_at {J : It} {G : Hp → Prop} {vs : List V} {ds : List D} {O : Addr → Prop} {ad : List Addr} {H : Hp} {ok : (Addr → Prop) → List Addr → Hp → Prop} (w : Walk J vs.length G (YAt vs)) (r : Reps K mg (hide O H) ad vs ds)
    (hG : ∀ O2 ad2 H2, ok O2 ad2 H2 → G H2) (hr : ∀ O2 ad2 H2, ok O2 ad2 H2 → Reps K mg (hide O2 H2) ad2 vs ds) : Src K mg ok J ds := by
  refine ⟨G, YAt vs, ?_, hG, fun i H2 x H3 O2 ad2 S2 h2 s2 hi y => ?_⟩
  · rw [← r.length]; exact w
  · obtain ⟨rfl, hx⟩ := y
    obtain ⟨d, h3, h4⟩ := (hr O2 ad2 _ h2).getV hx
    exact ⟨d, h3, .refl _ _ _, s2, h4⟩
theorem signs_get {z : Str} {i : Nat} {c : Nat} (h : z.cps[i]? = some c) : (signs z)[i]? = some (.str ⟨#[c]⟩) := by
  unfold signs
  rw [List.getElem?_map, Array.getElem?_toList, h]
  rfl
theorem src_str {z : Str} {ok : (Addr → Prop) → List Addr → Hp → Prop} : Src K mg ok (Its z) (signs z) := by
  refine ⟨fun _ => True, _, (by unfold signs; rw [List.length_map, Array.length_toList]; exact walk_str), fun _ _ _ _ => trivial, fun i H2 x H3 O2 ad2 S2 h2 s2 hi y => ?_⟩
  obtain ⟨rfl, c, hc, rfl⟩ := y
  exact ⟨_, signs_get hc, .refl _ _ _, s2, .str _⟩
theorem liftI_ok {rel : Rel} {ρ : Ro} {σ : L2.St} {O : Addr → Prop} {ad : List Addr} {H : Hp} {S : Sg} {o : Option (List D)} {Q : It → Hp → Prop} (h : PostI K mg rel W ρ σ Q O ad H (liftI S o)) : ∃ z, o = some z := by
  cases o with
  | some z => exact ⟨z, rfl⟩
  | none => exact h.elim
theorem bindEI {rel : Rel} {m : ME} {f : Ro → D → Sg → Out (List D)} {σ : L2.St} {H : Hp} {Q : It → Hp → Prop} (h : Ei K mg rel W (fun ρ S => (m ρ S).bind (f ρ)) σ H Q) :
    Ee K mg W m σ H fun v H1 => AtE K mg σ H1 v fun O ad ρ S d => PostI K mg rel W ρ σ Q O ad H1 (f ρ d S) := by
  obtain ⟨O, ad, S, ρ, s, fr, h⟩ := h
  refine ⟨O, ad, S, ρ, s, fr, ?_⟩
  dsimp only at h
  cases e : m ρ S with
  | ok d S1 =>
    rw [e] at h
    refine fun v O' ad' H' t z r => ⟨O', ad', S1, ρ, d, z, fr.step s.hid t, r, ?_⟩
    have h : PostI K mg rel W ρ σ Q O ad H (f ρ d S1) := h
    show PostI K mg rel W ρ σ Q O' ad' H' (f ρ d S1)
    cases e2 : f ρ d S1 with
    | ok ds S2 => rw [e2] at h; exact fun O2 ad2 H2 J t2 z2 sr => h O2 ad2 H2 J (t.trans t2 s.hid z.dom) z2 sr
    | er x fs S2 => rw [e2] at h; exact fun cls dd O2 ad2 H2 t2 z2 r2 => h cls dd O2 ad2 H2 (t.trans t2 s.hid z.dom) z2 r2
    | no => rw [e2] at h; exact h
  | er x fs S1 => rw [e] at h; exact h
  | no => rw [e] at h; exact h
theorem seq_still {rel : Rel} {O : Addr → Prop} {ad : List Addr} {H1 : Hp} {d : D} {v : V} {z : List D} {R : It → Hp → Prop} (hr : ∀ O2 ad2 H2, rel O ad H1 O2 ad2 H2 → Grow O ad H1 O2 ad2 H2) (r : Rep K mg (hide O H1) ad v d) (ez : itemsG d = some z)
    (k : ∀ J, Src K mg (rel O ad H1) J z → R J H1) : (∃ a xs, v = .ref a ∧ SqL K H1 a xs ∧ R (Itl K a) H1) ∨ (∃ a xs, v = .ref a ∧ SqT K H1 a xs ∧ R (Itt K a) H1) ∨ ∃ z, v = .str z ∧ R (Its z) H1 := by
  unfold itemsG at ez
  split at ez
  · cases ez
    cases r with
    | lst h1 h2 => exact .inl ⟨_, _, rfl, sql_mono un_hide h1, k _ (src_at walk_list h2 (fun O2 ad2 H2 g => sql_mono un_hide (sql_mono (hr _ _ _ g).ex h1)) fun O2 ad2 H2 g => h2.mono (hr _ _ _ g).ex (hr _ _ _ g).ap)⟩
  · cases ez
    cases r with
    | tup h1 h2 => exact .inr (.inl ⟨_, _, rfl, sqt_mono un_hide h1, k _ (src_at walk_tup h2 (fun O2 ad2 H2 g => sqt_mono un_hide (sqt_mono (hr _ _ _ g).ex h1)) fun O2 ad2 H2 g => h2.mono (hr _ _ _ g).ex (hr _ _ _ g).ap)⟩)
  · cases ez
    cases r with
    | str => exact .inr (.inr ⟨_, rfl, k _ src_str⟩)
  · cases ez
theorem itemsG_loc {d : D} {z : List D} (h : itemsG d = some z) : isLoc d = false := by
  cases d <;> first | rfl | cases h
theorem w_seqG {m : ME} : ∀ σ H R, Ei K mg Grow W (i_seqG m) σ H R → iAny K (Ee K mg W m) σ H R := by
  intro σ H R q
  refine (bindEI (f := fun _ d S1 => liftI S1 (itemsG d)) q).imp fun v H1 g => ?_
  obtain ⟨O, ad, S, ρ, d, s, fr, r, k⟩ := g
  obtain ⟨z, ez⟩ := liftI_ok k
  rw [ez] at k
  exact seq_still (rel := Grow) (fun _ _ _ g => g) (r.rep (itemsG_loc ez)) ez fun J sr => k O ad H1 J (.refl _ _ _) s sr
theorem w_seqC {m : ME} : ∀ σ H R, Ei K mg Stp W (i_seqC m) σ H R → iAny K (Ee K mg W m) σ H R := by
  intro σ H R q
  refine (bindEI (f := fun ρ d S1 => liftI S1 (itemsC ρ d)) q).imp fun v H1 g => ?_
  obtain ⟨O, ad, S, ρ, d, s, fr, r, k⟩ := g
  obtain ⟨z, ez⟩ := liftI_ok k
  rw [ez] at k
  have oth : itemsG d = some z → (∃ a xs, v = .ref a ∧ SqL K H1 a xs ∧ R (Itl K a) H1) ∨ (∃ a xs, v = .ref a ∧ SqT K H1 a xs ∧ R (Itt K a) H1) ∨ ∃ z, v = .str z ∧ R (Its z) H1 := fun ez =>
    seq_still (rel := Stp) (fun _ _ _ g => g.grow s.hid) (r.rep (itemsG_loc ez)) ez fun J sr => k O ad H1 J (.refl _ _ _) s sr
  cases d with
  | loc i =>
    obtain ⟨⟨e, he⟩, h1⟩ := r
    have ez' : (match ρ[i]? with | some (.ow (.lst ds)) => some ds | _ => none) = some z := ez
    rw [he] at ez'
    obtain ⟨a, h2, h3, h4, h5⟩ := fr.ow i _ he
    rw [h2] at h1
    cases h1
    cases e with
    | lst ds =>
      cases ez'
      obtain ⟨vs, h5, h6⟩ := h5
      exact .inl ⟨a, vs, rfl, .of h5, k O ad H1 _ (.refl _ _ _) s (src_at walk_list h6 (fun O2 ad2 H2 g => .of (g.fr a _ h5 h4)) fun O2 ad2 H2 g => h6.mono (g.hide s.hid) g.get)⟩
    | _ => cases ez'
  | _ => exact oth ez
end

/-! ### range -/
def rng (lo : Int) (n : Nat) : List D := (List.range n).map fun (i : Nat) => .int (lo + (i : Int))
def rngOf : List D → Option (List D)
  | [.int n] => if -100000 ≤ n ∧ n ≤ 100000 then some (rng 0 n.toNat) else none
  | [.int a, .int b] => if (-100000 ≤ a ∧ a ≤ 100000) ∧ -100000 ≤ b ∧ b ≤ 100000 then some (rng a (b - a).toNat) else none
  | _ => none
def i_rng (r : MA) : MI := fun ρ S => (r ρ S).bind fun ds S1 => liftI S1 (rngOf ds)
section
variable {K : Fg} {mg : Mg} {W : WX} {rel : Rel}
theorem src_rng {lo : Int} {n : Nat} {ok : (Addr → Prop) → List Addr → Hp → Prop} : Src K mg ok (Itr lo n) (rng lo n) := by
  have hl : (rng lo n).length = n := by unfold rng; rw [List.length_map, List.length_range]
  refine ⟨fun _ => True, _, (by rw [hl]; exact walk_range), fun _ _ _ _ => trivial, fun i H2 x H3 O2 ad2 S2 h2 s2 hi y => ?_⟩
  obtain ⟨rfl, rfl⟩ := y
  rw [hl] at hi
  refine ⟨_, ?_, .refl _ _ _, s2, .int _⟩
  unfold rng
  rw [List.getElem?_map, List.getElem?_range hi]
  rfl
theorem bindAI {m : MA} {f : Ro → List D → Sg → Out (List D)} {σ : L2.St} {H : Hp} {Q : It → Hp → Prop} (h : Ei K mg rel W (fun ρ S => (m ρ S).bind (f ρ)) σ H Q) :
    Ea K mg W m σ H fun vs H1 => ∃ O ad S ρ ds, Sto K mg O ad S H1 ∧ Fre K mg O ad ρ σ H1 ∧ Paired (RepR K mg O ad ρ σ H1) vs ds ∧ PostI K mg rel W ρ σ Q O ad H1 (f ρ ds S) := by
  obtain ⟨O, ad, S, ρ, s, fr, h⟩ := h
  refine ⟨O, ad, S, ρ, s, fr, ?_⟩
  dsimp only at h
  cases e : m ρ S with
  | ok d S1 =>
    rw [e] at h
    refine fun v O' ad' H' t z r => ⟨O', ad', S1, ρ, d, z, fr.step s.hid t, r, ?_⟩
    have h : PostI K mg rel W ρ σ Q O ad H (f ρ d S1) := h
    show PostI K mg rel W ρ σ Q O' ad' H' (f ρ d S1)
    cases e2 : f ρ d S1 with
    | ok ds S2 => rw [e2] at h; exact fun O2 ad2 H2 J t2 z2 sr => h O2 ad2 H2 J (t.trans t2 s.hid z.dom) z2 sr
    | er x fs S2 => rw [e2] at h; exact fun cls dd O2 ad2 H2 t2 z2 r2 => h cls dd O2 ad2 H2 (t.trans t2 s.hid z.dom) z2 r2
    | no => rw [e2] at h; exact h
  | er x fs S1 => rw [e] at h; exact h
  | no => rw [e] at h; exact h
theorem rint {O : Addr → Prop} {ad : List Addr} {ρ : Ro} {σ : L2.St} {H : Hp} {v : V} {i : Int} (r : RepR K mg O ad ρ σ H v (.int i)) : v = .int i := by
  have r' : Rep K mg (hide O H) ad v (.int i) := r
  cases r'; rfl
theorem w_rngA {r : MA} : ∀ σ H R, Ei K mg rel W (i_rng r) σ H R → Ea K mg W r σ H fun vs H1 => (∃ j : Int, vs = [.int j] ∧ -(2 ^ 62) ≤ j ∧ j < 2 ^ 62 ∧ R (Itr 0 j.toNat) H1) ∨ ∃ i j : Int, vs = [.int i, .int j] ∧ (-(2 ^ 62) ≤ i ∧ i < 2 ^ 62 ∧ -(2 ^ 62) ≤ j ∧ j < 2 ^ 62) ∧ R (Itr i (j - i).toNat) H1 := by
  intro σ H R q
  refine (bindAI (f := fun _ ds S1 => liftI S1 (rngOf ds)) q).imp fun vs H1 g => ?_
  obtain ⟨O, ad, S, ρ, ds, s, fr, r, k⟩ := g
  obtain ⟨z, ez⟩ := liftI_ok k
  unfold rngOf at ez
  split at ez
  · rename_i n
    split at ez
    · rename_i hc
      cases ez
      obtain ⟨v, rfl, r1⟩ := paired1 r
      cases rint r1
      have k2 : PostI K mg rel W ρ σ R O ad H1 (.ok (rng 0 n.toNat) S) := by simpa [rngOf, hc, liftI] using k
      exact .inl ⟨n, rfl, by omega, by omega, k2 O ad H1 _ (.refl _ _ _) s src_rng⟩
    · cases ez
  · rename_i a b
    split at ez
    · rename_i hc
      cases ez
      obtain ⟨v, w, rfl, r1, r2⟩ := paired2 r
      cases rint r1
      cases rint r2
      have k2 : PostI K mg rel W ρ σ R O ad H1 (.ok (rng a (b - a).toNat) S) := by simpa [rngOf, hc, liftI] using k
      exact .inr ⟨a, b, rfl, by omega, k2 O ad H1 _ (.refl _ _ _) s src_rng⟩
    · cases ez
  · cases ez
theorem pi_of {X : Cx} {tg e : Expr} {t t' : TI} (h : PI X tg e t) (w : ∀ σ H Q, t' σ H Q → t σ H Q) : PI X tg e t' := ⟨fun pins s σ H Q I q => h.run pins s σ H Q I (w _ _ _ q)⟩
end
def aLen (n : Nat) (r : MA) : Prop := ∀ ρ S, match r ρ S with
  | .ok ds _ => ds.length = n
  | _ => True
theorem aLen_nil : aLen 0 a_nil := fun _ _ => rfl
theorem aLen_cons {n : Nat} {m : ME} {r : MA} (h : aLen n r) : aLen (n + 1) (a_cons m r) := by
  intro ρ S
  unfold a_cons
  cases e : m ρ S with
  | ok d S1 =>
    simp only [Out.bind]
    have := h ρ S1
    cases e2 : r ρ S1 with
    | ok ds S2 => rw [e2] at this; simp only [List.length_cons]; exact congrArg (· + 1) this
    | er x fs S2 => trivial
    | no => trivial
  | er x fs S1 => trivial
  | no => trivial
section
variable {X : Cx} {W : WX} {tg e a b : Expr} {pos p : Pos} {m : ME} {ma mb : ME} {rel : Rel}
theorem I_seqG (h : PE X e (Ee X.K X.mg W m)) : PI X tg e (Ei X.K X.mg Grow W (i_seqG m)) := pi_of (pi_any h) w_seqG
theorem I_seqC (h : PE X e (Ee X.K X.mg W m)) : PI X tg e (Ei X.K X.mg Stp W (i_seqC m)) := pi_of (pi_any h) w_seqC
theorem I_rng1 (hg : Gl X "range") (hm : X.mg "range" = none) (ha : PE X a (Ee X.K X.mg W ma)) (h1 : starEach (a :: []) X.env = (false, eval a X.env) :: starEach [] X.env := by rfl) (hs : starEach [a] X.env = [(false, eval a X.env)] := by rfl) :
    PI X tg (.Call (.Name "range" p) [a] [] pos) (Ei X.K X.mg rel W (i_rng (a_cons ma a_nil))) :=
  pi_of (pi_range1 hg hm (A_cons ha A_nil h1) hs) fun σ H R q => by
    obtain ⟨O, ad, S, ρ, s, fr, k⟩ := q
    refine Ea.imp (Q := fun vs H1 => ((∃ j : Int, vs = [.int j] ∧ -(2 ^ 62) ≤ j ∧ j < 2 ^ 62 ∧ R (Itr 0 j.toNat) H1) ∨ ∃ i j : Int, vs = [.int i, .int j] ∧ (-(2 ^ 62) ≤ i ∧ i < 2 ^ 62 ∧ -(2 ^ 62) ≤ j ∧ j < 2 ^ 62) ∧ R (Itr i (j - i).toNat) H1) ∧ vs.length = 1) ?_ fun vs H1 g => ?_
    · have := w_rngA σ H R ⟨O, ad, S, ρ, s, fr, k⟩
      obtain ⟨O, ad, S, ρ, s, fr, k⟩ := this
      refine ⟨O, ad, S, ρ, s, fr, ?_⟩
      have al := aLen_cons (m := ma) aLen_nil ρ S
      cases e2 : a_cons ma a_nil ρ S with
      | ok ds S1 =>
        rw [e2] at k al
        exact fun vs O' ad' H' t z r => ⟨k vs O' ad' H' t z r, by rw [Paired.length r]; exact al⟩
      | er x fs S1 => rw [e2] at k; exact k
      | no => rw [e2] at k; exact k
    · obtain ⟨g1 | ⟨i, j, rfl, _⟩, g2⟩ := g
      · exact g1
      · simp at g2
theorem I_rng2 (hg : Gl X "range") (hm : X.mg "range" = none) (ha : PE X a (Ee X.K X.mg W ma)) (hb : PE X b (Ee X.K X.mg W mb)) (h1 : starEach (b :: []) X.env = (false, eval b X.env) :: starEach [] X.env := by rfl) (h2 : starEach (a :: [b]) X.env = (false, eval a X.env) :: starEach [b] X.env := by rfl)
    (hs : starEach [a, b] X.env = [(false, eval a X.env), (false, eval b X.env)] := by rfl) (hs2 : starEach [b] X.env = [(false, eval b X.env)] := by rfl) :
    PI X tg (.Call (.Name "range" p) [a, b] [] pos) (Ei X.K X.mg rel W (i_rng (a_cons ma (a_cons mb a_nil)))) :=
  pi_of (pi_range2 hg hm (A_cons ha (A_cons hb A_nil h1) h2) hs hs2) fun σ H R q => by
    obtain ⟨O, ad, S, ρ, s, fr, k⟩ := q
    refine Ea.imp (Q := fun vs H1 => ((∃ j : Int, vs = [.int j] ∧ -(2 ^ 62) ≤ j ∧ j < 2 ^ 62 ∧ R (Itr 0 j.toNat) H1) ∨ ∃ i j : Int, vs = [.int i, .int j] ∧ (-(2 ^ 62) ≤ i ∧ i < 2 ^ 62 ∧ -(2 ^ 62) ≤ j ∧ j < 2 ^ 62) ∧ R (Itr i (j - i).toNat) H1) ∧ vs.length = 2) ?_ fun vs H1 g => ?_
    · have := w_rngA σ H R ⟨O, ad, S, ρ, s, fr, k⟩
      obtain ⟨O, ad, S, ρ, s, fr, k⟩ := this
      refine ⟨O, ad, S, ρ, s, fr, ?_⟩
      have al := aLen_cons (m := ma) (aLen_cons (m := mb) aLen_nil) ρ S
      cases e2 : a_cons ma (a_cons mb a_nil) ρ S with
      | ok ds S1 =>
        rw [e2] at k al
        exact fun vs O' ad' H' t z r => ⟨k vs O' ad' H' t z r, by rw [Paired.length r]; exact al⟩
      | er x fs S1 => rw [e2] at k; exact k
      | no => rw [e2] at k; exact k
    · obtain ⟨⟨j, rfl, _⟩ | g1, g2⟩ := g
      · simp at g2
      · exact g1
/-! ### for, while, comprehensions -/
theorem S_for {iter : Expr} {body : List Stmt} {mi : MI} {ts : List Nat} {g : TG} {tgt : D → Ro → Option Ro} {mb : MS} (hp : PassesOwn (model X.prog X.w) X.A X.env X.xe) (hc : X.calm = true) (hi : PI X tg iter (Ei X.K X.mg Grow W mi)) (hg : PG X tg g) (tk : TgOk X.K X.mg ts g tgt)
    (hb : PSs X body (Ss X.K X.mg W mb)) (hs : ∀ x, foldedSetIterable iter X.env x = pure x := by intro _; rfl) : PS X (.For tg iter body [] pos) (Ss X.K X.mg W (s_for mi tgt mb)) := ps_of (ps_for hp hc hi hg hb hs) (w_for tk)
theorem S_while {c : Expr} {body : List Stmt} {t : MT} {mb : MS} (n : Nat) (hp : PassesOwn (model X.prog X.w) X.A X.env X.xe) (hc : PT X c (Et X.K X.mg W t)) (hb : PSs X body (Ss X.K X.mg W mb)) : PS X (.While c body [] pos) (Ss X.K X.mg W (s_wh t mb n)) := ps_of (ps_while hp hc hb) w_while
theorem F_lc {elt iter : Expr} {ifs : List Expr} {scope : Scope} {own : List (Str × Nat)} {mi : MI} {g : TG} {tgt : D → Ro → Option Ro} {t : MT} {m : ME} (hc : X.calm = true) (hN : X.N.Nodup) (hi : PI X tg iter (Ei X.K X.mg Stp W mi)) (ok : BlkOk X.N X.env.scope scope own) (tk : TgOk X.K X.mg (own.map (·.2)) g tgt)
    (hg : ∀ (s : Shared) (H : Hp) (C : Addr) (cl : List (Str × Addr)) (fp : List Addr), PG (X.blk s H scope (compEnvC scope cl C X.env) fp) tg g) (ht : ∀ (s : Shared) (H : Hp) (C : Addr) (cl : List (Str × Addr)) (fp : List Addr), PTs (X.blk s H scope (compEnvC scope cl C X.env) fp) ifs (Et X.K X.mg W0 t))
    (he : ∀ (s : Shared) (H : Hp) (C : Addr) (cl : List (Str × Addr)) (fp : List Addr), PE (X.blk s H scope (compEnvC scope cl C X.env) fp) elt (Ee X.K X.mg W0 m)) (hs : ∀ x, foldedSetIterable iter X.env x = pure x := by intro _; rfl) :
    PE X (.ListComp elt [⟨tg, iter, ifs, 0⟩] scope pos) (Ef X.K X.mg W (f_lc (own.map (·.2)) mi tgt t m)) := pe_of (pe_lc hc hN hi ok hg ht he hs) (w_lc tk)
/-- name = [..] -/
theorem S_ownLc {i : Nat} {y : Str} {py : Pos} {elt iter : Expr} {ifs : List Expr} {scope : Scope} {own : List (Str × Nat)} {spos : Pos} {mi : MI} {g : TG} {tgt : D → Ro → Option Ro} {t : MT} {m : ME} (hc : X.calm = true) (hN : X.N.Nodup) (hy : X.N[i]? = some y) (hyl : X.env.scope.names.lookup y = some .local)
    (hsw : swapsWith (.ListComp elt [⟨tg, iter, ifs, 0⟩] scope pos) (some (.Name y py)) spos.line X.env = pure true) (hi : PI X tg iter (Ei X.K X.mg Stp W mi)) (ok : BlkOk X.N X.env.scope scope own) (tk : TgOk X.K X.mg (own.map (·.2)) g tgt)
    (hg : ∀ (s : Shared) (H : Hp) (C : Addr) (cl : List (Str × Addr)) (fp : List Addr), PG (X.blk s H scope (compEnvC scope cl C X.env) fp) tg g) (ht : ∀ (s : Shared) (H : Hp) (C : Addr) (cl : List (Str × Addr)) (fp : List Addr), PTs (X.blk s H scope (compEnvC scope cl C X.env) fp) ifs (Et X.K X.mg W0 t))
    (he : ∀ (s : Shared) (H : Hp) (C : Addr) (cl : List (Str × Addr)) (fp : List Addr), PE (X.blk s H scope (compEnvC scope cl C X.env) fp) elt (Ee X.K X.mg W0 m)) (hs : ∀ x, foldedSetIterable iter X.env x = pure x := by intro _; rfl) :
    PS X (.Assign [.Name y py] (.ListComp elt [⟨tg, iter, ifs, 0⟩] scope pos) spos) (Ss X.K X.mg W (s_own i (f_lc (own.map (·.2)) mi tgt t m))) :=
  ps_of (ps_setLc hc hN hy hyl hsw hi ok hg ht he hs) fun Dn σ H q => w_lc tk _ _ _ (w_own (i := i) Dn σ H q)
theorem S_setLc {i : Nat} {y : Str} {py : Pos} {elt iter : Expr} {ifs : List Expr} {scope : Scope} {own : List (Str × Nat)} {spos : Pos} {mi : MI} {g : TG} {tgt : D → Ro → Option Ro} {t : MT} {m : ME} (hc : X.calm = true) (hN : X.N.Nodup) (hy : X.N[i]? = some y) (hyl : X.env.scope.names.lookup y = some .local)
    (hsw : swapsWith (.ListComp elt [⟨tg, iter, ifs, 0⟩] scope pos) (some (.Name y py)) spos.line X.env = pure true) (hi : PI X tg iter (Ei X.K X.mg Stp W mi)) (ok : BlkOk X.N X.env.scope scope own) (tk : TgOk X.K X.mg (own.map (·.2)) g tgt)
    (hg : ∀ (s : Shared) (H : Hp) (C : Addr) (cl : List (Str × Addr)) (fp : List Addr), PG (X.blk s H scope (compEnvC scope cl C X.env) fp) tg g) (ht : ∀ (s : Shared) (H : Hp) (C : Addr) (cl : List (Str × Addr)) (fp : List Addr), PTs (X.blk s H scope (compEnvC scope cl C X.env) fp) ifs (Et X.K X.mg W0 t))
    (he : ∀ (s : Shared) (H : Hp) (C : Addr) (cl : List (Str × Addr)) (fp : List Addr), PE (X.blk s H scope (compEnvC scope cl C X.env) fp) elt (Ee X.K X.mg W0 m)) (hs : ∀ x, foldedSetIterable iter X.env x = pure x := by intro _; rfl) :
    PS X (.Assign [.Name y py] (.ListComp elt [⟨tg, iter, ifs, 0⟩] scope pos) spos) (Ss X.K X.mg W (s_set i (f_lc (own.map (·.2)) mi tgt t m))) :=
  ps_of (ps_setLc hc hN hy hyl hsw hi ok hg ht he hs) fun Dn σ H q => w_lc tk _ _ _ (w_fz _ _ _ (w_set (i := i) Dn σ H q))
theorem S_shLc {i : Nat} {y : Str} {py : Pos} {elt iter : Expr} {ifs : List Expr} {scope : Scope} {own : List (Str × Nat)} {spos : Pos} {mi : MI} {g : TG} {tgt : D → Ro → Option Ro} {t : MT} {m : ME} (hc : X.calm = true) (hN : X.N.Nodup) (hy : X.N[i]? = some y) (hyl : X.env.scope.names.lookup y = some .local)
    (hsw : swapsWith (.ListComp elt [⟨tg, iter, ifs, 0⟩] scope pos) (some (.Name y py)) spos.line X.env = pure true) (hi : PI X tg iter (Ei X.K X.mg Stp W mi)) (ok : BlkOk X.N X.env.scope scope own) (tk : TgOk X.K X.mg (own.map (·.2)) g tgt)
    (hg : ∀ (s : Shared) (H : Hp) (C : Addr) (cl : List (Str × Addr)) (fp : List Addr), PG (X.blk s H scope (compEnvC scope cl C X.env) fp) tg g) (ht : ∀ (s : Shared) (H : Hp) (C : Addr) (cl : List (Str × Addr)) (fp : List Addr), PTs (X.blk s H scope (compEnvC scope cl C X.env) fp) ifs (Et X.K X.mg W0 t))
    (he : ∀ (s : Shared) (H : Hp) (C : Addr) (cl : List (Str × Addr)) (fp : List Addr), PE (X.blk s H scope (compEnvC scope cl C X.env) fp) elt (Ee X.K X.mg W0 m)) (hs : ∀ x, foldedSetIterable iter X.env x = pure x := by intro _; rfl) :
    PS X (.Assign [.Name y py] (.ListComp elt [⟨tg, iter, ifs, 0⟩] scope pos) spos) (Ss X.K X.mg W (s_set i (e_sh (f_lc (own.map (·.2)) mi tgt t m)))) :=
  ps_of (ps_setLc hc hN hy hyl hsw hi ok hg ht he hs) fun Dn σ H q => w_lc tk _ _ _ (w_sh _ _ _ (w_set (i := i) Dn σ H q))
end
def t_yes : MT := fun _ S => .ok true S
section
variable {X : Cx} {W : WX}
theorem Ts_nil : PTs X [] (Et X.K X.mg W t_yes) := ⟨fun pins s σ H Q I q => pts_nil.run pins s σ H Q I (by
  obtain ⟨O, ad, S, ρ, s, fr, k⟩ := q
  exact k O ad H (.refl _ _ _) s)⟩
theorem Ts_one {c : Expr} {t : MT} (h : PT X c (Et X.K X.mg W t)) : PTs X [c] (Et X.K X.mg W t) := pts_one h
theorem Ts_cons {c : Expr} {cs : List Expr} {t u : MT} (h : PT X c (Et X.K X.mg W t)) (hr : PTs X cs (Et X.K X.mg W u)) : PTs X (c :: cs) (Et X.K X.mg W (t_and t u)) := by
  refine ⟨fun pins s σ H Q I q => ?_⟩
  have q2 := w_and (K := X.K) (mg := X.mg) (W := W) σ H Q q
  have h0 := h.run pins s σ H _ I q2
  rw [List.forIn_cons]
  refine wpAny_bind ?_
  rw [if_pos rfl]
  refine wpAny_bind (thn h0 fun b s1 ⟨H1, I1, q1⟩ => wpAny_pure ?_)
  cases b with
  | true => exact hr.run pins s1 σ H1 Q I1 q1
  | false =>
    have fin : ∀ l : List Expr, wpAny (model X.prog X.w) X.A (forIn l false fun c r => if r = true then do let ok ← isTrue c X.env (eval c X.env); pure (ForInStep.yield ok) else pure (ForInStep.yield r)) (TP X pins σ Q) X.xe s1 := by
      intro l
      induction l with
      | nil => rw [List.forIn_nil]; exact wpAny_pure ⟨H1, I1, q1⟩
      | cons a l ih =>
        rw [List.forIn_cons]
        refine wpAny_bind ?_
        rw [if_neg Bool.false_ne_true]
        exact wpAny_pure ih
    exact fin cs
end
end Gd

/-! Gd, part 7: stores, methods, isinstance, chains, slices, calls with keywords. -/
namespace Gd
open PySem L2 PyProof.Rows

/-! ### a thing is changed -/
section
variable {K : Fg} {mg : Mg} {W : WX} {c : Ctx} {O O1 : Addr → Prop} {ad ad1 : List Addr} {S S1 : Sg} {ρ : Ro} {σ : L2.St} {H H1 : Hp} {Dn : Ends}
theorem hide_upd {a : Addr} {o : HO} (h : O a) : ∀ b o', hide O H b = some o' → hide O (upd H a o) b = some o' := fun b o' e => by
  obtain ⟨n, e⟩ := of_hide e
  exact hide_of n (by rw [upd_ne (fun z => n (by rw [z]; exact h))]; exact e)
theorem grow_upd {a : Addr} {o : HO} (h : O a) : Grow O ad H O ad (upd H a o) := ⟨hide_upd h, fun _ _ e => e⟩
theorem Cst.upd (z : Cst c O ad H) {a : Addr} {o : HO} (h : O a) (h0 : ∀ o, c.H0 a = some o → a ∈ c.ad0) : Cst c O ad (L2.upd H a o) := by
  refine ⟨fun b o' e n => ?_, z.op, z.oq, z.ap, z.wf, z.wd⟩
  rw [upd_ne (fun q => n (by rw [q]; exact h0 o' (by rw [← q]; exact e)))]
  exact z.fr b o' e n
theorem Sto.upd_out (z : Sto K mg O ad S H) {a : Addr} {o : HO} (h : O a) (n : a ∉ ad) : Sto K mg O ad S (upd H a o) := by
  refine ⟨z.len, z.nd, z.hid, fun b hb => ?_, fun n' d hn => ?_⟩
  · by_cases q : b = a
    · exact ⟨o, by rw [q]; exact upd_same⟩
    · obtain ⟨o', ho⟩ := z.dom b hb
      exact ⟨o', by rw [upd_ne q]; exact ho⟩
  · obtain ⟨b, h1, h2⟩ := z.ob n' d hn
    refine ⟨b, h1, h2.mono (hide_upd h) (fun _ _ e => e) fun o' e => ?_⟩
    rw [upd_ne (fun q => n (by rw [← q]; exact List.mem_of_getElem? h1))]
    exact e
/-- a slot's own thing is changed -/
theorem Sta.upd_loc (z : Sta K mg c O ad S ρ σ H) {i : Nat} {d d' : D} {a : Addr} {o : HO} (hi : ρ[i]? = some (.ow d)) (ha : σ[i]? = some (some (.ref a))) (m : MRep K mg (hide O H) ad (upd H a o) a d') :
    Sta K mg c O ad S (ρ.set i (.ow d')) σ (upd H a o) ∧ Grow O ad H O ad (upd H a o) := by
  obtain ⟨b, h1, hO, hn, h2⟩ := z.fre.ow i d hi
  rw [ha] at h1
  cases h1
  have h0 := z.owf i d a hi ha
  refine ⟨⟨z.sto.upd_out hO hn, ⟨by rw [List.length_set]; exact z.fre.len, fun j e h => ?_, fun j e h => ?_, fun j k e e' b n h1 h2 h3 => ?_⟩, z.cst.upd hO (fun o e => by rw [h0] at e; cases e), fun j e b h1 h2 => ?_⟩, grow_upd hO⟩
  · rcases get_set h with ⟨rfl, e1, _⟩ | ⟨n, h⟩
    · cases e1
    · obtain ⟨v, q1, q2⟩ := z.fre.va j e h
      exact ⟨v, q1, q2.mono (hide_upd hO) fun _ _ e => e⟩
  · rcases get_set h with ⟨rfl, e1, _⟩ | ⟨n, h⟩
    · cases e1
      exact ⟨a, ha, hO, hn, m.mono (hide_upd hO) (fun _ _ e => e) fun _ e => e⟩
    · obtain ⟨b, q1, q2, q3, q4⟩ := z.fre.ow j e h
      refine ⟨b, q1, q2, q3, q4.mono (hide_upd hO) (fun _ _ e => e) fun o' e => ?_⟩
      rw [upd_ne (fun q => z.fre.ap i j d _ a n hi h ha (by rw [← q]; exact q1))]
      exact e
  · rcases get_set h1 with ⟨rfl, e1, _⟩ | ⟨n1, h1⟩
    · rcases get_set h2 with ⟨rfl, e2, _⟩ | ⟨n2, h2⟩
      · exact absurd rfl n
      · exact z.fre.ap _ k d _ b n hi h2 h3
    · rcases get_set h2 with ⟨rfl, e2, _⟩ | ⟨n2, h2⟩
      · exact z.fre.ap j _ _ d b n h1 hi h3
      · exact z.fre.ap j k e e' b n h1 h2 h3
  · rcases get_set h1 with ⟨rfl, e1, _⟩ | ⟨n1, h1⟩
    · exact z.owf _ d b hi h2
    · exact z.owf j e b h1 h2
/-- a thing of the store is changed -/
theorem Sta.upd_obj (z : Sta K mg c O ad S ρ σ H) {n : Nat} {d d' : D} {a : Addr} {o : HO} (hn : S[n]? = some d) (ha : ad[n]? = some a) (m : MRep K mg (hide O H) ad (upd H a o) a d') :
    Sta K mg c O ad (S.set n d') ρ σ (upd H a o) ∧ Grow O ad H O ad (upd H a o) := by
  have hm := List.mem_of_getElem? ha
  have hO := z.sto.hid a hm
  have hl := (List.getElem?_eq_some_iff.mp hn).1
  refine ⟨⟨⟨by rw [List.length_set]; exact z.sto.len, z.sto.nd, z.sto.hid, fun b hb => ?_, fun k e h => ?_⟩, ⟨z.fre.len, fun j e h => ?_, fun j e h => ?_, z.fre.ap⟩, z.cst.upd hO fun o' e => ?_, z.owf⟩, grow_upd hO⟩
  · by_cases q : b = a
    · exact ⟨o, by rw [q]; exact upd_same⟩
    · obtain ⟨o', ho⟩ := z.sto.dom b hb
      exact ⟨o', by rw [upd_ne q]; exact ho⟩
  · rcases get_set h with ⟨rfl, e1, _⟩ | ⟨nk, h⟩
    · cases e1
      exact ⟨a, ha, m.mono (hide_upd hO) (fun _ _ e => e) fun _ e => e⟩
    · obtain ⟨b, q1, q2⟩ := z.sto.ob k e h
      refine ⟨b, q1, q2.mono (hide_upd hO) (fun _ _ e => e) fun o' e => ?_⟩
      rw [upd_ne (fun q => nk (nd_ix z.sto.nd ha (by rw [← q]; exact q1)))]
      exact e
  · obtain ⟨v, q1, q2⟩ := z.fre.va j e h
    exact ⟨v, q1, q2.mono (hide_upd hO) fun _ _ e => e⟩
  · obtain ⟨b, q1, q2, q3, q4⟩ := z.fre.ow j e h
    refine ⟨b, q1, q2, q3, q4.mono (hide_upd hO) (fun _ _ e => e) fun o' e => ?_⟩
    rw [upd_ne (fun q => q3 (by rw [q]; exact hm))]
    exact e
  · obtain ⟨more, e1, f⟩ := z.cst.ap
    rw [e1] at hm
    rcases List.mem_append.mp hm with q | q
    · exact q
    · rw [f a q] at e; cases e
/-- behind an expression of a statement, other values kept -/
theorem bindK {m : ME} {f : D → MS} {vs : List V} {ds : List D} (z : Sta K mg c O ad S ρ σ H) (r : Paired (RepR K mg O ad ρ σ H) vs ds) (h : PostS K mg W c Dn O ad H (s_e m f ρ S)) :
    Ee K mg W m σ H fun v H1 => ∃ O1 ad1 S1 d, Sta K mg c O1 ad1 S1 ρ σ H1 ∧ RepR K mg O1 ad1 ρ σ H1 v d ∧ Paired (RepR K mg O1 ad1 ρ σ H1) vs ds ∧ PostS K mg W c Dn O1 ad1 H1 (f d ρ S1) := by
  refine ⟨O, ad, S, ρ, z.sto, z.fre, ?_⟩
  unfold s_e at h
  cases e : m ρ S with
  | ok d S1 =>
    simp only [e] at h
    exact fun v O' ad' H' t z' r' => ⟨O', ad', S1, d, z.step t z', r', PairedR.step z.sto.hid t r, h.rebase (t.grow z.sto.hid)⟩
  | er x fs S1 =>
    simp only [e] at h
    exact fun cls dd O' ad' H' t z' r => h cls dd σ O' ad' H' (t.grow z.sto.hid) (z.step t z') r
  | no => simp only [e] at h; exact h
end
/-- the thing behind d is given another content -/
def putTo (dd : D) (f : D → Option D) : MS := fun ρ S => match dd with
  | .loc i => (match ρ[i]? with
    | some (.ow c) => (match f c with
      | some c' => .nx (ρ.set i (.ow c')) S
      | none => .no)
    | _ => .no)
  | .obj n => (match S[n]? with
    | some c => (match f c with
      | some c' => .nx ρ (S.set n c')
      | none => .no)
    | none => .no)
  | _ => .no
section
variable {K : Fg} {mg : Mg} {W : WX} {c : Ctx} {O : Addr → Prop} {ad : List Addr} {S : Sg} {ρ : Ro} {σ : L2.St} {H : Hp} {Dn : Ends}
/-- where it stands, and what a change leaves -/
theorem putTo_ok {dd : D} {f : D → Option D} {v : V} (z : Sta K mg c O ad S ρ σ H) (r : RepR K mg O ad ρ σ H v dd) (h : PostS K mg W c Dn O ad H (putTo dd f ρ S)) :
    ∃ a e e', v = .ref a ∧ MRep K mg (hide O H) ad H a e ∧ f e = some e' ∧ ∀ o, MRep K mg (hide O H) ad (upd H a o) a e' → Dn.nx σ (upd H a o) := by
  unfold putTo at h
  cases dd with
  | loc i =>
    obtain ⟨⟨e, he⟩, hv⟩ := r
    simp only [he] at h
    cases ef : f e with
    | none => simp only [ef] at h; exact h.elim
    | some e' =>
      simp only [ef] at h
      obtain ⟨a, h1, h2, h3, h4⟩ := z.fre.ow i e he
      rw [h1] at hv
      cases hv
      refine ⟨a, e, e', rfl, h4, ef, fun o m => ?_⟩
      obtain ⟨z', g⟩ := z.upd_loc he h1 m
      exact h σ O ad _ g z'
  | obj n =>
    cases es : S[n]? with
    | none => simp only [es] at h; exact h.elim
    | some e =>
      simp only [es] at h
      cases ef : f e with
      | none => simp only [ef] at h; exact h.elim
      | some e' =>
        simp only [ef] at h
        have r' : Rep K mg (hide O H) ad v (.obj n) := r
        obtain ⟨a, h1, h4⟩ := z.sto.ob n e es
        cases r' with
        | obj h3 =>
          rw [h1] at h3; cases h3
          refine ⟨a, e, e', rfl, h4, ef, fun o m => ?_⟩
          obtain ⟨z', g⟩ := z.upd_obj es h1 m
          exact h σ O ad _ g z'
  | _ => exact h.elim
end

/-! ### o[i] = v -/
def kput (kvs : List (Key × D)) (k : Key) (v : D) : List (Key × D) :=
  if (kvs.any fun kv => decide (kv.1 = k)) = true then kvs.map (fun kv => if kv.1 = k then (kv.1, v) else kv) else kvs ++ [(k, v)]
def keyOf : D → Option Key
  | .int i => some (.inl i)
  | .str x => some (.inr x)
  | _ => none
def updI (i v : D) : D → Option D := fun c => match c with
  | .lst ds => (match i with
    | .int k => (ixN ds.length k).map fun j => .lst (ds.set j v)
    | _ => none)
  | .dct kvs => if kvs.length < 100000 then (keyOf i).map fun k => .dct (kput kvs k v) else none
  | _ => none
def s_seti (mv mo mi : ME) : MS := s_e mv fun dv => s_e mo fun dd => s_e mi fun di => if isLoc dv = true then fun _ _ => .no else putTo dd (updI di dv)
def rSet2 : V → V → V → Hp → (Hp → Prop) → Prop := fun o i v H Q => rSetL o i v H Q ∨ ∃ a H', o = .ref a ∧ DPut H a i v H' ∧ Q H'
theorem set_any {X : Cx} (hu : X.A.units + 1 < cLine) : PSet X rSet2 := by
  intro pins s σ H o i v ov iv u Q I ro ri rv h
  rcases h with h | ⟨a, H', rfl, h1, h2⟩
  · exact set_list pins s σ H o i v ov iv u Q I ro ri rv h
  · cases ro
    exact d_setItem hu I h1 ri rv fun s' I' => ⟨H', I', h2⟩
section
variable {K : Fg} {mg : Mg} {G : Hp} {ad : List Addr}
theorem RepK.keys {kvs : List (Key × V)} {ds : List (Key × D)} (r : RepK K mg G ad kvs ds) : kvs.map (·.1) = ds.map (·.1) := by
  induction kvs generalizing ds with
  | nil => cases r; rfl
  | cons p r' ih =>
    cases r with
    | cons a b => rw [List.map_cons, List.map_cons, ih b]
theorem RepK.length {kvs : List (Key × V)} {ds : List (Key × D)} (r : RepK K mg G ad kvs ds) : kvs.length = ds.length := by
  have := congrArg List.length r.keys
  simpa using this
theorem RepK.app {kvs kws : List (Key × V)} {ds es : List (Key × D)} (r : RepK K mg G ad kvs ds) (q : RepK K mg G ad kws es) : RepK K mg G ad (kvs ++ kws) (ds ++ es) := by
  induction kvs generalizing ds with
  | nil => cases r; exact q
  | cons p r' ih => cases r with | cons a b => exact .cons a (ih b)
theorem RepK.any {k : Key} {kvs : List (Key × V)} {ds : List (Key × D)} (r : RepK K mg G ad kvs ds) : (kvs.any fun kv => decide (kv.1 = k)) = ds.any fun kv => decide (kv.1 = k) := by
  induction kvs generalizing ds with
  | nil => cases r; rfl
  | cons p r' ih => cases r with | cons a b => rw [List.any_cons, List.any_cons, ih b]
theorem RepK.mapset {k : Key} {v : V} {d : D} (rv : Rep K mg G ad v d) {kvs : List (Key × V)} {ds : List (Key × D)} (r : RepK K mg G ad kvs ds) :
    RepK K mg G ad (kvs.map fun kv => if kv.1 = k then (kv.1, v) else kv) (ds.map fun kv => if kv.1 = k then (kv.1, d) else kv) := by
  induction kvs generalizing ds with
  | nil => cases r; exact .nil
  | cons p r' ih =>
    cases r with
    | cons a b =>
      rename_i kk vv dd ds
      rw [List.map_cons, List.map_cons]
      by_cases e : kk = k
      · simp only [e, if_true]
        exact .cons rv (ih b)
      · simp only [e, if_false]
        exact .cons a (ih b)
theorem RepK.put {k : Key} {v : V} {d : D} (rv : Rep K mg G ad v d) {kvs : List (Key × V)} {ds : List (Key × D)} (r : RepK K mg G ad kvs ds) : RepK K mg G ad (putK kvs k v) (kput ds k d) := by
  unfold putK kput
  rw [r.any (k := k)]
  split
  · exact r.mapset rv
  · exact r.app (.cons rv .nil)
end
section
variable {K : Fg} {mg : Mg} {W : WX}
theorem keyOf_V {G : Hp} {ad : List Addr} {v : V} {d : D} {k : Key} (r : Rep K mg G ad v d) (h : keyOf d = some k) : v = kV k := by
  cases d <;> cases h <;> cases r <;> rfl
theorem w_seti {mv mo mi : ME} : ∀ Dn σ H, Ss K mg W (s_seti mv mo mi) Dn σ H → tAsg (Ee K mg W mv) (gSub (Ee K mg W mo) (Ee K mg W mi) rSet2) Dn σ H := by
  rintro Dn σ H ⟨c, O, ad, S, ρ, z, h⟩
  refine (bindK (f := fun dv => s_e mo fun dd => s_e mi fun di => if isLoc dv = true then fun _ _ => .no else putTo dd (updI di dv)) z .nil h).imp fun v H1 g => ?_
  obtain ⟨O, ad, S, dv, z, rv, _, h⟩ := g
  refine (bindK (f := fun dd => s_e mi fun di => if isLoc dv = true then fun _ _ => .no else putTo dd (updI di dv)) z (.cons rv .nil) h).imp fun o H2 g => ?_
  obtain ⟨O, ad, S, dd, z, ro, r2, h⟩ := g
  refine (bindK (f := fun di => if isLoc dv = true then fun _ _ => .no else putTo dd (updI di dv)) z (.cons ro r2) h).imp fun i H3 g => ?_
  obtain ⟨O, ad, S, di, z, ri, r3, h⟩ := g
  cases r3 with
  | cons ro r4 =>
    cases r4 with
    | cons rv r5 =>
      cases el : isLoc dv with
      | true => rw [if_pos el] at h; exact h.elim
      | false =>
        rw [if_neg (by rw [el]; exact Bool.false_ne_true)] at h
        obtain ⟨a, e, e', rfl, m, he, k⟩ := putTo_ok z ro h
        unfold updI at he
        cases e with
        | lst ds =>
          cases di with
          | int j =>
            obtain ⟨n, hn, rfl⟩ := Option.map_eq_some_iff.mp he
            obtain ⟨vs, h1, h2⟩ := m
            have ri' : Rep K mg (hide O H3) ad i (.int j) := ri
            cases ri'
            refine .inl ⟨a, vs, j, n, rfl, rfl, h1, by rw [h2.length]; exact hn, k _ ⟨_, upd_same, h2.set (rv.rep el)⟩⟩
          | _ => cases he
        | dct kvs =>
          dsimp only at he
          split at he
          · rename_i hl
            obtain ⟨kk, hk, rfl⟩ := Option.map_eq_some_iff.mp he
            obtain ⟨vs, h1, h2⟩ := m
            have nl : isLoc di = false := by cases di <;> first | rfl | cases hk
            have ek := keyOf_V (ri.rep nl) hk
            refine .inr ⟨a, _, rfl, by rw [ek]; exact DPut.k h1 (Nat.lt_of_lt_of_le (by rw [h2.length]; exact hl) (by decide)), k _ ⟨_, upd_same, h2.put (rv.rep el)⟩⟩
          · cases he
        | _ => cases he

/-! ### xs.append(e) -/
def appD (y : D) : D → Option D
  | .lst ds => if ds.length < 100000 then some (.lst (ds ++ [y])) else none
  | _ => none
def isLstAt (ρ : Ro) (S : Sg) (d : D) : Bool := match deref ρ S d with
  | some (.lst _) => true
  | _ => false
def s_app (mo me : ME) : MS := s_e mo fun dd ρ S => if isLstAt ρ S dd = true then s_e me (fun de => if isLoc de = true then fun _ _ => .no else putTo dd (appD de)) ρ S else .no
theorem w_app {mo me : ME} : ∀ Dn σ H, Ss K mg W (s_app mo me) Dn σ H → tDrop (tBM K "list" rAppend (Ee K mg W mo) (Ea K mg W (a_cons me a_nil))) Dn σ H := by
  rintro Dn σ H ⟨c, O, ad, S, ρ, z, h⟩
  refine (bindK (f := fun dd ρ S => if isLstAt ρ S dd = true then s_e me (fun de => if isLoc de = true then fun _ _ => .no else putTo dd (appD de)) ρ S else .no) z .nil h).imp fun o H1 g => ?_
  obtain ⟨O, ad, S, dd, z, ro, _, h⟩ := g
  cases il : isLstAt ρ S dd with
  | false => rw [il, if_neg Bool.false_ne_true] at h; exact h.elim
  | true =>
    rw [il, if_pos rfl] at h
    refine ⟨?_, ?_⟩
    · unfold isLstAt at il
      split at il
      · rename_i ds hd
        obtain ⟨a, vs, rfl, h1, _⟩ := (deref_rep z.fre z.sto ro hd).lst
        exact .inl ⟨rfl, _, h1⟩
      · cases il
    · have hb := bindK (f := fun de => if isLoc de = true then fun _ _ => .no else putTo dd (appD de)) z (.cons ro .nil) h
      obtain ⟨O, ad, S, ρ', s, fr, hb⟩ := hb
      refine ⟨O, ad, S, ρ', s, fr, ?_⟩
      unfold a_cons a_nil
      cases e : me ρ' S with
      | no => rw [e] at hb; exact hb
      | er x fs S1 => rw [e] at hb; exact hb
      | ok d S1 =>
        rw [e] at hb
        intro vs O' ad' H' t z' r
        cases r with
        | cons r1 r2 =>
          cases r2
          rename_i v
          obtain ⟨O, ad, S, de, z, re, r3, h⟩ := hb v O' ad' H' t z' r1
          cases r3 with
          | cons ro _ =>
            cases el : isLoc de with
            | true => rw [if_pos el] at h; exact h.elim
            | false =>
              rw [if_neg (by rw [el]; exact Bool.false_ne_true)] at h
              obtain ⟨a, e, e', rfl, m, he, k⟩ := putTo_ok z ro h
              cases e with
              | lst ds =>
                unfold appD at he
                dsimp only at he
                split at he
                · rename_i hl
                  cases he
                  obtain ⟨vs, h1, h2⟩ := m
                  exact ⟨a, vs, v, rfl, rfl, h1, Nat.lt_of_lt_of_le (by rw [h2.length]; exact hl) (by decide), k _ ⟨_, upd_same, h2.app (.cons (re.rep el) .nil)⟩⟩
                · cases he
              | _ => cases he
end
section
variable {X : Cx} {W : WX} {o i e : Expr} {mo mi mv me : ME} {pos pos' apos cpos : Pos}
theorem S_seti (hu : X.A.units + 1 < cLine) (ho : PE X o (Ee X.K X.mg W mo)) (hi : PE X i (Ee X.K X.mg W mi)) (hv : PE X e (Ee X.K X.mg W mv))
    (ha : ∀ v, assign (.Subscript o i pos') X.env v = (do
      let ov ← holding [v] (eval o X.env)
      let iv ← holding [v, ov] (eval i X.env)
      standAt pos'
      holding [v, ov, iv] (setItem ov iv v)
      release [v, ov, iv] []) := by intro _; rfl)
    (hs : swapsWithSole [.Subscript o i pos'] e pos.line X.env = pure false := by rfl) (hw : swappedStores [.Subscript o i pos'] e X.env = pure none := by rfl)
    (h1 : (assignEach [.Subscript o i pos'] X.env).map (·.2) = [assign (.Subscript o i pos') X.env] := by rfl) : PS X (.Assign [.Subscript o i pos'] e pos) (Ss X.K X.mg W (s_seti mv mo mi)) :=
  ps_of (ps_asg hv (pg_sub ho hi (set_any hu) ha) hs hw h1) w_seti
theorem S_app (ho : PE X o (Ee X.K X.mg W mo)) (he : PE X e (Ee X.K X.mg W me)) (hbase : attributeBase o "append" X.env (eval o X.env) = eval o X.env := by rfl)
    (hfew : ((backTo cpos (starEach (e :: []) X.env)).all (fun x => !x.1) && (backToKw cpos (keywordEach [] X.env)).all (fun x => x.1.isSome)
      && decide ((e :: []).length + ([] : List Keyword).length + (if ([] : List Keyword).isEmpty then 0 else 1) < 30)) = true := by rfl)
    (hline : (apos.endLine == cpos.line) = true := by rfl) (hs : starEach (e :: []) X.env = (false, eval e X.env) :: starEach [] X.env := by rfl) (hplain : (backTo cpos (starEach [] X.env)).any (·.1) = false := by rfl) (hsw : swapsWith (.Call (.Attribute o "append" apos) [e] [] cpos) none pos.line X.env = pure false := by rfl) :
    PS X (.Expr (.Call (.Attribute o "append" apos) [e] [] cpos) pos) (Ss X.K X.mg W (s_app mo me)) :=
  ps_of (ps_expr (pe_bm PySem.F.plainAttrs_list PySem.F.slot_list_append PySem.F.type_list_append mt_append ho (A_cons he A_nil hs) hbase hfew hline hs hplain) hsw) w_app
end

/-! ### a method of a text -/
def e_m1 (f : Str → D → Option D) (a b : ME) : ME := fun ρ S => (a ρ S).bind fun d S1 => match d with
  | .str x => (b ρ S1).bind fun e S2 => liftO S2 ((deref ρ S2 e).bind (f x))
  | _ => .no
def Mt1P (K : Fg) (mg : Mg) (r : V → List V → Hp → VK → Prop) (f : Str → D → Option D) : Prop := ∀ O ad H x y e z, RepS K mg O ad H y e → f x e = some z → Res K mg O ad H z (r (.str x) [y] H)
theorem w_m1 {K : Fg} {mg : Mg} {W : WX} {r : V → List V → Hp → VK → Prop} {f : Str → D → Option D} {a b : ME} (hf : Mt1P K mg r f) : ∀ σ H Q, Ee K mg W (e_m1 f a b) σ H Q → tM1 r (Ee K mg W a) (Ee K mg W b) σ H Q := by
  intro σ H Q q
  refine (bindE (f := fun ρ d S1 => match d with | .str x => (b ρ S1).bind fun e S2 => liftO S2 ((deref ρ S2 e).bind (f x)) | _ => .no) q).imp fun v H1 g => ?_
  obtain ⟨O, ad, S, ρ, d, s, fr, r1, k⟩ := g
  cases d with
  | str x =>
    have r' : Rep K mg (hide O H1) ad v (.str x) := r1
    cases r'
    refine ⟨⟨x, rfl⟩, ?_⟩
    refine (bindE (W := W) (f := fun ρ e S2 => liftO S2 ((deref ρ S2 e).bind (f x))) ⟨O, ad, S, ρ, s, fr, k⟩).imp fun y H2 g => ?_
    obtain ⟨O, ad, S, ρ, e, s, fr, r2, k⟩ := g
    obtain ⟨z, ez⟩ := liftO_ok k
    obtain ⟨e', ed, ez⟩ := Option.bind_eq_some_iff.mp ez
    have kv := hf O ad H2 x y e' z (deref_rep fr s r2 ed) ez
    rw [ed] at k
    simp only [Option.bind_some, ez, liftO] at k
    exact kv.go s k
  | _ => exact k.elim
def strsOf : List D → Option (List Str)
  | [] => some []
  | .str x :: ds => (strsOf ds).map fun r => x :: r
  | _ :: _ => none
theorem strsOf_eq : ∀ {ds : List D} {xs : List Str}, strsOf ds = some xs → ds = xs.map .str
  | [], _, h => by cases h; rfl
  | d :: ds, _, h => by
    cases d with
    | str x =>
      obtain ⟨r, h1, rfl⟩ := Option.map_eq_some_iff.mp (show (strsOf ds).map (fun r => x :: r) = some _ from h)
      rw [strsOf_eq h1]; rfl
    | _ => cases h
theorem strsOf_map (xs : List Str) : strsOf (xs.map .str) = some xs := by
  induction xs with
  | nil => rfl
  | cons x xs ih => show (strsOf (xs.map .str)).map (fun r => x :: r) = some (x :: xs); rw [ih]; rfl
def d_join : Str → D → Option D := fun a e => match e with
  | .lst ds => (strsOf ds).bind fun ys => if (ys.map (·.length)).sum + ys.length * a.length ≤ 100000 then some (.str (Txt.join a ys)) else none
  | .tup ds => (strsOf ds).bind fun ys => if (ys.map (·.length)).sum + ys.length * a.length ≤ 100000 then some (.str (Txt.join a ys)) else none
  | _ => none
theorem mp_join {K : Fg} {mg : Mg} : Mt1P K mg (fun x xs H Q => ∃ a p, ∃ ys : List Str, x = .str a ∧ xs = [.ref p] ∧ (SqL K H p (ys.map V.str) ∨ SqT K H p (ys.map V.str)) ∧ (ys.map (·.length)).sum + ys.length * a.length ≤ 16777216 ∧ Q (.str (Txt.join a ys)) H) d_join := by
  intro O ad H x y e z r h
  unfold d_join at h
  split at h
  · obtain ⟨ys, h1, h2⟩ := Option.bind_eq_some_iff.mp h
    split at h2
    · rename_i hl
      cases h2
      obtain ⟨a, vs, rfl, h3, h4⟩ := r.lst
      rw [strsOf_eq h1] at h4
      exact res_v (.str _) fun Q q => ⟨x, a, ys, rfl, rfl, .inl (by rw [← h4.strs]; exact h3), Nat.le_trans hl (by decide), q⟩
    · cases h2
  · obtain ⟨ys, h1, h2⟩ := Option.bind_eq_some_iff.mp h
    split at h2
    · rename_i hl
      cases h2
      obtain ⟨a, vs, rfl, h3, h4⟩ := r.tup
      rw [strsOf_eq h1] at h4
      exact res_v (.str _) fun Q q => ⟨x, a, ys, rfl, rfl, .inr (by rw [← h4.strs]; exact h3), Nat.le_trans hl (by decide), q⟩
    · cases h2
  · cases h
section
variable {X : Cx} {W : WX} {o e : Expr} {mo me : ME} {apos pos : Pos}
theorem E_join (ho : PE X o (Ee X.K X.mg W mo)) (he : PE X e (Ee X.K X.mg W me)) (hs : starEach [e] X.env = [(false, eval e X.env)] := by rfl) (hbase : attributeBase o "join" X.env (eval o X.env) = eval o X.env := by rfl) (hline : (apos.endLine == pos.line) = true := by rfl) :
    PE X (.Call (.Attribute o "join" apos) [e] [] pos) (Ee X.K X.mg W (e_m1 d_join mo me)) := pe_of (pe_join ho he hs hbase hline) (w_m1 mp_join)
end

/-! ### isinstance -/
def tyD : D → Option String
  | .non => some "NoneType"
  | .bl _ => some "bool"
  | .int _ => some "int"
  | .str _ => some "str"
  | .lst _ => some "list"
  | .tup _ => some "tuple"
  | .dct _ => some "dict"
  | _ => none
theorem tyX_of {K : Fg} {mg : Mg} {O : Addr → Prop} {ad : List Addr} {H : Hp} {x : V} {d : D} {n : String} (r : RepS K mg O ad H x d) (h : tyD d = some n) : TyX K H x (.type n) := by
  cases d with
  | non => cases h; cases r.non; exact .base .non
  | bl b => cases h; cases r.bl; exact .base (.bl b)
  | int b => cases h; cases r.int; exact .base (.int b)
  | str b => cases h; cases r.str; exact .base (.str b)
  | lst b =>
    cases h
    obtain ⟨a, vs, rfl, h1, _⟩ := r.lst
    rcases h1 with (h1 | ⟨o, h1⟩) | ⟨o, its, n, hk, hc, _⟩
    · exact .base (.lst h1)
    · exact .base (.frz h1)
    · exact .kList hk hc
  | tup b =>
    cases h
    obtain ⟨a, vs, rfl, h1, _⟩ := r.tup
    rcases h1 with (h1 | ⟨o, h1⟩) | ⟨o, its, n, hk, hc, _⟩
    · exact .base (.tup h1)
    · exact .fTuple h1
    · exact .kTuple hk hc
  | dct b =>
    cases h
    obtain ⟨a, vs, rfl, h1, _⟩ := r.dct
    rcases h1 with h1 | ⟨o, h1⟩
    · exact .base (.dK h1)
    · exact .fDict h1
  | _ => cases h
def kitN (a : String) : List String → Option Bool
  | [] => some false
  | b :: r => match kitB a b, kitN a r with
    | some x, some y => some (x || y)
    | _, _ => none
/-- isinstance(x, T) -/
def d_isi (b : String) : D → Option D := fun d => ((tyD d).bind fun a => kitB a b).map .bl
/-- isinstance(x, (T1, T2, ..)) -/
def d_isiN (bs : List String) : D → Option D := fun d => ((tyD d).bind fun a => kitN a bs).map .bl
theorem kitN_any {K : Fg} {a : String} : ∀ {l : List String} {b : Bool}, kitN a l = some b → PySem.W.kitAny K (.type a) (l.map Value.type) = some b ∧ Paired ClsV (l.map V.ty) (l.map Value.type)
  | [], _, h => by cases h; exact ⟨kitAny_nil, .nil⟩
  | n :: l, _, h => by
    unfold kitN at h
    split at h
    · rename_i x y h1 h2
      cases h
      obtain ⟨h3, h4⟩ := kitN_any h2
      refine ⟨kitAny_cons (kit_ty h1) (fun e => ?_) fun e => ?_, .cons (.ty n) h4⟩
      · subst e; exact h3
      · subst e; rfl
    · cases h
def tysA (ns : List String) : TA := fun _ H Q => Q (ns.map V.ty) H
theorem tys_nil {X : Cx} : PA X [] (tysA []) := pa_of pa_nil fun _ _ _ q => q
theorem tys_cons {X : Cx} {e : Expr} {es : List Expr} {n : String} {ns : List String} (h : PE X e (tC (.ty n))) (r : PA X es (tysA ns)) (hs : starEach (e :: es) X.env = (false, eval e X.env) :: starEach es X.env := by rfl) : PA X (e :: es) (tysA (n :: ns)) := pa_of (pa_cons h r hs) fun _ _ _ q => q
section
variable {X : Cx} {W : WX} {e t : Expr} {es : List Expr} {m : ME} {p pos tp : Pos} {kk : Nat}
theorem E_isi {b : String} (hg : Gl X "isinstance") (hm : X.mg "isinstance" = none) (he : PE X e (Ee X.K X.mg W m)) (ht : PE X t (tC (.ty b))) (hs1 : starEach (t :: []) X.env = (false, eval t X.env) :: starEach [] X.env := by rfl)
    (hs : starEach (e :: [t]) X.env = (false, eval e X.env) :: starEach [t] X.env := by rfl) (hpl : (backTo pos (starEach [t] X.env)).any (·.1) = false := by rfl) :
    PE X (.Call (.Name "isinstance" p) [e, t] [] pos) (Ee X.K X.mg W (e_op1 (d_isi b) m)) :=
  pe_of (pe_callB call_isi hg hm (by decide +kernel) (pa_cons he (pa_cons ht pa_nil hs1) hs) (by decide) (by decide) hs hpl) fun σ H Q q =>
    (w_op1 (r := fun x H Q => rIsi X.K [x, .ty b] H Q) (fun O ad H x d z r h => by
      unfold d_isi at h
      obtain ⟨k, h1, rfl⟩ := Option.map_eq_some_iff.mp h
      obtain ⟨a, h2, h3⟩ := Option.bind_eq_some_iff.mp h1
      exact res_v (.bl _) fun Q q => ⟨x, .ty b, .type a, .type b, k, rfl, .ty b, tyX_of r h2, kit_ty h3, q⟩) σ H Q q)
theorem E_isiN {bs : List String} (hg : Gl X "isinstance") (hm : X.mg "isinstance" = none) (he : PE X e (Ee X.K X.mg W m)) (ht : PA X es (tysA bs)) (hl : bs.length ≤ 100) (hs1 : starEach ((.Tuple es kk tp) :: []) X.env = (false, eval (.Tuple es kk tp) X.env) :: starEach [] X.env := by rfl)
    (hs : starEach (e :: [.Tuple es kk tp]) X.env = (false, eval e X.env) :: starEach [.Tuple es kk tp] X.env := by rfl) (hpl : (backTo pos (starEach [.Tuple es kk tp] X.env)).any (·.1) = false := by rfl) :
    PE X (.Call (.Name "isinstance" p) [e, .Tuple es kk tp] [] pos) (Ee X.K X.mg W (e_op1 (d_isiN bs) m)) :=
  pe_of (pe_callB call_isiT hg hm (by decide +kernel) (pa_cons he (pa_cons (pe_tup ht) pa_nil hs1) hs) (by decide) (by decide) hs hpl) fun σ H Q q => by
    refine (bindE (f := fun ρ d S1 => liftO S1 ((deref ρ S1 d).bind (d_isiN bs))) q).imp fun x H1 g => ?_
    obtain ⟨O, ad, S, ρ, d, s, fr, r1, k⟩ := g
    obtain ⟨z, ez⟩ := liftO_ok k
    obtain ⟨d', ed, ez⟩ := Option.bind_eq_some_iff.mp ez
    rw [ed] at k
    simp only [Option.bind_some, ez, liftO] at k
    unfold d_isiN at ez
    obtain ⟨b, h1, rfl⟩ := Option.map_eq_some_iff.mp ez
    obtain ⟨a, h2, h3⟩ := Option.bind_eq_some_iff.mp h1
    obtain ⟨h4, h5⟩ := kitN_any (K := X.K) h3
    refine ⟨by rw [List.length_map]; exact Nat.le_trans hl (by decide), fun p hp => ?_⟩
    obtain ⟨t, z', hk, e⟩ := new_still (o := .tup (bs.map V.ty)) s hp
    have rx := deref_rep (fr.step s.hid t) z' (r1.step s.hid t) ed
    exact ⟨x, p, _, _, _, b, rfl, upd_same, h5, tyX_of rx h2, h4, k (.bl b) O ad _ t z' (repR_of (d := .bl b) (.bl b))⟩
end

/-! ### chains -/
def e_chain (f g : D → D → Option D) (a b c : ME) : ME := fun ρ S => (a ρ S).bind fun d S1 => (b ρ S1).bind fun e S2 => (liftO S2 ((deref ρ S2 d).bind fun d' => (deref ρ S2 e).bind fun e' => f d' e')).bind fun k S3 => (liftB S3 k).bind fun kk S4 => if kk = true then (c ρ S4).bind fun h S5 => liftO S5 ((deref ρ S5 e).bind fun e' => (deref ρ S5 h).bind fun h' => g e' h') else .ok (.bl false) S4
section
variable {K : Fg} {mg : Mg} {W : WX}
theorem w_chain {r r' : R2} {f g : D → D → Option D} {a b c : ME} (hf : OpP K mg r f) (hg : OpP K mg r' g) : ∀ σ H Q, Ee K mg W (e_chain f g a b c) σ H Q → tChain r r' (Ee K mg W a) (Ee K mg W b) (Ee K mg W c) σ H Q := by
  intro σ H Q q
  have q2 := bind2E (f := fun ρ d e S2 => (liftO S2 ((deref ρ S2 d).bind fun d' => (deref ρ S2 e).bind fun e' => f d' e')).bind fun k S3 => (liftB S3 k).bind fun kk S4 => if kk = true then (c ρ S4).bind fun h S5 => liftO S5 ((deref ρ S5 e).bind fun e' => (deref ρ S5 h).bind fun h' => g e' h') else .ok (.bl false) S4) q
  refine q2.imp fun x H1 q3 => q3.imp fun y H2 g => ?_
  obtain ⟨O, ad, S, ρ, d, e, s, fr, r1, r2, k⟩ := g
  cases ex : ((deref ρ S d).bind fun d' => (deref ρ S e).bind fun e' => f d' e') with
  | none => rw [ex] at k; exact k.elim
  | some z =>
    rw [ex] at k
    obtain ⟨d', ed, ez⟩ := Option.bind_eq_some_iff.mp ex
    obtain ⟨e', ee, ez⟩ := Option.bind_eq_some_iff.mp ez
    have kv := hf O ad H2 x y d' e' z (deref_rep fr s r1 ed) (deref_rep fr s r2 ee) ez
    cases z with
    | bl kb =>
      rcases kv with ⟨v, h1, h2⟩ | ⟨h0, o, h1, h2⟩
      · cases h1
        refine h2 _ ⟨kb, rfl, ?_⟩
        cases kb with
        | false =>
          rw [if_neg Bool.false_ne_true]
          exact post_bl s k
        | true =>
          rw [if_pos rfl]
          have k2 : PostE K mg W ρ σ Q O ad H2 ((c ρ S).bind fun h S5 => liftO S5 ((deref ρ S5 e).bind fun e' => (deref ρ S5 h).bind fun h' => g e' h')) := k
          refine ⟨O, ad, S, ρ, s, fr, ?_⟩
          cases ec : c ρ S with
          | no => rw [ec] at k2; exact k2
          | er x fs S1 => rw [ec] at k2; exact k2
          | ok hd S5 =>
            rw [ec] at k2
            intro w O' ad' H' t z' rw'
            have k3 : PostE K mg W ρ σ Q O' ad' H' (liftO S5 ((deref ρ S5 e).bind fun e' => (deref ρ S5 hd).bind fun h' => g e' h')) := PostE.rebase k2 t s.hid z'.dom
            obtain ⟨z2, ez2⟩ := liftO_ok k3
            rw [ez2] at k3
            obtain ⟨e2, ee2, ez2⟩ := Option.bind_eq_some_iff.mp ez2
            obtain ⟨h2', eh2, ez2⟩ := Option.bind_eq_some_iff.mp ez2
            have fr' := fr.step s.hid t
            exact (hg O' ad' H' y w e2 h2' z2 (deref_rep fr' z' (r2.step s.hid t) ee2) (deref_rep fr' z' rw' eh2) ez2).go z' k3
      · cases h0
    | _ => exact k.elim
end
end Gd

/-! Gd, part 8: the lemmas as a derivation names them. -/
namespace Gd
open PySem L2 PyProof.Rows

def d_add : D → D → Option D := fun d e => (d_addI d e).or (d_addS d e)
def d_lt : D → D → Option D := fun d e => (d_int2 (fun i j => some (.bl (decide (i < j)))) d e).or (d_str2 (fun i j => some (.bl (decide (i.cps.toList < j.cps.toList)))) d e)
def d_le : D → D → Option D := fun d e => (d_int2 (fun i j => some (.bl (decide (i ≤ j)))) d e).or (d_str2 (fun i j => some (.bl (!decide (j.cps.toList < i.cps.toList)))) d e)
def d_gt : D → D → Option D := d_int2 (fun i j => some (.bl (decide (j < i))))
def d_ge : D → D → Option D := d_int2 (fun i j => some (.bl (decide (j ≤ i))))
section
variable {X : Cx} {W : WX} {a b c e : Expr} {pos p : Pos} {ma mb mc m : ME} {es : List Expr} {r : MA}
theorem E_add (ha : PE X a (Ee X.K X.mg W ma)) (hb : PE X b (Ee X.K X.mg W mb)) : PE X (.BinOp a .Add b pos) (Ee X.K X.mg W (e_op2 d_add ma mb)) := E_bin (op_add.or op_add_str) (op_int0.or op_addS) ha hb
theorem E_sub (ha : PE X a (Ee X.K X.mg W ma)) (hb : PE X b (Ee X.K X.mg W mb)) : PE X (.BinOp a .Sub b pos) (Ee X.K X.mg W (e_op2 d_sub ma mb)) := E_bin op_sub op_int0 ha hb
theorem E_mul (ha : PE X a (Ee X.K X.mg W ma)) (hb : PE X b (Ee X.K X.mg W mb)) : PE X (.BinOp a .Mult b pos) (Ee X.K X.mg W (e_op2 d_mul ma mb)) := E_bin op_mul op_intC ha hb
theorem E_fdiv (ha : PE X a (Ee X.K X.mg W ma)) (hb : PE X b (Ee X.K X.mg W mb)) : PE X (.BinOp a .FloorDiv b pos) (Ee X.K X.mg W (e_op2 d_fdiv ma mb)) := E_bin op_fdivN op_intC ha hb
theorem E_mod (ha : PE X a (Ee X.K X.mg W ma)) (hb : PE X b (Ee X.K X.mg W mb)) : PE X (.BinOp a .Mod b pos) (Ee X.K X.mg W (e_op2 d_mod ma mb)) := E_bin op_modN op_intC ha hb
theorem E_pow (ha : PE X a (Ee X.K X.mg W ma)) (hb : PE X b (Ee X.K X.mg W mb)) : PE X (.BinOp a .Pow b pos) (Ee X.K X.mg W (e_op2 d_pow ma mb)) := E_bin op_pow op_intC ha hb
theorem or_lt : OpR X (compareOp .Lt) (fun x y H Q => rI0 (fun i j => .bl (decide (i < j))) x y H Q ∨ ∃ i j, x = .str i ∧ y = .str j ∧ Q (.bl (decide (i.cps.toList < j.cps.toList))) H) := op_lt.or op_lt_str
theorem or_le : OpR X (compareOp .LtE) (fun x y H Q => rI0 (fun i j => .bl (decide (i ≤ j))) x y H Q ∨ ∃ i j, x = .str i ∧ y = .str j ∧ Q (.bl (!decide (j.cps.toList < i.cps.toList))) H) := op_le.or op_le_str
theorem of_lt : OpP X.K X.mg (fun x y H Q => rI0 (fun i j => .bl (decide (i < j))) x y H Q ∨ ∃ i j, x = .str i ∧ y = .str j ∧ Q (.bl (decide (i.cps.toList < j.cps.toList))) H) d_lt := op_intB.or op_strB
theorem of_le : OpP X.K X.mg (fun x y H Q => rI0 (fun i j => .bl (decide (i ≤ j))) x y H Q ∨ ∃ i j, x = .str i ∧ y = .str j ∧ Q (.bl (!decide (j.cps.toList < i.cps.toList))) H) d_le := op_intB.or op_strB
theorem or_eq (hu : X.A.units + 64 < cLine) : OpR X (compareOp .Eq) (fun x y H Q => rEq x y H Q ∨ rEqD X.K x y H Q) := op_eq.or (op_eqD hu)
theorem or_ne (hu : X.A.units + 64 < cLine) : OpR X (compareOp .NotEq) (fun x y H Q => rNe x y H Q ∨ rNeD X.K x y H Q) := op_ne.or (op_neD hu)
theorem or_in : OpR X (compareOp .In) (rIn2 X.K false) := op_in_seq.or op_in_sign
theorem or_nin : OpR X (compareOp .NotIn) (rIn2 X.K true) := op_notIn_seq.or op_notIn_sign
/-- is None -/
def isNonD : D → Bool
  | .non => true
  | _ => false
def d_isN : D → D → Option D := fun d e => match e with
  | .non => some (.bl (isNonD d))
  | _ => none
def d_notN : D → D → Option D := fun d e => match e with
  | .non => some (.bl (!isNonD d))
  | _ => none
theorem RepS.isN {K : Fg} {mg : Mg} {O : Addr → Prop} {ad : List Addr} {H : Hp} {x : V} {d : D} (r : RepS K mg O ad H x d) : decide (x = .non) = isNonD d := by
  rcases r with r | ⟨a, rfl, r⟩
  · cases r <;> rfl
  · cases d <;> first | rfl | exact r.elim
theorem of_isN {K : Fg} {mg : Mg} : OpP K mg (fun x y H Q => y = .non ∧ Q (.bl (decide (x = .non))) H) d_isN := by
  intro O ad H x y d e z rx ry h
  unfold d_isN at h
  split at h
  · cases h
    refine res_v (.bl _) fun Q q => ⟨ry.non, ?_⟩
    rw [rx.isN]; exact q
  · cases h
theorem of_notN {K : Fg} {mg : Mg} : OpP K mg (fun x y H Q => y = .non ∧ Q (.bl (!decide (x = .non))) H) d_notN := by
  intro O ad H x y d e z rx ry h
  unfold d_notN at h
  split at h
  · cases h
    refine res_v (.bl _) fun Q q => ⟨ry.non, ?_⟩
    rw [rx.isN]; exact q
  · cases h
theorem E_chain {o1 o2 : CmpOp} {r1 r2 : R2} {f g : D → D → Option D} (ho : OpR X (compareOp o1) r1) (hf : OpP X.K X.mg r1 f) (ho2 : OpR X (compareOp o2) r2) (hg : OpP X.K X.mg r2 g) (ha : PE X a (Ee X.K X.mg W ma)) (hb : PE X b (Ee X.K X.mg W mb)) (hc : PE X c (Ee X.K X.mg W mc))
    (hm : lastMarks [o1, o2] [b, c] = false := by with_unfolding_all rfl) : PE X (.Compare a [o1, o2] [b, c] pos) (Ee X.K X.mg W (e_chain f g ma mb mc)) := pe_of (pe_chain ho ho2 ha hb hc hm) (w_chain hf hg)
theorem T_chain {o1 o2 : CmpOp} {r1 r2 : R2} {f g : D → D → Option D} (ho : OpR X (compareOp o1) r1) (hf : OpP X.K X.mg r1 f) (ho2 : OpR X (compareOp o2) r2) (hg : OpP X.K X.mg r2 g) (ha : PE X a (Ee X.K X.mg W ma)) (hb : PE X b (Ee X.K X.mg W mb)) (hc : PE X c (Ee X.K X.mg W mc))
    (hm : lastMarks [o1, o2] [b, c] = false := by with_unfolding_all rfl) : PT X (.Compare a [o1, o2] [b, c] pos) (Et X.K X.mg W (t_e (e_chain f g ma mb mc))) := pt_of (pt_chain ho ho2 ha hb hc hm) (w_test (w_chain hf hg))
theorem E_slice {lo hi : Option Expr} {p2 : Pos} {ml mh : MO} (ha : PE X a (Ee X.K X.mg W ma)) (hl : PO X lo (Eo X.K X.mg W ml)) (hh : PO X hi (Eo X.K X.mg W mh)) : PE X (.Subscript a (.Slice lo hi none p2) pos) (Ee X.K X.mg W (e_sl d_sl ma ml mh)) :=
  pe_of (pe_slice (sl_list.or sl_str) ha hl hh) (w_sl sp_sl)
theorem E_index (ha : PE X a (Ee X.K X.mg W ma)) (hb : PE X b (Ee X.K X.mg W mb)) (hs : PlainIx b) : PE X (.Subscript a b pos) (Ee X.K X.mg W (e_op2 d_ix ma mb)) := E_ix ix_seq op_dIx hs ha hb
theorem E_cb {id : String} {x : Str} {rr : List V → Hp → VK → Prop} {f : List D → Option D} (hc : CallR X (.builtin id) rr) (cp : CallP X.K X.mg rr f) (hg : Gl X x) (hm : X.mg x = none) (hv : bootBuiltins x = some (.builtin id)) (ha : PA X (e :: es) (Ea X.K X.mg W r)) (hn : x ≠ "__name__" := by decide) (hdb : (x == ("__debug__" : Str)) = false := by decide)
    (he : starEach (e :: es) X.env = (false, eval e X.env) :: starEach es X.env := by rfl) (hpl : (backTo pos (starEach es X.env)).any (·.1) = false := by rfl) : PE X (.Call (.Name x p) (e :: es) [] pos) (Ee X.K X.mg W (e_cb f r)) :=
  pe_of (pe_callB hc hg hm hv ha hn hdb he hpl) (w_cb cp)
/-- a module's constant -/
theorem E_glob {x : Str} {v : V} {u : Value} {d : D} (hg : Gl X x) (hm : X.mg x = some u) (rv : RelV v u) (rd : ∀ G ad, Rep X.K X.mg G ad v d) (hd : (x == ("__debug__" : Str)) = false := by decide) : PE X (.Name x pos) (Ee X.K X.mg W (e_c d)) := E_c (pe_glob hg hm rv hd) rd
end

/-! ### a call with keywords -/
def e_callK (m : List D → Sg → Out D) (g : List D → List D → List D) (r rk : MA) : ME := fun ρ S => (r ρ S).bind fun ds S1 => (rk ρ S1).bind fun es S2 => if noLoc ds = true ∧ noLoc es = true then m (g ds es) S2 else .no
def tCallKS (sp : Sp) (gV : List V → List V → List V) (n m : Nat) (E : L2.St → XK) (t tk : TA) : TE := fun σ H Q => t σ H fun vs H1 => tk σ H1 fun zs H2 => vs.length = n ∧ zs.length = m ∧ sp (gV vs zs) H2 Q (E σ)
section
variable {K : Fg} {mg : Mg} {W : WX}
theorem w_callK {n n1 n2 : Nat} {m : List D → Sg → Out D} {g : List D → List D → List D} {gV : List V → List V → List V} {r rk : MA} (len : ∀ ds S, ds.length ≠ n → m ds S = .no) (l1 : aLen n1 r) (l2 : aLen n2 rk)
    (hg : ∀ G ad vs ds zs es, Reps K mg G ad vs ds → Reps K mg G ad zs es → Reps K mg G ad (gV vs zs) (g ds es)) : ∀ σ H Q, Ee K mg W (e_callK m g r rk) σ H Q → tCallKS (SpM K mg n m) gV n1 n2 (WE W) (Ea K mg W r) (Ea K mg W rk) σ H Q := by
  rintro σ H Q ⟨O, ad, S, ρ, s, fr, k⟩
  refine ⟨O, ad, S, ρ, s, fr, ?_⟩
  unfold e_callK at k
  have a1 := l1 ρ S
  cases e : r ρ S with
  | no => rw [e] at k; exact k
  | er x fs S1 => rw [e] at k; exact k
  | ok ds S1 =>
    rw [e] at k a1
    intro vs O1 ad1 H1 t1 s1 r1
    have k1 : PostE K mg W ρ σ Q O1 ad1 H1 ((rk ρ S1).bind fun es S2 => if noLoc ds = true ∧ noLoc es = true then m (g ds es) S2 else .no) := PostE.rebase k t1 s.hid s1.dom
    have fr1 := fr.step s.hid t1
    refine ⟨O1, ad1, S1, ρ, s1, fr1, ?_⟩
    have a2 := l2 ρ S1
    cases e2 : rk ρ S1 with
    | no => rw [e2] at k1; exact k1
    | er x fs S2 => rw [e2] at k1; exact k1
    | ok es S2 =>
      rw [e2] at k1 a2
      intro zs O2 ad2 H2 t2 s2 r2
      have k2 : PostE K mg W ρ σ Q O2 ad2 H2 (if noLoc ds = true ∧ noLoc es = true then m (g ds es) S2 else .no) := PostE.rebase k1 t2 s1.hid s2.dom
      obtain ⟨⟨c1, c2⟩, k3⟩ := post_if (P := PostE K mg W ρ σ Q O2 ad2 H2) (fun z => z) k2
      have q1 := reps_of (PairedR.step s1.hid t2 r1) c1
      have q2 := reps_of r2 c2
      refine ⟨by rw [q1.length]; exact a1, by rw [q2.length]; exact a2, O2, ad2, S2, g ds es, s2, hg _ _ _ _ _ _ q1 q2, ?_, ?_⟩
      · by_cases el : (g ds es).length = n
        · exact el
        · rw [len _ S2 el] at k3; exact k3.elim
      · cases em : m (g ds es) S2 with
        | ok d S' => rw [em] at k3; exact fun v O' ad' H' t z r => k3 v O' ad' H' t z (repR_of r)
        | er x fs S' => rw [em] at k3; exact k3
        | no => rw [em] at k3; exact k3
end
section
variable {X : Cx} {W : WX} {k n1 : Nat} {f : Addr} {fd : FuncData} {ps ks : List Str} {x : Str} {p pos : Pos} {e : Expr} {es : List Expr} {kws : List Keyword} {t tk : TA} {sp : Sp} {E : L2.St → XK} {g : List Value → List Value → List Value} {gV : List V → List V → List V}
theorem run_kw {pins : List (Addr × Obj)} {σ : L2.St} {H : Hp} {s : Shared} {Q : VK} {us ws : List Value} {vs zs : List V} (F : FnOk X.prog X.w X.K X.mg X.base (L2.CX X.prog X.w) k f fd ps sp) (hr : Room k X.A) (hb : KBn X.K fd ps n1 ks g gV) (hx : PassesAt (L2.CX X.prog X.w) X σ (E σ))
    (I : L2.Inv X pins σ H s) (r : Vals vs us) (rz : Vals zs ws) (l1 : vs.length = n1) (l2 : zs.length = ks.length) (h : sp (gV vs zs) H Q (E σ)) : wpAny (model X.prog X.w) X.A (call (.ref f) us (ks.zip ws)) (EP X pins σ Q) X.xe s := by
  have bt := hb.to s us ws I.kIn (by rw [← r.length]; exact l1) (by rw [← rz.length]; exact l2)
  refine wpAny_call (codeAny_mono (F.run X.A X.stack s H _ _ _ Q (E σ) hr I.env0 bt (hb.rel r rz) h) fun q s' hq => ?_)
  rcases q with er | fl
  · exact hx pins H s er s' I hq
  · cases fl <;> first | exact I.after hq | exact False.elim hq
theorem pe_kw (F : FnOk X.prog X.w X.K X.mg X.base (L2.CX X.prog X.w) k f fd ps sp) (hr : Room k X.A) (hg : Gl X x) (hm : X.mg x = some (.ref f)) (hk : PySem.W.keepIn X.K (.ref f) = true) (hb : KBn X.K fd ps n1 ks g gV) (hx : ∀ σ, PassesAt (L2.CX X.prog X.w) X σ (E σ))
    (ha : PA X (e :: es) t) (hkw : PK X kws tk) (hall : (backToKw pos (keywordEach kws X.env)).all (·.1.isSome) = true := by rfl) (hks : (backToKw pos (keywordEach kws X.env)).filterMap (·.1) = ks := by rfl)
    (hdb : (x == ("__debug__" : Str)) = false := by decide) (he : starEach (e :: es) X.env = (false, eval e X.env) :: starEach es X.env := by rfl)
    (hpl : ((backTo pos (starEach (e :: es) X.env)).any (·.1) || (backToKw pos (keywordEach kws X.env)).any (·.1.isNone)) = false := by rfl) : PE X (.Call (.Name x p) (e :: es) kws pos) (tCallKS sp gV n1 ks.length E t tk) := by
  constructor
  intro pins s σ H Q I h
  apply wpAny_Call_Name_kw (ld_glob I hg hm ?_ hdb)
  apply PySem.W.callWith_KW (h₀ := X.base) I.ok.mod.kin hk hall (thn (ha.run pos pins s σ H _ I h) ?_) hpl he
  rintro us s1 ⟨vs, H1, I1, r, q⟩
  apply thn (hkw.run pos pins s1 σ H1 _ I1 q)
  rintro ws s2 ⟨zs, H2, I2, rz, l1, l2, q2⟩
  exact ⟨I2.kIn, by rw [hks]; exact run_kw F hr hb (hx σ) I2 r rz l1 l2 q2⟩
theorem pe_kw0 (F : FnOk X.prog X.w X.K X.mg X.base (L2.CX X.prog X.w) k f fd ps sp) (hr : Room k X.A) (hg : Gl X x) (hm : X.mg x = some (.ref f)) (hk : PySem.W.keepIn X.K (.ref f) = true) (hb : KBn X.K fd ps 0 ks g gV) (hx : ∀ σ, PassesAt (L2.CX X.prog X.w) X σ (E σ))
    (hkw : PK X kws tk) (hall : (backToKw pos (keywordEach kws X.env)).all (·.1.isSome) = true := by rfl) (hks : (backToKw pos (keywordEach kws X.env)).filterMap (·.1) = ks := by rfl)
    (hdb : (x == ("__debug__" : Str)) = false := by decide) (hpl : ((backTo pos (starEach [] X.env)).any (·.1) || (backToKw pos (keywordEach kws X.env)).any (·.1.isNone)) = false := by rfl) : PE X (.Call (.Name x p) [] kws pos) (tCallKS sp gV 0 ks.length E tNil tk) := by
  constructor
  intro pins s σ H Q I h
  apply wpAny_Call_Name_kw (ld_glob I hg hm ?_ hdb)
  apply PySem.W.callWith_KW0 (h₀ := X.base) I.ok.mod.kin hk hall ?_ hpl
  have h' : tk σ H fun zs H2 => ([] : List V).length = 0 ∧ zs.length = ks.length ∧ sp (gV [] zs) H2 Q (E σ) := h
  apply thn (hkw.run pos pins s σ H _ I h')
  rintro ws s2 ⟨zs, H2, I2, rz, l1, l2, q2⟩
  exact ⟨I2.kIn, by rw [hks]; exact run_kw (us := []) (vs := []) F hr hb (hx σ) I2 .nil rz rfl l2 q2⟩
end
section
variable {X : Cx} {W : WX} {k n1 : Nat} {f : Addr} {fd : FuncData} {ps ks : List Str} {x : Str} {p pos : Pos} {e : Expr} {es : List Expr} {kws : List Keyword} {r rk : MA} {g : List Value → List Value → List Value} {gV : List V → List V → List V} {gD : List D → List D → List D}
theorem E_callK {n b : Nat} {mb : MS} (F : FnOk X.prog X.w X.K X.mg X.base (L2.CX X.prog X.w) k f fd ps (SpM X.K X.mg b (Gd.fn n mb b))) (hr : Room k X.A) (hg : Gl X x) (hm : X.mg x = some (.ref f)) (hk : PySem.W.keepIn X.K (.ref f) = true) (hb : KBn X.K fd ps n1 ks g gV) (tk : Takes X W)
    (hgD : ∀ G ad vs ds zs es, Reps X.K X.mg G ad vs ds → Reps X.K X.mg G ad zs es → Reps X.K X.mg G ad (gV vs zs) (gD ds es)) (ha : PA X (e :: es) (Ea X.K X.mg W r)) (hkw : PK X kws (Ea X.K X.mg W rk)) (l1 : aLen n1 r) (l2 : aLen ks.length rk)
    (hall : (backToKw pos (keywordEach kws X.env)).all (·.1.isSome) = true := by rfl) (hks : (backToKw pos (keywordEach kws X.env)).filterMap (·.1) = ks := by rfl)
    (hdb : (x == ("__debug__" : Str)) = false := by decide) (he : starEach (e :: es) X.env = (false, eval e X.env) :: starEach es X.env := by rfl)
    (hpl : ((backTo pos (starEach (e :: es) X.env)).any (·.1) || (backToKw pos (keywordEach kws X.env)).any (·.1.isNone)) = false := by rfl) :
    PE X (.Call (.Name x p) (e :: es) kws pos) (Ee X.K X.mg W (e_callK (Gd.fn n mb b) gD r rk)) :=
  pe_of (pe_kw F hr hg hm hk hb (fun σ => passAt tk σ) ha hkw hall hks hdb he hpl) (w_callK fn_len l1 l2 hgD)
theorem E_callK0 {n b : Nat} {mb : MS} (F : FnOk X.prog X.w X.K X.mg X.base (L2.CX X.prog X.w) k f fd ps (SpM X.K X.mg b (Gd.fn n mb b))) (hr : Room k X.A) (hg : Gl X x) (hm : X.mg x = some (.ref f)) (hk : PySem.W.keepIn X.K (.ref f) = true) (hb : KBn X.K fd ps 0 ks g gV) (tk : Takes X W)
    (hgD : ∀ G ad vs ds zs es, Reps X.K X.mg G ad vs ds → Reps X.K X.mg G ad zs es → Reps X.K X.mg G ad (gV vs zs) (gD ds es)) (hkw : PK X kws (Ea X.K X.mg W rk)) (l2 : aLen ks.length rk)
    (hall : (backToKw pos (keywordEach kws X.env)).all (·.1.isSome) = true := by rfl) (hks : (backToKw pos (keywordEach kws X.env)).filterMap (·.1) = ks := by rfl)
    (hdb : (x == ("__debug__" : Str)) = false := by decide) (hpl : ((backTo pos (starEach [] X.env)).any (·.1) || (backToKw pos (keywordEach kws X.env)).any (·.1.isNone)) = false := by rfl) :
    PE X (.Call (.Name x p) [] kws pos) (Ee X.K X.mg W (e_callK (Gd.fn n mb b) gD a_nil rk)) :=
  pe_of (pe_kw0 F hr hg hm hk hb (fun σ => passAt tk σ) hkw hall hks hdb hpl) fun σ H Q q => by
    obtain ⟨O, ad, S, ρ, s, fr, k⟩ := w_callK (n1 := 0) fn_len aLen_nil l2 hgD σ H Q q
    exact k [] O ad H (.refl _ _ _) s .nil
end

def d_neg : D → Option D := fun d => match d with
  | .int i => some (.int (-i))
  | _ => none
theorem E_neg {X : Cx} {W : WX} {a : Expr} {pos : Pos} {m : ME} (ha : PE X a (Ee X.K X.mg W m)) : PE X (.UnaryOp .USub a pos) (Ee X.K X.mg W (e_op1 d_neg m)) :=
  pe_of (pe_un un_neg ha) fun σ H Q q => w_op1 (r := rU fun i => .int (-i)) (fun O ad H x d z r h => by
    unfold d_neg at h
    split at h
    · cases h
      exact res_v (.int _) fun Q q => ⟨_, r.int, q⟩
    · cases h) σ H Q q
end Gd

/-! Gd, part 9: dicts. -/
namespace Gd
open PySem L2 PyProof.Rows

def kmerge (kvs more : List (Key × D)) : List (Key × D) := more.foldl (fun acc kv => kput acc kv.1 kv.2) kvs
def pairsM : List (ME × ME) → Ro → Sg → Out (List (Key × D))
  | [], _, S => .ok [] S
  | (k, v) :: r, ρ, S => (k ρ S).bind fun kd S1 => (v ρ S1).bind fun vd S2 => match keyOf kd with
    | some key => if isLoc vd = true then .no else (pairsM r ρ S2).bind fun ps S3 => .ok ((key, vd) :: ps) S3
    | none => .no
def f_disp (l : List (ME × ME)) : ME := fun ρ S => (pairsM l ρ S).bind fun kvs S1 => if kvs.length ≤ 15 then .ok (.dct (kmerge [] kvs)) S1 else .no
section
variable {K : Fg} {mg : Mg} {W : WX} {G : Hp} {ad : List Addr}
theorem RepK.merge {more : List (Key × V)} {ms : List (Key × D)} (r : RepK K mg G ad more ms) : ∀ {kvs : List (Key × V)} {ds : List (Key × D)}, RepK K mg G ad kvs ds → RepK K mg G ad (mergeK kvs more) (kmerge ds ms) := by
  induction more generalizing ms with
  | nil => intro kvs ds q; cases r; exact q
  | cons p more ih =>
    intro kvs ds q
    cases r with
    | cons a b => exact ih b (q.put a)
theorem tPairs_of {σ : L2.St} {ρ : Ro} : ∀ (l : List (ME × ME)) {O : Addr → Prop} {ad : List Addr} {S : Sg} {H : Hp} {Q : List (V × V) → Hp → Prop}, Sto K mg O ad S H → Fre K mg O ad ρ σ H →
    (match pairsM l ρ S with
      | .ok kvs S' => ∀ (ps : List (Key × V)) O' ad' H', Stp O ad H O' ad' H' → Sto K mg O' ad' S' H' → RepK K mg (hide O' H') ad' ps kvs → Q (ps.map fun kv => (kV kv.1, kv.2)) H'
      | .er x fs S' => ∀ cls dd O' ad' H', Stp O ad H O' ad' H' → Sto K mg O' ad' S' H' → XRep K mg O' ad' H' cls dd x fs → W cls dd σ H'
      | .no => False) → tPairs (l.map fun p => (Ee K mg W p.1, Ee K mg W p.2)) σ H Q
  | [], O, ad, S, H, Q, s, fr, h => h [] O ad H (.refl _ _ _) s .nil
  | (k, v) :: r, O, ad, S, H, Q, s, fr, h => by
    refine ⟨O, ad, S, ρ, s, fr, ?_⟩
    unfold pairsM at h
    show PostE K mg W ρ σ _ O ad H (k ρ S)
    cases e : k ρ S with
    | no => simp only [e, Out.bind] at h
    | er x fs S1 => simp only [e, Out.bind] at h; exact h
    | ok kd S1 =>
      simp only [e, Out.bind] at h
      intro kv O1 ad1 H1 t1 s1 r1
      have fr1 := fr.step s.hid t1
      refine ⟨O1, ad1, S1, ρ, s1, fr1, ?_⟩
      show PostE K mg W ρ σ _ O1 ad1 H1 (v ρ S1)
      cases e2 : v ρ S1 with
      | no => simp only [e2] at h
      | er x fs S2 =>
        simp only [e2] at h
        exact fun cls dd O' ad' H' t z r => h cls dd O' ad' H' (t1.trans t s.hid s1.dom) z r
      | ok vd S2 =>
        simp only [e2] at h
        intro vv O2 ad2 H2 t2 s2 r2
        have t12 := t1.trans t2 s.hid s1.dom
        cases ek : keyOf kd with
        | none => simp only [ek] at h
        | some key =>
          simp only [ek] at h
          cases el : isLoc vd with
          | true => rw [if_pos el] at h; exact h.elim
          | false =>
            rw [if_neg (by rw [el]; exact Bool.false_ne_true)] at h
            have nl : isLoc kd = false := by cases kd <;> first | rfl | cases ek
            have hk := keyOf_V (r1.rep nl) ek
            subst hk
            refine tPairs_of r (Q := fun ps H3 => Q ((kV key, vv) :: ps) H3) s2 (fr1.step s1.hid t2) ?_
            cases e3 : pairsM r ρ S2 with
            | no => simp only [e3] at h
            | er x fs S3 =>
              simp only [e3] at h
              exact fun cls dd O' ad' H' t z r => h cls dd O' ad' H' (t12.trans t s.hid s2.dom) z r
            | ok kvs S3 =>
              simp only [e3] at h
              exact fun ps O' ad' H' t z rk => h ((key, vv) :: ps) O' ad' H' (t12.trans t s.hid s2.dom) z (.cons ((r2.rep el).mono (t.hide s2.hid) t.get) rk)
theorem w_disp {l : List (ME × ME)} : ∀ σ H Q, Ef K mg W (f_disp l) σ H Q → tDisp (l.map fun p => (Ee K mg W p.1, Ee K mg W p.2)) σ H Q := by
  rintro σ H Q ⟨O, ad, S, ρ, s, fr, h⟩ p hp
  obtain ⟨t, z, np, mr⟩ := new_own (K := K) (mg := mg) (o := .dK []) (d := .dct []) s hp ⟨[], upd_same, .nil⟩
  refine tPairs_of l z (fr.step s.hid t) ?_
  unfold f_disp at h
  cases e : pairsM l ρ S with
  | no => simp only [e] at h; exact h
  | er x fs S1 =>
    simp only [e] at h
    exact fun cls dd O' ad' H' t2 z2 r => h cls dd O' ad' H' (t.trans t2 s.hid z.dom) z2 r
  | ok kvs S1 =>
    simp only [e] at h
    obtain ⟨c1, k⟩ := post_if (P := PostF K mg W ρ σ Q O ad H) (fun z => z) h
    intro ps O' ad' H' t2 z2 rk
    have hpd := t2.fr p _ upd_same np
    have nD := t2.nmem np upd_same
    have oD : O' p := t2.op p (.inr rfl)
    refine ⟨hpd, ps, rfl, by rw [rk.length]; exact c1, k p O' ad' _ ⟨fun b o hb m => ?_, fun a ha => t2.op a (.inl ha), fun a ha => ?_, t2.ap.imp fun m hm => ⟨hm.1, fun a ha => ?_⟩⟩ (z2.upd_out oD nD) oD nD hp ⟨_, upd_same, (RepK.merge rk .nil).mono (hide_upd oD) fun _ _ e => e⟩⟩
    · rw [upd_ne (ne_of_none hb hp)]
      exact t2.fr b o (t.fr b o hb m) m
    · rcases t2.oq a ha with (q | q) | q
      · exact .inl q
      · exact .inr (by rw [q]; exact hp)
      · by_cases e : a = p
        · exact .inr (by rw [e]; exact hp)
        · rw [upd_ne e] at q; exact .inr q
    · have q := hm.2 a ha
      by_cases e : a = p
      · rw [e, upd_same] at q; cases q
      · rw [upd_ne e] at q; exact q
end
section
variable {X : Cx} {W : WX} {pos : Pos}
theorem F_dict0 : PE X (.Dict [] [] pos) (Ef X.K X.mg W (f_disp [])) := pe_of pe_dnewK fun σ H Q q => by
  obtain ⟨O, ad, S, ρ, s, fr, k⟩ := q
  intro p hp
  obtain ⟨t, z, np, mr⟩ := new_own (K := X.K) (mg := X.mg) (o := .dK []) (d := .dct []) s hp ⟨[], upd_same, .nil⟩
  exact k p _ ad _ t z (.inr rfl) np hp mr
theorem F_disp {keys : List (Option Expr)} {values : List Expr} {l : List (ME × ME)} (h : PPs X pos keys values (l.map fun p => (Ee X.K X.mg W p.1, Ee X.K X.mg W p.2))) (hall : keys.all (·.isSome) = true) (hl : keys.length = values.length) (h0 : keys ≠ []) (h15 : keys.length ≤ 15) :
    PE X (.Dict keys values pos) (Ef X.K X.mg W (f_disp l)) := pe_of (pe_disp h hall hl h0 h15) w_disp
theorem P_nil : PPs X pos [] [] (([] : List (ME × ME)).map fun p => (Ee X.K X.mg W p.1, Ee X.K X.mg W p.2)) := pps_nil
theorem P_cons {k v : Expr} {ks : List (Option Expr)} {vs : List Expr} {mk mv : ME} {l : List (ME × ME)} (hk : PE X k (Ee X.K X.mg W mk)) (hv : PE X v (Ee X.K X.mg W mv)) (hr : PPs X pos ks vs (l.map fun p => (Ee X.K X.mg W p.1, Ee X.K X.mg W p.2))) :
    PPs X pos (some k :: ks) (v :: vs) (((mk, mv) :: l).map fun p => (Ee X.K X.mg W p.1, Ee X.K X.mg W p.2)) := pps_cons hk hv hr
end
end Gd

/-! Gd, part 10: a law's end. -/
namespace Gd
open PySem L2 PyProof.Rows

theorem hide_no (H : Hp) : hide (fun _ => False) H = H := by
  funext a; unfold hide; rw [if_neg (fun h => h)]
def spL (K : Fg) (n : Nat) : Sp := fun vs H Q _ => ∃ (a : Addr) (ns : List Int), vs = [.ref a] ∧ SqL K H a (ns.map V.int) ∧ ns.length ≤ n ∧ (∀ z ∈ ns, Builtin.Int.intBits z ≤ 1048576) ∧ ∀ H', Q (.bl true) H'
theorem spL_imp {K : Fg} {mg : Mg} {n : Nat} {m : List D → Sg → Out D} (hm : ∀ ns : List Int, ns.length ≤ n → ∃ S', m [.lst (ns.map .int)] [] = .ok (.bl true) S') : ∀ vs H Q E, spL K n vs H Q E → SpM K mg 1 m vs H Q E := by
  rintro vs H Q E ⟨a, ns, rfl, hS, hl, hb, k⟩
  obtain ⟨S', e⟩ := hm ns hl
  refine ⟨fun _ => False, [], [], [.lst (ns.map .int)], ⟨rfl, .nil, (fun _ h => nomatch h), (fun _ h => h.elim), (fun n d h => by simp at h)⟩, ?_, rfl, ?_⟩
  · rw [hide_no]
    exact .cons (.lst hS .of_ints) .nil
  · rw [e]
    intro v O' ad' H' _ _ r
    cases r
    exact k H'
theorem walk {l : PySem.W.OpenLaw} {q : Program} {loose : List Str} {XP : (Str → Option Value) → Heap → Prop} {YP : World → Heap → Prop} {d : DefRec} {K : Params → Fg} {m : List D → Sg → Out D} {k n : Nat} (hn : l.most = some n) (hn2 : n ≤ sizeLine) (hdf : d.params.defaults = [])
    (hr : Room k callerA) (hm : ∀ ns : List Int, ns.length ≤ n → ∃ S', m [.lst (ns.map .int)] [] = .ok (.bl true) S') (hY : ∀ (w : World) (h : Heap), YP w h → (K w.params).In h)
    (F : ∀ (w : World) (mg : Str → Option Value) (fa : Addr) (h : Heap), (K w.params).In h → h.Ns mainGlobals mg → mg d.name = some (.ref fa) →
      ∃ fd : FuncData, (∀ (s : Shared) (u : Value), BindsTo s fd ⟨[u], []⟩ [("script", u)]) ∧ ∀ base : Heap, (K w.params).In base → base.Ns mainGlobals mg → FnOk l.prog w (K w.params) mg base (L2.CX l.prog w) k fa fd ["script"] (SpM (K w.params) mg 1 m)) :
    PySem.W.WalkO q loose XP YP l.row.toRowW d [] (fun f vs => PySem.call f vs) :=
  L2.walk_ofB (n := n) (k := k) (x := "script") (CX := fun w => L2.CX l.prog w) (sp := fun w => spL (K w.params) n) hn hn2 hdf hr hY
    (fun w mg fa h h1 h2 h3 => by
      obtain ⟨fd, b, g⟩ := F w mg fa h h1 h2 h3
      exact ⟨fd, b, fun base k1 k2 => (g base k1 k2).imp (spL_imp hm)⟩)
    (fun _ _ a ns hl hb _ hS => ⟨a, ns, rfl, hS, hl, hb, fun _ => rfl⟩) fun w H s e s' z => by
      obtain ⟨_, _, _, _, _, _, _, _, _, _, _, _, z⟩ := z
      exact z
/-! ### constants of the module -/
theorem rep_tup {K : Fg} {mg : Mg} {a : Addr} {od : Option Addr} {its : Array Value} {sl : Array (Option Value)} {n : Nat} {xs : List V} {ds : List D} (l : K.lookup a = some ⟨.type "tuple", od, .seq its n, sl⟩) (hs : its.size ≤ sizeLine) (hv : Vals xs its.toList)
    (hr : ∀ G ad, Reps K mg G ad xs ds) : ∀ G ad, Rep K mg G ad (.ref a) (.tup ds) := fun G ad => .tup (.inr ⟨_, its, n, l, rfl, rfl, hs, hv⟩) (hr G ad)
theorem rep_lst {K : Fg} {mg : Mg} {a : Addr} {its : Array Value} {sl : Array (Option Value)} {n : Nat} {xs : List V} {ds : List D} (l : K.lookup a = some ⟨.type "list", none, .seq its n, sl⟩) (hs : its.size ≤ sizeLine) (hv : Vals xs its.toList)
    (hr : ∀ G ad, Reps K mg G ad xs ds) : ∀ G ad, Rep K mg G ad (.ref a) (.lst ds) := fun G ad => .lst (.inr ⟨_, its, n, l, rfl, rfl, rfl, hs, hv⟩) (hr G ad)
/-- a def all of whose arguments are written by name, in their order -/
theorem kb0 {K : Fg} {x : Str} {st : Stmt} {ps : List Str} {kV doc pm cdv ct : Value} {an : Option Addr} (h : ∀ ws : List Value, ws.length = ps.length → bindArgs (PySem.W.fnOf x x (defArgs st) (defBody st) (defScope st) .none kV doc pm an cdv ct) ⟨[], ps.zip ws⟩ = pure (ps.zip ws)) :
    KBn K (PySem.W.fnOf x x (defArgs st) (defBody st) (defScope st) .none kV doc pm an cdv ct) ps 0 ps (fun _ ws => ws) (fun _ zs => zs) :=
  ⟨fun s us ws _ h1 h2 => (by
    cases us with
    | nil => exact .of_eq (h ws h2)
    | cons a b => cases h1), fun _ h => h⟩
end Gd

/-! Gd, part 11: own classes; what is never reached. -/
namespace Gd
open PySem L2 PyProof.Rows

/-! ### what is never reached needs no rule -/
def e_never : ME := fun _ _ => .no
def s_never : MS := fun _ _ => .no
section
variable {X : Cx} {W : WX}
theorem E_never {e : Expr} : PE X e (Ee X.K X.mg W e_never) := ⟨fun pins s σ H Q I h => by
  obtain ⟨O, ad, S, ρ, _, _, h⟩ := h
  exact h.elim⟩
theorem S_never {st : Stmt} : PS X st (Ss X.K X.mg W s_never) := ⟨fun pins s σ H D I h => by
  obtain ⟨c, O, ad, S, ρ, _, h⟩ := h
  exact h.elim⟩
end
/-! ### fields -/
def putFD (f : Str) (v : D) : List (Str × D) → List (Str × D)
  | [] => [(f, v)]
  | (g, x) :: r => if g = f then (g, v) :: r else (g, x) :: putFD f v r
structure FldOk (K : Fg) (mg : Mg) (f : Str) (c : Str) : Prop where
  ok : ∀ C, mg c = some (.ref C) → Cls K C ∧ NoAttr K C f
def d_fld (cs : List Str) (f : Str) : D → Option D := fun d => match d with
  | .ins c gs => if c ∈ cs then gs.lookup f else none
  | _ => none
def setF (cs : List Str) (f : Str) (v : D) : D → Option D := fun d => match d with
  | .ins c gs => if c ∈ cs ∧ gs.length < 1000 then some (.ins c (putFD f v gs)) else none
  | _ => none
section
variable {K : Fg} {mg : Mg} {G : Hp} {ad : List Addr}
theorem RepF.length {vs : List (Str × V)} {ds : List (Str × D)} (r : RepF K mg G ad vs ds) : vs.length = ds.length := by
  induction vs generalizing ds with
  | nil => cases r; rfl
  | cons p q ih => cases r with | cons a b => rw [List.length_cons, List.length_cons, ih b]
theorem RepF.lookup {f : Str} {d : D} {vs : List (Str × V)} {ds : List (Str × D)} (r : RepF K mg G ad vs ds) (h : ds.lookup f = some d) : ∃ v, vs.lookup f = some v ∧ Rep K mg G ad v d := by
  induction vs generalizing ds with
  | nil => cases r; cases h
  | cons p q ih =>
    cases r with
    | cons a b =>
      rename_i k v d' ds'
      rw [List.lookup_cons] at h ⊢
      cases e : f == k with
      | true => rw [e] at h; cases h; exact ⟨v, rfl, a⟩
      | false => rw [e] at h; exact ih b h
theorem RepF.none {f : Str} {vs : List (Str × V)} {ds : List (Str × D)} (r : RepF K mg G ad vs ds) (h : ds.lookup f = none) : vs.lookup f = none := by
  induction vs generalizing ds with
  | nil => rfl
  | cons p q ih =>
    cases r with
    | cons a b =>
      rename_i k v d' ds'
      rw [List.lookup_cons] at h ⊢
      cases e : f == k with
      | true => rw [e] at h; cases h
      | false => rw [e] at h; exact ih b h
theorem RepF.put {f : Str} {v : V} {d : D} (rv : Rep K mg G ad v d) {vs : List (Str × V)} {ds : List (Str × D)} (r : RepF K mg G ad vs ds) : RepF K mg G ad (L2.putF f v vs) (putFD f d ds) := by
  induction vs generalizing ds with
  | nil => cases r; exact .cons rv .nil
  | cons p q ih =>
    cases r with
    | cons a b =>
      rename_i k v' d' ds'
      unfold L2.putF putFD
      by_cases e : k = f
      · rw [if_pos e, if_pos e]; exact .cons rv b
      · rw [if_neg e, if_neg e]; exact .cons a (ih b)
/-- an instance, seen -/
theorem RepS.ins {O : Addr → Prop} {H : Hp} {x : V} {c : Str} {gs : List (Str × D)} (r : RepS K mg O ad H x (.ins c gs)) : ∃ a C dx fs, x = .ref a ∧ mg c = some (.ref C) ∧ H a = some (.ins C dx fs) ∧ RepF K mg (hide O H) ad fs gs := by
  rcases r with r | ⟨a, rfl, C, dx, fs, h1, h2, h3⟩
  · cases r with
    | ins h1 h2 h3 => exact ⟨_, _, _, _, rfl, h1, (of_hide h2).2, h3⟩
  · exact ⟨a, C, dx, fs, rfl, h1, h2, h3⟩
end
section
variable {X : Cx} {W : WX} {e : Expr} {pos : Pos} {m : ME}
theorem w_fld {K : Fg} {mg : Mg} {W : WX} {cs : List Str} {f : Str} (T : ∀ c ∈ cs, FldOk K mg f c) {a : ME} : ∀ σ H Q, Ee K mg W (e_op1 (d_fld cs f) a) σ H Q → tFld K (Ee K mg W a) f σ H Q := by
  intro σ H Q q
  refine (bindE (f := fun ρ d S1 => liftO S1 ((deref ρ S1 d).bind (d_fld cs f))) q).imp fun x H1 g => ?_
  obtain ⟨O, ad, S, ρ, d, s, fr, r1, k⟩ := g
  obtain ⟨z, ez⟩ := liftO_ok k
  obtain ⟨d', ed, ez⟩ := Option.bind_eq_some_iff.mp ez
  rw [ed] at k
  simp only [Option.bind_some, ez, liftO] at k
  have rx := deref_rep fr s r1 ed
  cases d' with
  | ins c gs =>
    unfold d_fld at ez
    dsimp only at ez
    split at ez
    · rename_i hc
      obtain ⟨p, C, dx, fs, rfl, hC, hp, rf⟩ := rx.ins
      obtain ⟨v, lv, rv⟩ := rf.lookup ez
      obtain ⟨cl, na⟩ := (T c hc).ok C hC
      exact ⟨p, C, dx, fs, v, rfl, hp, cl, na, lv, k v O ad H1 (.refl _ _ _) s (repR_of rv)⟩
    · cases ez
  | _ => cases ez
theorem E_fld {cs : List Str} {f : Str} (T : ∀ c ∈ cs, FldOk X.K X.mg f c) (he : PE X e (Ee X.K X.mg W m)) (hb : attributeBase e f X.env (eval e X.env) = eval e X.env := by rfl) : PE X (.Attribute e f pos) (Ee X.K X.mg W (e_op1 (d_fld cs f) m)) :=
  pe_of (pe_fld he hb) (w_fld T)
end
def s_fld (cs : List Str) (f : Str) (mv mo : ME) : MS := s_e mv fun dv => s_e mo fun dd => if isLoc dv = true then fun _ _ => .no else putTo dd (setF cs f dv)
section
variable {K : Fg} {mg : Mg} {W : WX}
theorem w_sfld {cs : List Str} {f : Str} (T : ∀ c ∈ cs, FldOk K mg f c) {mv mo : ME} : ∀ Dn σ H, Ss K mg W (s_fld cs f mv mo) Dn σ H → sFld K (Ee K mg W mo) (Ee K mg W mv) f Dn σ H := by
  rintro Dn σ H ⟨c, O, ad, S, ρ, z, h⟩
  refine (bindK (f := fun dv => s_e mo fun dd => if isLoc dv = true then fun _ _ => .no else putTo dd (setF cs f dv)) z .nil h).imp fun v H1 g => ?_
  obtain ⟨O, ad, S, dv, z, rv, _, h⟩ := g
  refine (bindK (f := fun dd => if isLoc dv = true then fun _ _ => .no else putTo dd (setF cs f dv)) z (.cons rv .nil) h).imp fun o H2 g => ?_
  obtain ⟨O, ad, S, dd, z, ro, r2, h⟩ := g
  cases r2 with
  | cons rv _ =>
    cases el : isLoc dv with
    | true => rw [if_pos el] at h; exact h.elim
    | false =>
      rw [if_neg (by rw [el]; exact Bool.false_ne_true)] at h
      obtain ⟨a, e, e', rfl, m, he, k⟩ := putTo_ok z ro h
      unfold setF at he
      cases e with
      | ins c gs =>
        dsimp only at he
        split at he
        · rename_i hc
          cases he
          obtain ⟨C, dx, fs, hC, hp, rf⟩ := m
          obtain ⟨cl, na⟩ := (T c hc.1).ok C hC
          exact ⟨a, C, dx, fs, rfl, hp, cl, na, by rw [rf.length]; exact hc.2, k _ ⟨C, dx, _, hC, upd_same, rf.put (rv.rep el)⟩⟩
        · cases he
      | _ => cases he
end
section
variable {X : Cx} {W : WX} {o value : Expr} {f : Str} {pos pos' : Pos} {mv mo : ME}
theorem S_fld {cs : List Str} (T : ∀ c ∈ cs, FldOk X.K X.mg f c) (ho : PE X o (Ee X.K X.mg W mo)) (hv : PE X value (Ee X.K X.mg W mv)) (hs : swapsWith value (some (.Attribute o f pos')) pos.line X.env = pure false := by rfl) :
    PS X (.Assign [.Attribute o f pos'] value pos) (Ss X.K X.mg W (s_fld cs f mv mo)) := ps_of (ps_fld ho hv hs) (w_sfld T)
end
/-! ### a method -/
def isCls (c : Str) : D → Bool
  | .ins d gs => decide (d = c)
  | _ => false
def noFld (f : Str) : D → Bool
  | .ins _ gs => (gs.lookup f).isNone
  | _ => false
/-- o.m(..): the object first -/
def e_meth (c : Str) (x : Str) (m : List D → Sg → Out D) (mo : ME) (r : MA) : ME := fun ρ S => (mo ρ S).bind fun o S1 => if isLoc o = false ∧ (match deref ρ S1 o with
    | some d => isCls c d && noFld x d
    | none => false) = true then (r ρ S1).bind fun ds S2 => if noLoc ds = true then m (o :: ds) S2 else .no else .no
def tMethS (C : Addr) (m : Str) (sp : Sp) (E : L2.St → XK) (ta : TE) (t : TA) : TE := fun σ H Q => ta σ H fun x H1 => ∃ a dx fs, x = .ref a ∧ H1 a = some (.ins C dx fs) ∧ fs.lookup m = none ∧ t σ H1 fun vs H2 => sp (.ref a :: vs) H2 Q (E σ)
section
variable {X : Cx} {CX : CXT} {k : Nat} {f C : Addr} {fd : FuncData} {ps : List Str} {sp : Sp} {E : L2.St → XK} {x m : Str} {p pos apos : Pos} {e o : Expr} {es : List Expr} {ta : TE} {t : TA}
theorem pe_methE {pl : Sem Bool} (he : PE X o ta) (c : Cls X.K C) (hm : Meth X.K C m f) (F : FnOk X.prog X.w X.K X.mg X.base CX k f fd ps sp) (hr : Room k X.A) (hb : Binds X.K fd ps []) (hx : ∀ σ, PassesAt CX X σ (E σ)) (ha : PA X (e :: es) t)
    (hst : starEach (e :: es) X.env = (false, eval e X.env) :: starEach es X.env := by rfl) (hpl : (backTo pos (starEach es X.env)).any (·.1) = false := by rfl)
    (ht : eval (.Call (.Attribute o m apos) (e :: es) [] pos) X.env = (do
      let ov ← eval o X.env
      standAt apos.atName
      let (f, first) ← holding [ov] (getMethod ov m pl)
      callWith pos f first (backTo pos (starEach (e :: es) X.env)) (backToKw pos (keywordEach [] X.env))) := by rfl) :
    PE X (.Call (.Attribute o m apos) (e :: es) [] pos) (tMethS C m sp E ta t) := by
  refine ⟨fun pins s σ H Q I h => ?_⟩
  refine PySem.W.methodCall_KW (pl := pl) (thn (he.run pins s σ H _ I h) fun u s1 ⟨x, H1, I1, rx, a, dx, fs, ex, ea, l, q⟩ => ?_) ht
  subst ex
  obtain rfl : u = Value.ref a := rx
  refine getmeth_ok I1 ea c hm l ?_
  refine PySem.W.callWith_K (first := [.ref a]) (h₀ := X.base) I.ok.mod.kin hm.kp (thn (ha.run pos pins s1 σ H1 _ I1 q) fun us s2 ⟨vs, H2, I2, r, q2⟩ => ⟨I2.kIn, ?_⟩) hst hpl
  exact run_fnS (us := .ref a :: us) (vs := .ref a :: vs) F hr hb (hx σ) I2 (.cons rfl r) q2
theorem pe_methE0 {pl : Sem Bool} (he : PE X o ta) (c : Cls X.K C) (hm : Meth X.K C m f) (F : FnOk X.prog X.w X.K X.mg X.base CX k f fd ps sp) (hr : Room k X.A) (hb : Binds X.K fd ps []) (hx : ∀ σ, PassesAt CX X σ (E σ))
    (ht : eval (.Call (.Attribute o m apos) [] [] pos) X.env = (do
      let ov ← eval o X.env
      standAt apos.atName
      let (f, first) ← holding [ov] (getMethod ov m pl)
      callWith pos f first (backTo pos (starEach [] X.env)) (backToKw pos (keywordEach [] X.env))) := by rfl) :
    PE X (.Call (.Attribute o m apos) [] [] pos) (tMethS C m sp E ta tNil) := by
  refine ⟨fun pins s σ H Q I h => ?_⟩
  refine PySem.W.methodCall_KW (pl := pl) (thn (he.run pins s σ H _ I h) fun u s1 ⟨x, H1, I1, rx, a, dx, fs, ex, ea, l, q⟩ => ?_) ht
  subst ex
  obtain rfl : u = Value.ref a := rx
  refine getmeth_ok I1 ea c hm l ?_
  exact PySem.W.callWith_K0 I1.kIn hm.kp (run_fnS (us := [.ref a]) (vs := [.ref a]) F hr hb (hx σ) I1 (.cons rfl .nil) q)
end
/-- a class and its place -/
structure ClsAt (K : Fg) (mg : Mg) (c : Str) (C : Addr) : Prop where
  at_ : mg c = some (.ref C)
  cl : Cls K C
section
variable {K : Fg} {mg : Mg} {W : WX}
theorem w_meth {c x : Str} {C : Addr} (T : ClsAt K mg c C) {n : Nat} {m : List D → Sg → Out D} {mo : ME} {r : MA} (len : ∀ ds S, ds.length ≠ n → m ds S = .no) : ∀ σ H Q, Ee K mg W (e_meth c x m mo r) σ H Q → tMethS C x (SpM K mg n m) (WE W) (Ee K mg W mo) (Ea K mg W r) σ H Q := by
  intro σ H Q q
  refine (bindE (f := fun ρ o S1 => if isLoc o = false ∧ (match deref ρ S1 o with
    | some d => isCls c d && noFld x d
    | none => false) = true then (r ρ S1).bind fun ds S2 => if noLoc ds = true then m (o :: ds) S2 else .no else .no) q).imp fun v H1 g => ?_
  obtain ⟨O, ad, S, ρ, o, s, fr, ro, k⟩ := g
  obtain ⟨⟨lo, hc⟩, k0⟩ := post_if (P := PostE K mg W ρ σ Q O ad H1) (fun z => z) k
  clear k
  cases ed : deref ρ S o with
  | none => rw [ed] at hc; cases hc
  | some d =>
    rw [ed] at hc
    obtain ⟨hc1, hc2⟩ := Bool.and_eq_true_iff.mp hc
    cases d with
    | ins c' gs =>
      have ec : c' = c := of_decide_eq_true hc1
      subst ec
      obtain ⟨a, C', dx, fs, rfl, hC, hp, rf⟩ := (deref_rep fr s ro ed).ins
      rw [T.at_] at hC
      cases hC
      have hl : gs.lookup x = none := by
        cases e : gs.lookup x with
        | none => rfl
        | some z => simp [noFld, e] at hc2
      refine ⟨a, dx, fs, rfl, hp, rf.none hl, O, ad, S, ρ, s, fr, ?_⟩
      have rO : Rep K mg (hide O H1) ad (.ref a) o := ro.rep lo
      cases e : r ρ S with
      | ok ds S1 =>
        rw [e] at k0
        intro vs O2 ad2 H2 t2 s2 r2
        have k2 : PostE K mg W ρ σ Q O2 ad2 H2 (if noLoc ds = true then m (o :: ds) S1 else .no) := PostE.rebase k0 t2 s.hid s2.dom
        obtain ⟨c2, k3⟩ := post_if (P := PostE K mg W ρ σ Q O2 ad2 H2) (fun z => z) k2
        have rs : Reps K mg (hide O2 H2) ad2 (.ref a :: vs) (o :: ds) := .cons (rO.mono (t2.hide s.hid) t2.get) (reps_of r2 c2)
        refine ⟨O2, ad2, S1, o :: ds, s2, rs, ?_, ?_⟩
        · by_cases el : (o :: ds).length = n
          · exact el
          · rw [len _ S1 el] at k3; exact k3.elim
        · cases em : m (o :: ds) S1 with
          | ok d S' => rw [em] at k3; exact fun v O' ad' H' t z r => k3 v O' ad' H' t z (repR_of r)
          | er x fs S' => rw [em] at k3; exact k3
          | no => rw [em] at k3; exact k3
      | er x fs S1 => rw [e] at k0; exact k0
      | no => rw [e] at k0; exact k0
    | _ => cases hc1
end
section
variable {X : Cx} {W : WX} {k : Nat} {f C : Addr} {fd : FuncData} {ps : List Str} {x c : Str} {pos apos : Pos} {e o : Expr} {es : List Expr} {r : MA} {mo : ME}
theorem E_meth {n b : Nat} {mb : MS} {pl : Sem Bool} (T : ClsAt X.K X.mg c C) (hm : Meth X.K C x f) (F : FnOk X.prog X.w X.K X.mg X.base (L2.CX X.prog X.w) k f fd ps (SpM X.K X.mg b (Gd.fn n mb b))) (hr : Room k X.A) (hb : Binds X.K fd ps []) (tk : Takes X W)
    (ho : PE X o (Ee X.K X.mg W mo)) (ha : PA X (e :: es) (Ea X.K X.mg W r)) (hst : starEach (e :: es) X.env = (false, eval e X.env) :: starEach es X.env := by rfl) (hpl : (backTo pos (starEach es X.env)).any (·.1) = false := by rfl)
    (ht : eval (.Call (.Attribute o x apos) (e :: es) [] pos) X.env = (do
      let ov ← eval o X.env
      standAt apos.atName
      let (f, first) ← holding [ov] (getMethod ov x pl)
      callWith pos f first (backTo pos (starEach (e :: es) X.env)) (backToKw pos (keywordEach [] X.env))) := by rfl) :
    PE X (.Call (.Attribute o x apos) (e :: es) [] pos) (Ee X.K X.mg W (e_meth c x (Gd.fn n mb b) mo r)) :=
  pe_of (pe_methE ho T.cl hm F hr hb (fun σ => passAt tk σ) ha hst hpl ht) (w_meth T fn_len)
theorem E_meth0 {n b : Nat} {mb : MS} {pl : Sem Bool} (T : ClsAt X.K X.mg c C) (hm : Meth X.K C x f) (F : FnOk X.prog X.w X.K X.mg X.base (L2.CX X.prog X.w) k f fd ps (SpM X.K X.mg b (Gd.fn n mb b))) (hr : Room k X.A) (hb : Binds X.K fd ps []) (tk : Takes X W)
    (ho : PE X o (Ee X.K X.mg W mo))
    (ht : eval (.Call (.Attribute o x apos) [] [] pos) X.env = (do
      let ov ← eval o X.env
      standAt apos.atName
      let (f, first) ← holding [ov] (getMethod ov x pl)
      callWith pos f first (backTo pos (starEach [] X.env)) (backToKw pos (keywordEach [] X.env))) := by rfl) :
    PE X (.Call (.Attribute o x apos) [] [] pos) (Ee X.K X.mg W (e_meth c x (Gd.fn n mb b) mo a_nil)) :=
  pe_of (pe_methE0 ho T.cl hm F hr hb (fun σ => passAt tk σ) ht) fun σ H Q q => by
    obtain h := w_meth T fn_len σ H Q q
    refine Ee.imp h fun v H1 g => ?_
    obtain ⟨a, dx, fs, e1, e2, e3, O, ad, S, ρ, s, fr, k⟩ := g
    exact ⟨a, dx, fs, e1, e2, e3, k [] O ad H1 (.refl _ _ _) s .nil⟩
end
end Gd

/-! Gd, part 12: instances are made. -/
namespace Gd
open PySem L2 PyProof.Rows

def tMakeS (C : Addr) (n m : Nat) (sp : Sp) (gV : List V → List V → List V) (E : L2.St → XK) (t tk : TA) : TE := fun σ H Q => t σ H fun vs H1 => tk σ H1 fun zs H2 => vs.length = n ∧ zs.length = m ∧
  ∀ x dx, H2 x = none → H2 dx = none → dx ≠ x → sp (gV (.ref x :: vs) zs) (upd (upd H2 dx (.own x)) x (.ins C dx [])) (fun v H3 => v = .non ∧ Q (.ref x) H3) (E σ)
section
variable {X : Cx} {CX : CXT} {k n : Nat} {f C : Addr} {fd : FuncData} {ps ks : List Str} {sp : Sp} {E : L2.St → XK} {x : Str} {p pos : Pos} {e : Expr} {es : List Expr} {kws : List Keyword} {t tk : TA} {g : List Value → List Value → List Value} {gV : List V → List V → List V}
theorem run_makeE {pins : List (Addr × Obj)} {σ : L2.St} {H : Hp} {s : Shared} {Q : VK} {us ws : List Value} {vs zs : List V} (M : Mk X.K C f) (F : FnOk X.prog X.w X.K X.mg X.base CX k f fd ps sp) (hr : Room (k + 1) X.A) (hb : KBn X.K fd ps (n + 1) ks g gV)
    (hx : PassesAt CX X σ (E σ)) (I : L2.Inv X pins σ H s) (r : Vals vs us) (rz : Vals zs ws) (l1 : vs.length = n) (l2 : zs.length = ks.length)
    (h : ∀ x dx, H x = none → H dx = none → dx ≠ x → sp (gV (.ref x :: vs) zs) (upd (upd H dx (.own x)) x (.ins C dx [])) (fun v H2 => v = .non ∧ Q (.ref x) H2) (E σ)) :
    wpAny (model X.prog X.w) X.A (call (.ref C) us (ks.zip ws)) (EP X pins σ Q) X.xe s := by
  have hq := h (s.heap.objs.size + 1) s.heap.objs.size (I.hok.fresh (Nat.le_succ _)) (I.hok.fresh (Nat.le_refl _)) (Nat.ne_of_lt (Nat.lt_succ_self _))
  have I2 := Inv.made (C := C) I
  have r1 : Vals (V.ref (s.heap.objs.size + 1) :: vs) (Value.ref (s.heap.objs.size + 1) :: us) := .cons rfl r
  have r2 := hb.rel r1 rz
  have e1 : (Value.ref (s.heap.objs.size + 1) :: us).length = n + 1 := r1.length.symm.trans (congrArg Nat.succ l1)
  have e2 : ws.length = ks.length := rz.length.symm.trans l2
  refine wpAny_call (make_map (f := f) I.kIn M.makes M.init (beq_iff_eq.mp M.fn) (codeAny_mono (F.run _ X.stack _ _ ⟨Value.ref (s.heap.objs.size + 1) :: us, ks.zip ws⟩ (g (Value.ref (s.heap.objs.size + 1) :: us) ws) _ _ (E σ) (hr.make C us (ks.zip ws))
    (I2.env0.make C us (ks.zip ws)) (hb.to _ (Value.ref (s.heap.objs.size + 1) :: us) ws I2.kIn e1 e2) r2 hq) fun r s' hq' => ?_))
  cases r with
  | error e => exact hx pins _ _ e s' I2 hq'
  | ok fl =>
    cases fl with
    | ret u =>
      obtain ⟨v, H', I3, rv, ev, q3⟩ := I2.after hq'
      subst ev
      exact ⟨rv, ⟨V.ref (s.heap.objs.size + 1), H', I3, rfl, q3⟩⟩
    | next => exact False.elim hq'
    | brk => exact False.elim hq'
    | cont => exact False.elim hq'
theorem pe_mkE (M : Mk X.K C f) (F : FnOk X.prog X.w X.K X.mg X.base CX k f fd ps sp) (hr : Room (k + 1) X.A) (hg : Gl X x) (hm : X.mg x = some (.ref C)) (hb : KBn X.K fd ps (n + 1) ks g gV) (hx : ∀ σ, PassesAt CX X σ (E σ))
    (ha : PA X (e :: es) t) (hkw : PK X kws tk) (hall : (backToKw pos (keywordEach kws X.env)).all (·.1.isSome) = true := by rfl) (hks : (backToKw pos (keywordEach kws X.env)).filterMap (·.1) = ks := by rfl)
    (hdb : (x == ("__debug__" : Str)) = false := by decide) (he : starEach (e :: es) X.env = (false, eval e X.env) :: starEach es X.env := by rfl)
    (hpl : ((backTo pos (starEach (e :: es) X.env)).any (·.1) || (backToKw pos (keywordEach kws X.env)).any (·.1.isNone)) = false := by rfl) :
    PE X (.Call (.Name x p) (e :: es) kws pos) (tMakeS C n ks.length sp gV E t tk) := by
  refine ⟨fun pins s σ H Q I h => ?_⟩
  refine wpAny_Call_Name_kw (ld_glob I hg hm ?_ hdb)
  refine PySem.W.callWith_KW (h₀ := X.base) I.ok.mod.kin M.kp hall (thn (ha.run pos pins s σ H _ I h) fun us s1 ⟨vs, H1, I1, r, q⟩ => ?_) hpl he
  refine thn (hkw.run pos pins s1 σ H1 _ I1 q) fun ws s2 ⟨zs, H2, I2, rz, l1, l2, q2⟩ => ⟨I2.kIn, ?_⟩
  rw [hks]
  exact run_makeE M F hr hb (hx σ) I2 r rz l1 l2 q2
theorem pe_mkE0 (M : Mk X.K C f) (F : FnOk X.prog X.w X.K X.mg X.base CX k f fd ps sp) (hr : Room (k + 1) X.A) (hg : Gl X x) (hm : X.mg x = some (.ref C)) (hb : KBn X.K fd ps 1 ks g gV) (hx : ∀ σ, PassesAt CX X σ (E σ)) (hkw : PK X kws tk)
    (hall : (backToKw pos (keywordEach kws X.env)).all (·.1.isSome) = true := by rfl) (hks : (backToKw pos (keywordEach kws X.env)).filterMap (·.1) = ks := by rfl) (hdb : (x == ("__debug__" : Str)) = false := by decide)
    (hpl : ((backTo pos (starEach [] X.env)).any (·.1) || (backToKw pos (keywordEach kws X.env)).any (·.1.isNone)) = false := by rfl) :
    PE X (.Call (.Name x p) [] kws pos) (tMakeS C 0 ks.length sp gV E tNil tk) := by
  refine ⟨fun pins s σ H Q I h => ?_⟩
  refine wpAny_Call_Name_kw (ld_glob I hg hm ?_ hdb)
  refine PySem.W.callWith_KW0 (h₀ := X.base) I.ok.mod.kin M.kp hall ?_ hpl
  refine thn (hkw.run pos pins s σ H _ I h) fun ws s2 ⟨zs, H2, I2, rz, l1, l2, q2⟩ => ⟨I2.kIn, ?_⟩
  rw [hks]
  exact run_makeE (us := []) (vs := []) M F hr hb (hx σ) I2 .nil rz rfl l2 q2
end
/-- C(..): the instance is a thing of the store -/
def e_mkO (c : Str) (m : List D → Sg → Out D) (g : List D → List D → List D) (r rk : MA) : ME := fun ρ S => (r ρ S).bind fun ds S1 => (rk ρ S1).bind fun es S2 => if noLoc ds = true ∧ noLoc es = true then
  (m (g (.obj S2.length :: ds) es) (S2 ++ [.ins c []])).bind fun z S3 => match z with
    | .non => .ok (.obj S2.length) S3
    | _ => .no else .no
section
variable {K : Fg} {mg : Mg} {W : WX}
theorem made_own {O : Addr → Prop} {ad : List Addr} {S : Sg} {H : Hp} {c : Str} {C x dx : Addr} (s : Sto K mg O ad S H) (hC : mg c = some (.ref C)) (hx : H x = none) (hd : H dx = none) (hn : dx ≠ x) :
    Sto K mg (fun a => O a ∨ a = x) (ad ++ [x]) (S ++ [.ins c []]) (upd (upd H dx (.own x)) x (.ins C dx [])) ∧ (∀ b o, H b = some o → upd (upd H dx (.own x)) x (.ins C dx []) b = some o) ∧
    (∀ b o, hide O H b = some o → hide (fun a => O a ∨ a = x) (upd (upd H dx (.own x)) x (.ins C dx [])) b = some o) ∧ x ∉ ad ∧
    ∀ O' ad' H', Stp (fun a => O a ∨ a = x) (ad ++ [x]) (upd (upd H dx (.own x)) x (.ins C dx [])) O' ad' H' → Stp O ad H O' ad' H' := by
  have nx : x ∉ ad := fun m => by
    obtain ⟨o', e⟩ := s.dom x (s.hid x m)
    rw [hx] at e; cases e
  have kp : ∀ b o, H b = some o → upd (upd H dx (.own x)) x (.ins C dx []) b = some o := fun b o e => by
    rw [upd_ne (ne_of_none e hx), upd_ne (ne_of_none e hd)]; exact e
  have hk : ∀ b o, hide O H b = some o → hide (fun a => O a ∨ a = x) (upd (upd H dx (.own x)) x (.ins C dx [])) b = some o := fun b o e => by
    obtain ⟨n, e⟩ := of_hide e
    exact hide_of (fun q => q.elim n (ne_of_none e hx)) (kp b o e)
  refine ⟨⟨by rw [List.length_append, List.length_append, s.len] <;> rfl, ?_, ?_, ?_, ?_⟩, kp, hk, nx, ?_⟩
  · refine List.nodup_append.mpr ⟨s.nd, by simp, fun a ha b hb q => ?_⟩
    rw [List.mem_singleton.mp hb] at q
    exact nx (q ▸ ha)
  · intro a ha
    rcases List.mem_append.mp ha with q | q
    · exact .inl (s.hid a q)
    · exact .inr (List.mem_singleton.mp q)
  · intro a ha
    rcases ha with ha | ha
    · obtain ⟨o, e⟩ := s.dom a ha
      exact ⟨o, kp a o e⟩
    · rw [ha]; exact ⟨_, upd_same⟩
  · intro n d' hn'
    by_cases hl : n < S.length
    · rw [List.getElem?_append_left hl] at hn'
      obtain ⟨a, q1, q2⟩ := s.ob n d' hn'
      exact ⟨a, pre_get n a q1, q2.mono hk pre_get fun o e => kp a o e⟩
    · have hb : n < (S ++ [D.ins c []]).length := (List.getElem?_eq_some_iff.mp hn').1
      rw [List.length_append] at hb
      have hb' : n < S.length + 1 := hb
      have en : n = S.length := by omega
      subst en
      rw [List.getElem?_append_right (Nat.le_refl _), Nat.sub_self] at hn'
      cases hn'
      refine ⟨x, ?_, C, dx, [], hC, upd_same, .nil⟩
      rw [← s.len, List.getElem?_append_right (Nat.le_refl _), Nat.sub_self]
      rfl
  · intro O' ad' H' t
    refine ⟨fun b o e m => t.fr b o (kp b o e) fun q => ?_, fun a h => t.op a (.inl h), fun a h => ?_, ?_⟩
    · rcases List.mem_append.mp q with q | q
      · exact m q
      · rw [List.mem_singleton.mp q, hx] at e; cases e
    · rcases t.oq a h with (q | q) | q
      · exact .inl q
      · exact .inr (q ▸ hx)
      · cases e : H a with
        | none => exact .inr rfl
        | some o => rw [kp a o e] at q; cases q
    · obtain ⟨more, e, f⟩ := t.ap
      refine ⟨[x] ++ more, by rw [e, List.append_assoc], fun a ha => ?_⟩
      rcases List.mem_append.mp ha with q | q
      · rw [List.mem_singleton.mp q]; exact hx
      · cases e2 : H a with
        | none => rfl
        | some o => have := f a q; rw [kp a o e2] at this; cases this
theorem w_mkO {c : Str} {C : Addr} (hC : mg c = some (.ref C)) {n n1 n2 : Nat} {m : List D → Sg → Out D} {g : List D → List D → List D} {gV : List V → List V → List V} {r rk : MA} (len : ∀ ds S, ds.length ≠ n → m ds S = .no) (l1 : aLen n1 r) (l2 : aLen n2 rk)
    (hg : ∀ G ad vs ds zs es, Reps K mg G ad vs ds → Reps K mg G ad zs es → Reps K mg G ad (gV vs zs) (g ds es)) : ∀ σ H Q, Ee K mg W (e_mkO c m g r rk) σ H Q → tMakeS C n1 n2 (SpM K mg n m) gV (WE W) (Ea K mg W r) (Ea K mg W rk) σ H Q := by
  rintro σ H Q ⟨O, ad, S, ρ, s, fr, k⟩
  refine ⟨O, ad, S, ρ, s, fr, ?_⟩
  unfold e_mkO at k
  have a1 := l1 ρ S
  cases e : r ρ S with
  | no => rw [e] at k; exact k
  | er x fs S1 => rw [e] at k; exact k
  | ok ds S1 =>
    rw [e] at k a1
    intro vs O1 ad1 H1 t1 s1 r1
    have k1 := PostE.rebase k t1 s.hid s1.dom
    clear k
    have fr1 := fr.step s.hid t1
    refine ⟨O1, ad1, S1, ρ, s1, fr1, ?_⟩
    have a2 := l2 ρ S1
    dsimp only [Out.bind] at k1
    cases e2 : rk ρ S1 with
    | no => rw [e2] at k1; exact k1
    | er x fs S2 => rw [e2] at k1; exact k1
    | ok es S2 =>
      rw [e2] at k1 a2
      intro zs O2 ad2 H2 t2 s2 r2
      have k2 := PostE.rebase k1 t2 s1.hid s2.dom
      clear k1
      dsimp only at k2
      obtain ⟨⟨c1, c2⟩, k3⟩ := post_if (P := PostE K mg W ρ σ Q O2 ad2 H2) (fun z => z) k2
      clear k2
      have q1 := reps_of (PairedR.step s1.hid t2 r1) c1
      have q2 := reps_of r2 c2
      refine ⟨by rw [q1.length]; exact a1, by rw [q2.length]; exact a2, fun x dx hx hd hn => ?_⟩
      obtain ⟨s3, kp, hk, nx, back⟩ := made_own s2 hC hx hd hn
      have self : Rep K mg (hide (fun a => O2 a ∨ a = x) (upd (upd H2 dx (.own x)) x (.ins C dx []))) (ad2 ++ [x]) (.ref x) (.obj S2.length) := .obj (by
        rw [← s2.len, List.getElem?_append_right (Nat.le_refl _), Nat.sub_self]
        rfl)
      refine ⟨_, _, _, g (.obj S2.length :: ds) es, s3, hg _ _ _ _ _ _ (.cons self (q1.mono hk pre_get)) (q2.mono hk pre_get), ?_, ?_⟩
      · by_cases el : (g (D.obj S2.length :: ds) es).length = n
        · exact el
        · rw [len _ _ el] at k3; exact k3.elim
      · cases em : m (g (.obj S2.length :: ds) es) (S2 ++ [.ins c []]) with
        | no => rw [em] at k3; exact k3.elim
        | er y fs S' => rw [em] at k3; exact fun cls dd O' ad' H' t z r => k3 cls dd O' ad' H' (back O' ad' H' t) z r
        | ok d S' =>
          rw [em] at k3
          dsimp only [Out.bind] at k3
          cases d with
          | non =>
            intro v O' ad' H' t z r
            cases r
            refine ⟨rfl, k3 (.ref x) O' ad' H' (back O' ad' H' t) z (repR_of (.obj ?_))⟩
            refine t.get _ _ ?_
            rw [← s2.len, List.getElem?_append_right (Nat.le_refl _), Nat.sub_self]
            rfl
          | _ => exact k3.elim
end
section
variable {X : Cx} {W : WX} {k n1 : Nat} {f C : Addr} {fd : FuncData} {ps ks : List Str} {x c : Str} {p pos : Pos} {e : Expr} {es : List Expr} {kws : List Keyword} {r rk : MA} {g : List Value → List Value → List Value} {gV : List V → List V → List V} {gD : List D → List D → List D}
theorem E_mkO {n b : Nat} {mb : MS} (M : Mk X.K C f) (F : FnOk X.prog X.w X.K X.mg X.base (L2.CX X.prog X.w) k f fd ps (SpM X.K X.mg b (Gd.fn n mb b))) (hr : Room (k + 1) X.A) (hg : Gl X x) (hm : X.mg x = some (.ref C)) (hb : KBn X.K fd ps (n1 + 1) ks g gV) (tk : Takes X W)
    (hgD : ∀ G ad vs ds zs es, Reps X.K X.mg G ad vs ds → Reps X.K X.mg G ad zs es → Reps X.K X.mg G ad (gV vs zs) (gD ds es)) (ha : PA X (e :: es) (Ea X.K X.mg W r)) (hkw : PK X kws (Ea X.K X.mg W rk)) (l1 : aLen n1 r) (l2 : aLen ks.length rk)
    (hall : (backToKw pos (keywordEach kws X.env)).all (·.1.isSome) = true := by rfl) (hks : (backToKw pos (keywordEach kws X.env)).filterMap (·.1) = ks := by rfl)
    (hdb : (x == ("__debug__" : Str)) = false := by decide) (he : starEach (e :: es) X.env = (false, eval e X.env) :: starEach es X.env := by rfl)
    (hpl : ((backTo pos (starEach (e :: es) X.env)).any (·.1) || (backToKw pos (keywordEach kws X.env)).any (·.1.isNone)) = false := by rfl) :
    PE X (.Call (.Name x p) (e :: es) kws pos) (Ee X.K X.mg W (e_mkO x (Gd.fn n mb b) gD r rk)) :=
  pe_of (pe_mkE M F hr hg hm hb (fun σ => passAt tk σ) ha hkw hall hks hdb he hpl) (w_mkO hm fn_len l1 l2 hgD)
theorem E_mkO0 {n b : Nat} {mb : MS} (M : Mk X.K C f) (F : FnOk X.prog X.w X.K X.mg X.base (L2.CX X.prog X.w) k f fd ps (SpM X.K X.mg b (Gd.fn n mb b))) (hr : Room (k + 1) X.A) (hg : Gl X x) (hm : X.mg x = some (.ref C)) (hb : KBn X.K fd ps 1 ks g gV) (tk : Takes X W)
    (hgD : ∀ G ad vs ds zs es, Reps X.K X.mg G ad vs ds → Reps X.K X.mg G ad zs es → Reps X.K X.mg G ad (gV vs zs) (gD ds es)) (hkw : PK X kws (Ea X.K X.mg W rk)) (l2 : aLen ks.length rk)
    (hall : (backToKw pos (keywordEach kws X.env)).all (·.1.isSome) = true := by rfl) (hks : (backToKw pos (keywordEach kws X.env)).filterMap (·.1) = ks := by rfl)
    (hdb : (x == ("__debug__" : Str)) = false := by decide)
    (hpl : ((backTo pos (starEach [] X.env)).any (·.1) || (backToKw pos (keywordEach kws X.env)).any (·.1.isNone)) = false := by rfl) :
    PE X (.Call (.Name x p) [] kws pos) (Ee X.K X.mg W (e_mkO x (Gd.fn n mb b) gD a_nil rk)) :=
  pe_of (pe_mkE0 M F hr hg hm hb (fun σ => passAt tk σ) hkw hall hks hdb hpl) fun σ H Q q => by
    obtain ⟨O, ad, S, ρ, s, fr, k⟩ := w_mkO (n1 := 0) hm fn_len aLen_nil l2 hgD σ H Q q
    exact k [] O ad H (.refl _ _ _) s .nil
end
/-! ### a thing of the store that nothing else knows is taken out of it -/
mutual
def okD (n : Nat) : D → Bool
  | .obj k => decide (k < n)
  | .lst l => okL n l
  | .tup l => okL n l
  | .dct l => okK n l
  | .ins _ l => okF n l
  | .loc _ => false
  | .non => true
  | .bl _ => true
  | .int _ => true
  | .str _ => true
  | .ty _ => true
  | .cls _ => true
def okL (n : Nat) : List D → Bool
  | [] => true
  | d :: ds => okD n d && okL n ds
def okK (n : Nat) : List (Key × D) → Bool
  | [] => true
  | (_, d) :: ds => okD n d && okK n ds
def okF (n : Nat) : List (Str × D) → Bool
  | [] => true
  | (_, d) :: ds => okD n d && okF n ds
end
section
variable {K : Fg} {mg : Mg} {G : Hp} {ad ad' : List Addr}
/-- what does not name young things is read without them -/
theorem rep_less {n : Nat} (p : ∀ (i : Nat) a, i < n → ad'[i]? = some a → ad[i]? = some a) :
    ∀ v d, Rep K mg G ad' v d → okD n d = true → Rep K mg G ad v d := fun v d h =>
  Rep.rec (K := K) (mg := mg) (G := G) (ad := ad') (motive_1 := fun v d _ => okD n d = true → Rep K mg G ad v d) (motive_2 := fun v d _ => okL n d = true → Reps K mg G ad v d) (motive_3 := fun v d _ => okK n d = true → RepK K mg G ad v d) (motive_4 := fun v d _ => okF n d = true → RepF K mg G ad v d)
    (fun _ => .non) (fun b _ => .bl b) (fun b _ => .int b) (fun b _ => .str b) (fun h _ r o => .lst h (r (by simpa [okD] using o))) (fun h _ r o => .tup h (r (by simpa [okD] using o))) (fun h _ r o => .dct h (r (by simpa [okD] using o))) (fun h1 h2 _ r o => .ins h1 h2 (r (by simpa [okD] using o))) (fun b _ => .ty b) (fun h _ => .cls h)
    (fun h o => .obj (p _ _ (by simpa [okD] using o) h))
    (fun _ => .nil) (fun _ _ a b o => by simp [okL] at o; exact .cons (a o.1) (b o.2)) (fun _ => .nil) (fun _ _ a b o => by simp [okK] at o; exact .cons (a o.1) (b o.2)) (fun _ => .nil) (fun _ _ a b o => by simp [okF] at o; exact .cons (a o.1) (b o.2)) h
theorem rep_ok : ∀ v d, Rep K mg G ad v d → okD ad.length d = true := fun v d h =>
  Rep.rec (K := K) (mg := mg) (G := G) (ad := ad) (motive_1 := fun v d _ => okD ad.length d = true) (motive_2 := fun v d _ => okL ad.length d = true) (motive_3 := fun v d _ => okK ad.length d = true) (motive_4 := fun v d _ => okF ad.length d = true)
    (by simp [okD]) (fun b => by simp [okD]) (fun b => by simp [okD]) (fun b => by simp [okD]) (fun h _ r => by simpa [okD] using r) (fun h _ r => by simpa [okD] using r) (fun h _ r => by simpa [okD] using r) (fun h1 h2 _ r => by simpa [okD] using r) (fun b => by simp [okD]) (fun h => by simp [okD])
    (fun h => by simp [okD]; exact (List.getElem?_eq_some_iff.mp h).1)
    (by simp [okL]) (fun _ _ a b => by simp [okL, a, b]) (by simp [okK]) (fun _ _ a b => by simp [okK, a, b]) (by simp [okF]) (fun _ _ a b => by simp [okF, a, b]) h
theorem repsLess {n : Nat} (p : ∀ (i : Nat) a, i < n → ad'[i]? = some a → ad[i]? = some a) {vs : List V} {ds : List D} (h : Reps K mg G ad' vs ds) (o : okL n ds = true) : Reps K mg G ad vs ds := by
  induction vs generalizing ds with
  | nil => cases h; exact .nil
  | cons x xs ih => cases h with | cons a b => simp [okL] at o; exact .cons (rep_less p _ _ a o.1) (ih b o.2)
theorem repKLess {n : Nat} (p : ∀ (i : Nat) a, i < n → ad'[i]? = some a → ad[i]? = some a) {vs : List (Key × V)} {ds : List (Key × D)} (h : RepK K mg G ad' vs ds) (o : okK n ds = true) : RepK K mg G ad vs ds := by
  induction vs generalizing ds with
  | nil => cases h; exact .nil
  | cons x xs ih => cases h with | cons a b => simp [okK] at o; exact .cons (rep_less p _ _ a o.1) (ih b o.2)
theorem repFLess {n : Nat} (p : ∀ (i : Nat) a, i < n → ad'[i]? = some a → ad[i]? = some a) {vs : List (Str × V)} {ds : List (Str × D)} (h : RepF K mg G ad' vs ds) (o : okF n ds = true) : RepF K mg G ad vs ds := by
  induction vs generalizing ds with
  | nil => cases h; exact .nil
  | cons x xs ih => cases h with | cons a b => simp [okF] at o; exact .cons (rep_less p _ _ a o.1) (ih b o.2)
theorem repsOk {vs : List V} {ds : List D} (h : Reps K mg G ad vs ds) : okL ad.length ds = true := by
  induction vs generalizing ds with
  | nil => cases h; simp [okL]
  | cons x xs ih => cases h with | cons a b => simp [okL, rep_ok _ _ a, ih b]
theorem repKOk {vs : List (Key × V)} {ds : List (Key × D)} (h : RepK K mg G ad vs ds) : okK ad.length ds = true := by
  induction vs generalizing ds with
  | nil => cases h; simp [okK]
  | cons x xs ih => cases h with | cons a b => simp [okK, rep_ok _ _ a, ih b]
theorem repFOk {vs : List (Str × V)} {ds : List (Str × D)} (h : RepF K mg G ad vs ds) : okF ad.length ds = true := by
  induction vs generalizing ds with
  | nil => cases h; simp [okF]
  | cons x xs ih => cases h with | cons a b => simp [okF, rep_ok _ _ a, ih b]
theorem MRep.less {H : Hp} {a : Addr} {d : D} {n : Nat} (p : ∀ (i : Nat) a, i < n → ad'[i]? = some a → ad[i]? = some a) (h : MRep K mg G ad' H a d) (o : okD n d = true) : MRep K mg G ad H a d := by
  cases d with
  | lst ds => obtain ⟨vs, h1, h2⟩ := h; exact ⟨vs, h1, repsLess p h2 (by simpa [okD] using o)⟩
  | dct ds => obtain ⟨vs, h1, h2⟩ := h; exact ⟨vs, h1, repKLess p h2 (by simpa [okD] using o)⟩
  | ins c gs => obtain ⟨C, dx, fs, h0, h1, h2⟩ := h; exact ⟨C, dx, fs, h0, h1, repFLess p h2 (by simpa [okD] using o)⟩
  | _ => exact h.elim
theorem MRep.ok {H : Hp} {a : Addr} {d : D} (h : MRep K mg G ad H a d) : okD ad.length d = true := by
  cases d with
  | lst ds => obtain ⟨vs, h1, h2⟩ := h; simpa [okD] using repsOk h2
  | dct ds => obtain ⟨vs, h1, h2⟩ := h; simpa [okD] using repKOk h2
  | ins c gs => obtain ⟨C, dx, fs, h0, h1, h2⟩ := h; simpa [okD] using repFOk h2
  | _ => exact h.elim
end
open Classical in
/-- the store is as ahead, but for the last thing, which nothing knows -/
noncomputable def popD (S2 S3 : Sg) (d : D) : Out D := if S3 = S2 ++ [d] ∧ okD S2.length d = true then .ok d S2 else .no
/-- C(..): the instance, new -/
noncomputable def e_mkF (c : Str) (m : List D → Sg → Out D) (g : List D → List D → List D) (r rk : MA) : ME := fun ρ S => (r ρ S).bind fun ds S1 => (rk ρ S1).bind fun es S2 => if noLoc ds = true ∧ noLoc es = true then
  (m (g (.obj S2.length :: ds) es) (S2 ++ [.ins c []])).bind fun z S3 => match z, S3[S2.length]? with
    | .non, some d => popD S2 S3 d
    | _, _ => .no else .no
section
variable {K : Fg} {mg : Mg} {W : WX}
theorem w_mkF {c : Str} {C : Addr} (hC : mg c = some (.ref C)) {n n1 n2 : Nat} {m : List D → Sg → Out D} {g : List D → List D → List D} {gV : List V → List V → List V} {r rk : MA} (len : ∀ ds S, ds.length ≠ n → m ds S = .no) (l1 : aLen n1 r) (l2 : aLen n2 rk)
    (hg : ∀ G ad vs ds zs es, Reps K mg G ad vs ds → Reps K mg G ad zs es → Reps K mg G ad (gV vs zs) (g ds es)) : ∀ σ H Q, Ef K mg W (e_mkF c m g r rk) σ H Q → tMakeS C n1 n2 (SpM K mg n m) gV (WE W) (Ea K mg W r) (Ea K mg W rk) σ H Q := by
  rintro σ H Q ⟨O, ad, S, ρ, s, fr, k⟩
  refine ⟨O, ad, S, ρ, s, fr, ?_⟩
  unfold e_mkF at k
  have a1 := l1 ρ S
  cases e : r ρ S with
  | no => rw [e] at k; exact k
  | er x fs S1 => rw [e] at k; exact k
  | ok ds S1 =>
    rw [e] at k a1
    intro vs O1 ad1 H1 t1 s1 r1
    have k1 := PostF.rebase k t1 s.hid s1.dom
    clear k
    have fr1 := fr.step s.hid t1
    refine ⟨O1, ad1, S1, ρ, s1, fr1, ?_⟩
    have a2 := l2 ρ S1
    dsimp only [Out.bind] at k1
    cases e2 : rk ρ S1 with
    | no => rw [e2] at k1; exact k1
    | er x fs S2 => rw [e2] at k1; exact k1
    | ok es S2 =>
      rw [e2] at k1 a2
      intro zs O2 ad2 H2 t2 s2 r2
      have k2 := PostF.rebase k1 t2 s1.hid s2.dom
      clear k1
      dsimp only at k2
      obtain ⟨⟨c1, c2⟩, k3⟩ := post_if (P := PostF K mg W ρ σ Q O2 ad2 H2) (fun z => z) k2
      clear k2
      have q1 := reps_of (PairedR.step s1.hid t2 r1) c1
      have q2 := reps_of r2 c2
      refine ⟨by rw [q1.length]; exact a1, by rw [q2.length]; exact a2, fun x dx hx hd hn => ?_⟩
      obtain ⟨s3, kp, hk, nx, back⟩ := made_own s2 hC hx hd hn
      have hix : (ad2 ++ [x])[S2.length]? = some x := by
        rw [← s2.len, List.getElem?_append_right (Nat.le_refl _), Nat.sub_self]
        rfl
      refine ⟨_, _, _, g (.obj S2.length :: ds) es, s3, hg _ _ _ _ _ _ (.cons (.obj hix) (q1.mono hk pre_get)) (q2.mono hk pre_get), ?_, ?_⟩
      · by_cases el : (g (D.obj S2.length :: ds) es).length = n
        · exact el
        · rw [len _ _ el] at k3; exact k3.elim
      · cases em : m (g (.obj S2.length :: ds) es) (S2 ++ [.ins c []]) with
        | no => rw [em] at k3; exact k3.elim
        | er y fs S' => rw [em] at k3; exact fun cls dd O' ad' H' t z r => k3 cls dd O' ad' H' (back O' ad' H' t) z r
        | ok d S' =>
          rw [em] at k3
          dsimp only [Out.bind] at k3
          cases d with
          | non =>
            intro v O' ad' H' t z r
            cases r
            refine ⟨rfl, ?_⟩
            cases eg : S'[S2.length]? with
            | none => rw [eg] at k3; exact k3.elim
            | some dd =>
              rw [eg] at k3
              dsimp only at k3
              unfold popD at k3
              have k4 : (S' = S2 ++ [dd] ∧ okD S2.length dd = true) ∧ PostF K mg W ρ σ Q O2 ad2 H2 (.ok dd S2) := by
                split at k3
                · exact ⟨by assumption, k3⟩
                · exact k3.elim
              obtain ⟨⟨es3, ok3⟩, k4⟩ := k4
              clear k3
              -- the store without the last
              have hl' : ad'.length = ad2.length + 1 := by rw [z.len, es3, List.length_append, s2.len] <;> rfl
              obtain ⟨more, ea, fa⟩ := t.ap
              have em0 : more = [] := by
                have := congrArg List.length ea
                rw [hl', List.length_append, List.length_append] at this
                have h1 : ([x] : List Addr).length = 1 := rfl
                rw [h1] at this
                exact List.eq_nil_of_length_eq_zero (by omega)
              rw [em0, List.append_nil] at ea
              have t' := back O' ad' H' t
              have less : ∀ (i : Nat) a, i < ad2.length → ad'[i]? = some a → ad2[i]? = some a := fun i a hi h => by
                rw [ea, List.getElem?_append_left hi] at h; exact h
              have nd2 : x ∉ ad2 := nx
              have zz : Sto K mg O' ad2 S2 H' := ⟨s2.len, s2.nd, fun a h => t'.op a (s2.hid a h), z.dom, fun i d' hi => by
                have hil : i < S2.length := (List.getElem?_eq_some_iff.mp hi).1
                have hi' : S'[i]? = some d' := by rw [es3, List.getElem?_append_left hil]; exact hi
                obtain ⟨a, h1, h2⟩ := z.ob i d' hi'
                obtain ⟨a0, g1, g2⟩ := s2.ob i d' hi
                have := less i a (by rw [s2.len]; exact hil) h1
                exact ⟨a, this, h2.less less g2.ok⟩⟩
              have hm : MRep K mg (hide O' H') ad2 H' x dd := by
                obtain ⟨a, h1, h2⟩ := z.ob S2.length dd eg
                have : ad'[S2.length]? = some x := by rw [ea]; exact hix
                rw [this] at h1
                cases h1
                exact h2.less less (by rw [s2.len]; exact ok3)
              refine k4 x O' ad2 H' ⟨t'.fr, t'.op, t'.oq, [], by simp, fun _ h => nomatch h⟩ zz ?_ nd2 hx hm
              refine z.hid x ?_
              rw [ea]; simp
          | _ => exact k3.elim
end
section
variable {X : Cx} {W : WX} {k n1 : Nat} {f C : Addr} {fd : FuncData} {ps ks : List Str} {x c : Str} {p pos : Pos} {e : Expr} {es : List Expr} {kws : List Keyword} {r rk : MA} {g : List Value → List Value → List Value} {gV : List V → List V → List V} {gD : List D → List D → List D}
theorem F_mk {n b : Nat} {mb : MS} (M : Mk X.K C f) (F : FnOk X.prog X.w X.K X.mg X.base (L2.CX X.prog X.w) k f fd ps (SpM X.K X.mg b (Gd.fn n mb b))) (hr : Room (k + 1) X.A) (hg : Gl X x) (hm : X.mg x = some (.ref C)) (hb : KBn X.K fd ps (n1 + 1) ks g gV) (tk : Takes X W)
    (hgD : ∀ G ad vs ds zs es, Reps X.K X.mg G ad vs ds → Reps X.K X.mg G ad zs es → Reps X.K X.mg G ad (gV vs zs) (gD ds es)) (ha : PA X (e :: es) (Ea X.K X.mg W r)) (hkw : PK X kws (Ea X.K X.mg W rk)) (l1 : aLen n1 r) (l2 : aLen ks.length rk)
    (hall : (backToKw pos (keywordEach kws X.env)).all (·.1.isSome) = true := by rfl) (hks : (backToKw pos (keywordEach kws X.env)).filterMap (·.1) = ks := by rfl)
    (hdb : (x == ("__debug__" : Str)) = false := by decide) (he : starEach (e :: es) X.env = (false, eval e X.env) :: starEach es X.env := by rfl)
    (hpl : ((backTo pos (starEach (e :: es) X.env)).any (·.1) || (backToKw pos (keywordEach kws X.env)).any (·.1.isNone)) = false := by rfl) :
    PE X (.Call (.Name x p) (e :: es) kws pos) (Ef X.K X.mg W (e_mkF x (Gd.fn n mb b) gD r rk)) :=
  pe_of (pe_mkE M F hr hg hm hb (fun σ => passAt tk σ) ha hkw hall hks hdb he hpl) (w_mkF hm fn_len l1 l2 hgD)
theorem F_mk0 {n b : Nat} {mb : MS} (M : Mk X.K C f) (F : FnOk X.prog X.w X.K X.mg X.base (L2.CX X.prog X.w) k f fd ps (SpM X.K X.mg b (Gd.fn n mb b))) (hr : Room (k + 1) X.A) (hg : Gl X x) (hm : X.mg x = some (.ref C)) (hb : KBn X.K fd ps 1 ks g gV) (tk : Takes X W)
    (hgD : ∀ G ad vs ds zs es, Reps X.K X.mg G ad vs ds → Reps X.K X.mg G ad zs es → Reps X.K X.mg G ad (gV vs zs) (gD ds es)) (hkw : PK X kws (Ea X.K X.mg W rk)) (l2 : aLen ks.length rk)
    (hall : (backToKw pos (keywordEach kws X.env)).all (·.1.isSome) = true := by rfl) (hks : (backToKw pos (keywordEach kws X.env)).filterMap (·.1) = ks := by rfl)
    (hdb : (x == ("__debug__" : Str)) = false := by decide)
    (hpl : ((backTo pos (starEach [] X.env)).any (·.1) || (backToKw pos (keywordEach kws X.env)).any (·.1.isNone)) = false := by rfl) :
    PE X (.Call (.Name x p) [] kws pos) (Ef X.K X.mg W (e_mkF x (Gd.fn n mb b) gD a_nil rk)) :=
  pe_of (pe_mkE0 M F hr hg hm hb (fun σ => passAt tk σ) hkw hall hks hdb hpl) fun σ H Q q => by
    obtain ⟨O, ad, S, ρ, s, fr, k⟩ := w_mkF (n1 := 0) hm fn_len aLen_nil l2 hgD σ H Q q
    exact k [] O ad H (.refl _ _ _) s .nil
end
end Gd

/-! Gd, part 13: set(xs) of ints and texts, and how many it holds. -/
namespace Gd
open PySem L2 PyProof.Rows

def inK (acc : List Key) (k : Key) : Bool := acc.any fun x => decide (x = k)
/-- each key once, in the order of coming -/
def dd : List Key → List Key → List Key
  | acc, [] => acc
  | acc, k :: ks => dd (if inK acc k = true then acc else acc ++ [k]) ks
theorem dd_len (ks : List Key) : ∀ acc : List Key, (dd acc ks).length ≤ acc.length + ks.length := by
  induction ks with
  | nil => intro acc; exact Nat.le_refl _
  | cons k ks ih =>
    intro acc
    have h := ih (if inK acc k = true then acc else acc ++ [k])
    show (dd _ ks).length ≤ _
    rw [List.length_cons]
    split at h
    · rename_i q; rw [if_pos q]; omega
    · rename_i q
      rw [if_neg q]
      rw [List.length_append] at h
      have : ([k] : List Key).length = 1 := rfl
      omega
section
variable {prog : Program} {w : World} {A : Around} {R : Result → Shared → Prop} {I T : Addr} {fp wr : List Addr} {G : Array GenState → Array GenState → Prop} {n : Nat} {P : Nat → Value → Prop} {St : Nat → Shared → Prop}
theorem setOf_same {S S' : Key → Bool} {n n' : Nat} {h : Heap} {a : Addr} (z : h.SetOf (mixKind prog w) a S n) (e : ∀ k, S k = S' k) (en : n = n') : h.SetOf (mixKind prog w) a S' n' := by
  obtain rfl : S = S' := funext e
  exact en ▸ z
/-- the loop of set(xs): left are ks -/
theorem keys_loop (W : WalksS prog w A.in1 I fp wr G n P St) (out : T ∉ fp) : ∀ (ks : List Key) (acc : List Key) (i : Nat) (s : Shared), i + ks.length = n → acc.length + ks.length + 1 < scanBound →
    (∀ j v, P (i + j) v → j < ks.length → ∃ k, ks[j]? = some k ∧ (mixKind prog w).is k v = true ∧ v.scannable = true) → St i s → s.heap.SetOf (mixKind prog w) T (inK acc) acc.length →
    (∀ s', Moved (T :: wr) G s s' → s'.heap.SetOf (mixKind prog w) T (inK (dd acc ks)) (dd acc ks).length → R (.ok (.ret .none)) s') →
    codeAny (model prog w) A (.builtin "set.update.loop" ⟨[.ref T, .ref I], []⟩) R s := by
  have nw : T ∉ wr := fun q => out (W.sub _ q)
  have up : ∀ b ∈ wr, b ∈ T :: wr := fun _ q => List.mem_cons_of_mem _ q
  have still : ∀ {s s' : Shared} {S : Key → Bool} {m : Nat}, Moved wr G s s' → s.heap.SetOf (mixKind prog w) T S m → s'.heap.SetOf (mixKind prog w) T S m := by
    rintro s s' S m mv ⟨o, es, ep, tb, at_, more⟩
    exact ⟨o, es, ep, tb, mv.heap T _ nw at_, more⟩
  intro ks
  induction ks with
  | nil =>
    intro acc i s len _ _ st z fin
    obtain rfl : i = n := len
    refine codeAny_builtin PyProof.Rows.F.entry_set_update_loop ?_
    rw [Around.under_plainId PyProof.Rows.F.plain_set_update_loop _]
    show wpAny _ A.in1 (pyNext (.ref I) >>= _) _ _ s
    refine wpAny_bind (W.done s _ _ st fun s1 mv => ?_)
    exact wpAny_pure (fin s1 (mv.mono up) (still mv z))
  | cons k ks ih =>
    intro acc i s len room val st z fin
    rw [List.length_cons] at len room
    refine codeAny_builtin PyProof.Rows.F.entry_set_update_loop ?_
    rw [Around.under_plainId PyProof.Rows.F.plain_set_update_loop _]
    show wpAny _ A.in1 (pyNext (.ref I) >>= _) _ _ s
    refine wpAny_bind (W.item i s _ _ (by omega) st fun v s1 pv st1 mv => ?_)
    obtain ⟨k', ek, isk, scan⟩ := val 0 v pv (Nat.succ_pos _)
    cases ek
    show wpAny _ A.in1 (holding [v] (setAdd T v) >>= _) _ _ s1
    refine wpAny_bind (wpAny_holding ?_)
    unfold setAdd
    refine wpAny_holding (wpAny_bind ((mixKind prog w).pyHash (k := k) isk ?_))
    refine wpAny_setAddHashed_of (knd := mixKind prog w) (s := { s1 with toks := s1.toks + 1 }) isk scan (show s1.heap.SetOf (mixKind prog w) T (inK acc) acc.length from still mv z) (by omega) fun h2 but z2 => ?_
    have z3 : h2.SetOf (mixKind prog w) T (inK (if inK acc k = true then acc else acc ++ [k])) (if inK acc k = true then acc else acc ++ [k]).length := by
      by_cases hk : inK acc k = true
      · rw [if_pos hk]
        refine setOf_same z2 (fun x => ?_) (by rw [if_pos hk])
        show (inK acc x || decide (x = k)) = inK acc x
        by_cases e : x = k
        · rw [e, hk] <;> rfl
        · rw [decide_eq_false e, Bool.or_false]
      · rw [if_neg hk]
        refine setOf_same z2 (fun x => ?_) (by rw [if_neg hk, List.length_append] <;> rfl)
        show (inK acc x || decide (x = k)) = inK (acc ++ [k]) x
        unfold inK
        rw [List.any_append, List.any_cons, List.any_nil, Bool.or_false]
        congr 1
        exact decide_eq_decide.mpr ⟨Eq.symm, Eq.symm⟩
    refine wpAny_pure ⟨plainId_quiet PyProof.Rows.F.plain_set_update_loop _, ih _ (i + 1) _ (by omega) ?_ (fun j v pj lj => ?_) (W.frame _ s1 _ _ st1 (Nat.le_succ _) fun b hb o e => ?_) z3 fun s3 mv3 z4 => ?_⟩
    · split
      · omega
      · rw [List.length_append]; simp; omega
    · obtain ⟨k2, e2, more⟩ := val (j + 1) v (by rw [show i + (j + 1) = i + 1 + j by omega]; exact pj) (Nat.succ_lt_succ lj)
      exact ⟨k2, by simpa using e2, more⟩
    · rw [but.2 b fun q : b = T => out (q ▸ hb)]; exact e
    · refine fin s3 (Moved.trans W.gtrans ((mv.mono up).then_heap (Nat.le_succ _) fun b o nb e => ?_) mv3) z4
      rw [but.2 b fun q : b = T => nb (q ▸ List.mem_cons_self)]; exact e
end
section
variable {prog : Program} {w : World} {A : Around} {E : Value → Shared → Prop} {s : Shared}
/-- what set(xs) hands on -/
def SetMade (prog : Program) (w : World) (s : Shared) (ks : List Key) (Q : Value → Shared → Prop) : Prop :=
  ∀ (h : Heap) (tk : Nat), h.SetOf (mixKind prog w) s.heap.objs.size (inK (dd [] ks)) (dd [] ks).length → (∀ b o, b < s.heap.objs.size → s.heap.get? b = some o → h.get? b = some o) → Q (.ref s.heap.objs.size) { s with heap := h, toks := tk }
theorem KeysAre.at {ks : List Key} {us : List Value} (r : Vals (ks.map kV) us) (j : Nat) (v : Value) (h : us[j]? = some v) : ∃ k, ks[j]? = some k ∧ (mixKind prog w).is k v = true ∧ v.scannable = true := by
  induction ks generalizing us j with
  | nil => cases r; simp at h
  | cons k ks ih =>
    cases r with
    | cons a b =>
      cases j with
      | zero =>
        simp at h
        subst h
        refine ⟨k, rfl, ?_, ?_⟩
        · cases k with
          | inl i => obtain ⟨t, e⟩ := (show ∃ t, _ = Value.int i t from a); subst e; exact mixKind_int prog w i t
          | inr x => obtain ⟨t, e⟩ := (show ∃ t, _ = Value.str x t from a); subst e; exact mixKind_str prog w x t
        · exact key_scan a
      | succ j => exact ih b j (by simpa using h)
theorem vals_size {ks : List Key} {items : Array Value} (r : Vals (ks.map kV) items.toList) : items.size = ks.length := by
  have := r.length
  rw [List.length_map, Array.length_toList] at this
  exact this.symm
/-- a new set -/
abbrev newSet (led : Bool) : Obj := { cls := .type "set", dict := none, data := .set #[] 0 (.fresh 0 0 led) }
def Fills (prog : Program) (w : World) (s : Shared) (ks : List Key) (r : Value) (s2 : Shared) : Prop :=
  r = .none ∧ ∃ h tk, s2 = { s with heap := h, toks := tk } ∧ h.SetOf (mixKind prog w) s.heap.objs.size (inK (dd [] ks)) (dd [] ks).length ∧ ∀ b o, b < s.heap.objs.size → s.heap.get? b = some o → h.get? b = some o
/-- set(x), by what its __init__ does -/
theorem set_by {x : Value} {ks : List Key} {Q : Value → Shared → Prop} (q : SetMade prog w s ks Q)
    (body : ∀ led : Bool, wpAny (model prog w) A.in1.in1 (Builtin.«set.__init__» ⟨[.ref s.heap.objs.size, x], []⟩)
      (fun fin s' => match fin with | .done f => wants (Fills prog w s ks) E (.ok f) s' | .again c' => c'.quiet = true ∧ codeAny (model prog w) A.in1 c' (wants (Fills prog w s ks) E) s')
      (fun e s' => wants (Fills prog w s ks) E (.error e) s') { s with heap := s.heap.push (newSet led) }) :
    wpAny (model prog w) A (call (.type "set") [x]) Q E s := by
  obtain ⟨c, tl, m1⟩ := F.called_set.mro
  have m2 := F.called_set.made
  have m3 := F.called_set.sub
  have m4 := F.called_set.notType
  have m5 := F.called_set.canCreate
  have m6 := F.typeCall_set_1 x
  refine wpAny_call (codeAny_of_tree ?_)
  show wpAny _ _ (callAny (.type "set") _) _ _ _
  refine wpAny_pure ⟨Code.quiet_builtin _ (by decide +kernel), ?_⟩
  refine codeAny_builtin F.entry_type_call ?_
  rw [Around.under_plain (weight_type_call_type "set" [x] []) rfl]
  repeat any_goals first | wp_step | assumption
  refine codeAny_mono (code_set_new_1 x (E := E) (Q₁ := fun obj s1 => ∃ led : Bool, obj = .ref s.heap.objs.size ∧ s1 = { s with heap := s.heap.push (newSet led) }) fun led => ⟨led, rfl, rfl⟩) fun r s1 hr => ?_
  cases r with
  | error e => exact hr
  | ok fl =>
    cases fl with
    | ret obj =>
      obtain ⟨led, rfl, rfl⟩ := hr
      have at_ : (s.heap.push (newSet led)).get? s.heap.objs.size = some (newSet led) := Heap.get?_push_size _ rfl
      have ty : Shared.TypeIs { s with heap := s.heap.push (newSet led) } (.ref s.heap.objs.size) "set" := ⟨_, at_, rfl⟩
      have i1 := F.called_set.init.lookup
      have i2 := F.called_set.init.bind (.ref s.heap.objs.size)
      repeat any_goals first | wp_step | assumption
      refine codeAny_mono (codeAny_call_builtin (R := wants (Fills prog w s ks) E) F.called_set.init.plain F.entry_set_init (check_set_init_1 ty (body led))) fun r2 s2 hr2 => ?_
      cases r2 with
      | error e => exact hr2
      | ok f2 =>
        cases f2 with
        | ret r =>
          obtain ⟨rfl, h, tk, rfl, z, kp⟩ := hr2
          repeat any_goals first | wp_step | assumption
          exact q h tk z kp
        | _ => exact hr2.elim
    | _ => exact hr.elim
theorem set_of_list {l : Addr} {items : Array Value} {ks : List Key} {Q : Value → Shared → Prop} (hh : A.handled = none) (hl : s.heap.IsList l items) (r : Vals (ks.map kV) items.toList) (room : ks.length + 1 < scanBound) (q : SetMade prog w s ks Q) :
    wpAny (model prog w) A (call (.type "set") [.ref l]) Q E s := by
  refine set_by q fun led => ?_
  have at_ : (s.heap.push (newSet led)).get? s.heap.objs.size = some (newSet led) := Heap.get?_push_size _ rfl
  obtain ⟨o, ho, oc, no, od⟩ := hl
  obtain ⟨c1, d1, p1, s1⟩ := o
  simp only at oc od
  subst oc
  subst od
  have ho2 := Heap.get?_push_of_some (newSet led) ho
  have sub1 := F.sub_list_set
  have sub2 := F.sub_list_frozenset
  have nd : (Value.type "list" == Value.type "dict") = false := by decide
  have it : (s.heap.push (newSet led)).IsList l items := ⟨_, ho2, rfl, no, rfl⟩
  have hsz := vals_size r
  unfold Builtin.«set.__init__» noKeywords
  unfold Builtin.Frozenset.updateFrom
  generalize eI : pyIter = PI
  wp_walk
  subst eI
  refine wpAny_pyIter_list it ?_
  refine wpAny_bind (wpAny_runValue ?_)
  have small : l < s.heap.objs.size := Heap.lt_size ho
  have nI : l ≠ (s.heap.push (newSet led)).objs.size := by
    rw [Heap.size_push]; exact Nat.ne_of_lt (Nat.lt_succ_of_lt small)
  have out : s.heap.objs.size ∉ [(s.heap.push (newSet led)).objs.size, l] := by
    rw [Heap.size_push]
    intro hm
    rcases List.mem_cons.mp hm with e | hm
    · exact Nat.ne_of_lt (Nat.lt_succ_self _) e
    · exact Nat.ne_of_lt small (List.mem_singleton.mp hm).symm
  have h3 : A.in1.in1.in1.handled = none := by simp [hh]
  refine keys_loop ((Walks.list h3 _ l nI items).toS) out ks [] 0 _ (by rw [hsz]; omega) (by simpa using room) (fun j v pj lj => ?_) ⟨⟨_, Heap.get?_push_size _ rfl, rfl, rfl⟩, it.push _⟩ ?_ fun s' mv z => ?_
  · refine KeysAre.at r j v ?_
    have pj : items[0 + j]? = some v := pj
    rw [Nat.zero_add] at pj
    rw [Array.getElem?_toList]; exact pj
  · exact ⟨_, #[], 0, _, Heap.get?_push_of_some _ at_, ⟨rfl, rfl, rfl⟩, rfl, (fun e he => by simp at he), (fun k => by simp [inK, dd]), (by decide), (by cases led <;> rfl), rfl⟩
  · obtain ⟨h', g', d', t', o'⟩ := s'
    obtain rfl : g' = s.gens := mv.gens
    obtain rfl : d' = s.drawn := mv.drawn
    obtain rfl : o' = s.os := mv.os
    show wpAny _ _ _ _ _ _
    refine wpAny_pure ?_
    show wpAny _ _ (ret Value.none) _ _ _
    refine wpAny_pure ⟨rfl, h', t', rfl, z, fun b o hb e => mv.heap b o (fun hm => ?_) (Heap.get?_push_of_some _ (Heap.get?_push_of_some _ e))⟩
    rcases List.mem_cons.mp hm with e | hm
    · exact Nat.ne_of_lt hb e
    · have e2 := List.mem_singleton.mp hm
      rw [Heap.size_push] at e2
      exact Nat.ne_of_lt (Nat.lt_succ_of_lt hb) e2
theorem set_of_tuple {l : Addr} {items : Array Value} {ks : List Key} {Q : Value → Shared → Prop} (hh : A.handled = none) (hl : s.heap.IsTuple l items) (r : Vals (ks.map kV) items.toList) (room : ks.length + 1 < scanBound) (q : SetMade prog w s ks Q) :
    wpAny (model prog w) A (call (.type "set") [.ref l]) Q E s := by
  refine set_by q fun led => ?_
  have at_ : (s.heap.push (newSet led)).get? s.heap.objs.size = some (newSet led) := Heap.get?_push_size _ rfl
  obtain ⟨o, ho, oc, no, od⟩ := hl
  obtain ⟨c1, d1, p1, s1⟩ := o
  simp only at oc od
  subst oc
  subst od
  have ho2 := Heap.get?_push_of_some (newSet led) ho
  have sub1 := F.sub_tuple_set
  have sub2 := F.sub_tuple_frozenset
  have nd : (Value.type "tuple" == Value.type "dict") = false := by decide
  have it : (s.heap.push (newSet led)).IsTuple l items := ⟨_, ho2, rfl, no, rfl⟩
  have hsz := vals_size r
  unfold Builtin.«set.__init__» noKeywords
  unfold Builtin.Frozenset.updateFrom
  generalize eI : pyIter = PI
  wp_walk
  subst eI
  refine wpAny_pyIter_tuple it ?_
  refine wpAny_bind (wpAny_runValue ?_)
  have small : l < s.heap.objs.size := Heap.lt_size ho
  have nI : l ≠ (s.heap.push (newSet led)).objs.size := by
    rw [Heap.size_push]; exact Nat.ne_of_lt (Nat.lt_succ_of_lt small)
  have out : s.heap.objs.size ∉ [(s.heap.push (newSet led)).objs.size, l] := by
    rw [Heap.size_push]
    intro hm
    rcases List.mem_cons.mp hm with e | hm
    · exact Nat.ne_of_lt (Nat.lt_succ_self _) e
    · exact Nat.ne_of_lt small (List.mem_singleton.mp hm).symm
  have h3 : A.in1.in1.in1.handled = none := by simp [hh]
  refine keys_loop ((Walks.tuple h3 _ l nI items).toS) out ks [] 0 _ (by rw [hsz]; omega) (by simpa using room) (fun j v pj lj => ?_) ⟨⟨_, Heap.get?_push_size _ rfl, rfl, rfl⟩, it.push _⟩ ?_ fun s' mv z => ?_
  · refine KeysAre.at r j v ?_
    have pj : items[0 + j]? = some v := pj
    rw [Nat.zero_add] at pj
    rw [Array.getElem?_toList]; exact pj
  · exact ⟨_, #[], 0, _, Heap.get?_push_of_some _ at_, ⟨rfl, rfl, rfl⟩, rfl, (fun e he => by simp at he), (fun k => by simp [inK, dd]), (by decide), (by cases led <;> rfl), rfl⟩
  · obtain ⟨h', g', d', t', o'⟩ := s'
    obtain rfl : g' = s.gens := mv.gens
    obtain rfl : d' = s.drawn := mv.drawn
    obtain rfl : o' = s.os := mv.os
    show wpAny _ _ _ _ _ _
    refine wpAny_pure ?_
    show wpAny _ _ (ret Value.none) _ _ _
    refine wpAny_pure ⟨rfl, h', t', rfl, z, fun b o hb e => mv.heap b o (fun hm => ?_) (Heap.get?_push_of_some _ (Heap.get?_push_of_some _ e))⟩
    rcases List.mem_cons.mp hm with e | hm
    · exact Nat.ne_of_lt hb e
    · have e2 := List.mem_singleton.mp hm
      rw [Heap.size_push] at e2
      exact Nat.ne_of_lt (Nat.lt_succ_of_lt hb) e2
end
/-! ### len(set(xs)) -/
def tLenK (K : Fg) (ta : TE) : TE := fun σ H Q => ta σ H fun x H1 => ∃ (l : Addr) (ks : List Key), x = .ref l ∧ (SqL K H1 l (ks.map kV) ∨ SqT K H1 l (ks.map kV)) ∧ ks.length ≤ 4000 ∧ Q (.int ((dd [] ks).length : Nat)) H1
theorem pe_lenK {X : Cx} {a : Expr} {ta : TE} {p p2 q pos : Pos} (hg : Gl X "len") (hm : X.mg "len" = none) (hg2 : Gl X "set") (hm2 : X.mg "set" = none) (ha : PE X a ta) (hc : X.calm = true := by rfl)
    (na : starEach [a] X.env = (false, eval a X.env) :: starEach [] X.env := by rfl) : PE X (.Call (.Name "len" p) [.Call (.Name "set" p2) [a] [] q] [] pos) (tLenK X.K ta) := by
  refine ⟨fun pins s σ H Q I h => ?_⟩
  refine Call_ (ld_blt I hg hm boot_len ?_)
  refine callWith_builtin1 (args_cons ?_ rfl) rfl rfl
  refine Call_ (ld_blt I hg2 hm2 boot_set ?_)
  refine callWith_type1 (args_cons (thn (ha.run pins s σ H _ I h) fun v s1 ⟨x, H1, I1, r1, q1⟩ => args_nil ?_) na) na rfl
  obtain ⟨l, ks, rfl, hq, hl, q1⟩ := q1
  cases r1
  have fin : SetMade X.prog X.w s1 ks fun v s2 => wpAny (model X.prog X.w) X.A (call (.builtin "len") ([] ++ [v])) (EP X pins σ Q) X.xe s2 := by
    intro h' tk z kp
    obtain ⟨o, es, ep, t, ho, hex, hd, _, _, _, hf, hn⟩ := z
    have I2 : L2.Inv X pins σ H1 { s1 with heap := h', toks := tk } := I1.kept fun b o e => kp b o (Heap.lt_size e) e
    have hb := dd_len ks []
    have hb : (dd [] ks).length ≤ ks.length := by simpa using hb
    exact call_len_set ho hex hd hf (by rw [hn]; omega) ⟨.int ((dd [] ks).length : Nat), H1, I2.tok _, ⟨_, by rw [hn]⟩, q1⟩
  rcases hq with hq | hq
  · obtain ⟨its, r, pl, hz⟩ := I1.list hq
    exact set_of_list (items := its.toArray) (I1.ok.hd hc) pl.isList (by simpa using r) (by unfold scanBound; omega) fun h' tk z kp => args_nil (fin h' tk z kp)
  · obtain ⟨its, r, pl, hz⟩ := I1.tuple hq
    exact set_of_tuple (items := its.toArray) (I1.ok.hd hc) pl (by simpa using r) (by unfold scanBound; omega) fun h' tk z kp => args_nil (fin h' tk z kp)
end Gd

/-! Gd, part 14: new lists out of operations and calls; tuples put together. -/
namespace Gd
open PySem L2 PyProof.Rows

/-! ### list + list, of any kind -/
section
open PySem.SeqAt AutoSeq1 MeetsSeq MeetsSeq2 MeetsSeq3 SeqRoads2
theorem add_meets (l : Addr) (xs : Array Value) (n : Nat) (sl : Array (Option Value)) (b : Addr) (ys : Array Value) (k : Nat) (sb : Array (Option Value)) (hz : xs.size + ys.size ≤ sizeLine) :
    Meets (Builtin.«list.__add__» ⟨[.ref l, .ref b], []⟩) (fun _ R s => s.heap.get? l = some ⟨.type "list", none, .seq xs n, sl⟩ ∧ s.heap.get? b = some ⟨.type "list", none, .seq ys k, sb⟩ ∧
      R (.ok (.ret (.ref s.heap.objs.size))) { s with heap := s.heap.push { cls := .type "list", data := .seq (xs ++ ys) }, toks := s.toks }) :=
  .of_wp fun prog w A R s h => by
    obtain ⟨hp, g, d, tk, os⟩ := s
    obtain ⟨hl, hb, h⟩ := h
    have f1 := AutoSeq1.sub_list_list
    wp_walk using wpAny_loadPart' hl, wpAny_loadPart' hb
    exact ⟨_, rfl, h⟩
end
theorem op_catL {X : Cx} : OpR X (binaryOp .Add) (rCatL X.K) := by
  intro pins s σ H x y v u Q I rx ry h
  obtain ⟨a, b, xs, ys, rfl, rfl, ha, hb, hz, q⟩ := h
  cases rx
  cases ry
  obtain ⟨i1, r1, ⟨⟨c1, d1, p1, s1⟩, n1, e1, g1, g2, g3⟩, _⟩ := I.list ha
  obtain ⟨i2, r2, ⟨⟨c2, d2, p2, s2⟩, n2, e2, k1, k2, k3⟩, _⟩ := I.list hb
  simp only at g1 g2 g3 k1 k2 k3
  subst g1 g2 g3 k1 k2 k3
  have hz2 : i1.toArray.size + i2.toArray.size ≤ sizeLine := by rw [List.size_toArray, List.size_toArray, ← r1.length, ← r2.length]; exact hz
  refine concat_meets ⟨_, e1, rfl⟩ ⟨_, e2, rfl⟩ noFill_list_add seq_list_add F.slot_list_add F.entry_list_add (F.args_list_add_2 _ _) (add_meets a i1.toArray n1 s1 b i2.toArray n2 s2 hz2) ⟨e1, e2, ?_⟩
  have ea : i1.toArray ++ i2.toArray = (i1 ++ i2).toArray := by simp
  rw [ea]
  exact ⟨.ref _, _, I.lnew (t' := s.toks) (r1.append r2) (by rw [List.length_append]; exact hz), rfl, q _ I.fresh⟩

/-! ### what an operation makes new -/
/-- an object of this content -/
def NewO (K : Fg) (mg : Mg) (G : Hp) (ad : List Addr) (o : HO) : D → Prop
  | .lst ds => ∃ vs, o = .lst vs ∧ Reps K mg G ad vs ds
  | .dct ds => ∃ vs, o = .dK vs ∧ RepK K mg G ad vs ds
  | _ => False
def ResF (K : Fg) (mg : Mg) (O : Addr → Prop) (ad : List Addr) (H : Hp) (z : D) (r : VK → Prop) : Prop :=
  ∀ Q : VK, (∀ p o, H p = none → NewO K mg (hide O H) ad o z → Q (.ref p) (upd H p o)) → r Q
theorem NewO.at {K : Fg} {mg : Mg} {G G' H' : Hp} {ad : List Addr} {o : HO} {z : D} {p : Addr} (n : NewO K mg G ad o z) (e : ∀ b o, G b = some o → G' b = some o) (h : H' p = some o) : MRep K mg G' ad H' p z := by
  cases z with
  | lst ds => obtain ⟨vs, rfl, r⟩ := n; exact ⟨vs, h, r.mono e fun _ _ q => q⟩
  | dct ds => obtain ⟨vs, rfl, r⟩ := n; exact ⟨vs, h, r.mono e fun _ _ q => q⟩
  | _ => exact n.elim
section
variable {K : Fg} {mg : Mg} {W : WX}
theorem ResF.go {ρ : Ro} {σ : L2.St} {O : Addr → Prop} {ad : List Addr} {H : Hp} {S : Sg} {z : D} {r : VK → Prop} {Q : VK} (h : ResF K mg O ad H z r) (s : Sto K mg O ad S H) (k : PostF K mg W ρ σ Q O ad H (.ok z S)) : r Q := by
  refine h Q fun p o hp n => ?_
  have hk : ∀ b o', hide O H b = some o' → hide O H b = some o' := fun _ _ e => e
  have m0 : MRep K mg (hide O H) ad (upd H p o) p z := n.at hk upd_same
  obtain ⟨t, s', np, m⟩ := new_own s hp m0
  exact k p _ ad _ t s' (.inr rfl) np hp m
def CallPF (K : Fg) (mg : Mg) (r : List V → Hp → VK → Prop) (f : List D → Option D) : Prop :=
  ∀ O ad H vs ds z, Paired (RepS K mg O ad H) vs ds → f ds = some z → ResF K mg O ad H z (r vs H)
def OpPF (K : Fg) (mg : Mg) (r : R2) (f : D → D → Option D) : Prop :=
  ∀ O ad H x y d e z, RepS K mg O ad H x d → RepS K mg O ad H y e → f d e = some z → ResF K mg O ad H z (r x y H)
def UnPF (K : Fg) (mg : Mg) (r : V → Hp → VK → Prop) (f : D → Option D) : Prop :=
  ∀ O ad H x d z, RepS K mg O ad H x d → f d = some z → ResF K mg O ad H z (r x H)
theorem liftO_okF {ρ : Ro} {σ : L2.St} {O : Addr → Prop} {ad : List Addr} {H : Hp} {S : Sg} {o : Option D} {Q : VK} (h : PostF K mg W ρ σ Q O ad H (liftO S o)) : ∃ z, o = some z := by
  cases o with
  | some z => exact ⟨z, rfl⟩
  | none => exact h.elim
theorem w_cbF {r : List V → Hp → VK → Prop} {f : List D → Option D} {a : MA} (hf : CallPF K mg r f) : ∀ σ H Q, Ef K mg W (e_cb f a) σ H Q → tCB r (Ea K mg W a) σ H Q := by
  intro σ H Q q
  refine (bindAF (f := fun ρ ds S1 => liftO S1 ((derefL ρ S1 ds).bind f)) q).imp fun vs H1 g => ?_
  obtain ⟨O, ad, S, ρ, ds, s, fr, r1, k⟩ := g
  obtain ⟨z, ez⟩ := liftO_okF k
  obtain ⟨d', ed, ez⟩ := Option.bind_eq_some_iff.mp ez
  have kv := hf O ad H1 vs d' z (derefL_rep fr s r1 ed) ez
  rw [ed] at k
  simp only [Option.bind_some, ez, liftO] at k
  exact kv.go s k
theorem w_op2F {r : R2} {f : D → D → Option D} {a b : ME} (hf : OpPF K mg r f) : ∀ σ H Q, Ef K mg W (e_op2 f a b) σ H Q → tOp r (Ee K mg W a) (Ee K mg W b) σ H Q := by
  intro σ H Q q
  refine (bind2F (f := fun ρ d e S2 => liftO S2 ((deref ρ S2 d).bind fun d' => (deref ρ S2 e).bind fun e' => f d' e')) q).imp fun x H1 g => ?_
  refine g.imp fun y H2 g => ?_
  obtain ⟨O, ad, S, ρ, d, e, s, fr, r1, r2, k⟩ := g
  obtain ⟨z, ez⟩ := liftO_okF k
  obtain ⟨d', ed, ez⟩ := Option.bind_eq_some_iff.mp ez
  obtain ⟨e', ee, ez⟩ := Option.bind_eq_some_iff.mp ez
  have kv := hf O ad H2 x y d' e' z (deref_rep fr s r1 ed) (deref_rep fr s r2 ee) ez
  rw [ed] at k
  simp only [Option.bind_some, ee, ez, liftO] at k
  exact kv.go s k
theorem w_op1F {r : V → Hp → VK → Prop} {f : D → Option D} {a : ME} (hf : UnPF K mg r f) : ∀ σ H Q, Ef K mg W (e_op1 f a) σ H Q → tUn r (Ee K mg W a) σ H Q := by
  intro σ H Q q
  refine (bindEF (f := fun ρ d S1 => liftO S1 ((deref ρ S1 d).bind f)) q).imp fun x H1 g => ?_
  obtain ⟨O, ad, S, ρ, d, s, fr, r1, k⟩ := g
  obtain ⟨z, ez⟩ := liftO_okF k
  obtain ⟨d', ed, ez⟩ := Option.bind_eq_some_iff.mp ez
  have kv := hf O ad H1 x d' z (deref_rep fr s r1 ed) ez
  rw [ed] at k
  simp only [Option.bind_some, ez, liftO] at k
  exact kv.go s k
end
/-! ### the operations -/
def d_list : D → Option D
  | .lst ds => some (.lst ds)
  | .tup ds => some (.lst ds)
  | _ => none
def d_tuple : D → Option D
  | .lst ds => some (.tup ds)
  | .tup ds => some (.tup ds)
  | _ => none
def d_addT : D → D → Option D := fun d e => match d, e with
  | .tup a, .tup b => if a.length + b.length ≤ 100000 then some (.tup (a ++ b)) else none
  | _, _ => none
def d_rev : D → Option D
  | .lst ds => some (.lst ds.reverse)
  | _ => none
def rList (K : Fg) : List V → Hp → VK → Prop := fun xs H Q => ∃ p ys, xs = [.ref p] ∧ (SqL K H p ys ∨ SqT K H p ys) ∧ ∀ l, H l = none → Q (.ref l) (upd H l (.lst ys))
def rTuple (K : Fg) : List V → Hp → VK → Prop := fun xs H Q => ∃ p ys, xs = [.ref p] ∧ ((SqL K H p ys ∧ ∀ l, H l = none → Q (.ref l) (upd H l (.tup ys))) ∨ (SqT K H p ys ∧ Q (.ref p) H))
theorem cr_list {X : Cx} : CallR X (.type "list") (rList X.K) := call_list_of
theorem cr_tuple {X : Cx} : CallR X (.type "tuple") (rTuple X.K) := call_tuple_of
section
variable {K : Fg} {mg : Mg}
theorem cpf_list : CallPF K mg (rList K) (d_1 d_list) := by
  intro O ad H vs ds z r h
  obtain ⟨d, rfl, h⟩ := d_1_some h
  obtain ⟨x, rfl, rx⟩ := paired1 r
  intro Q k
  cases d with
  | lst ds =>
    cases h
    obtain ⟨a, vs, rfl, h1, h2⟩ := rx.lst
    exact ⟨a, vs, rfl, .inl h1, fun l hl => k l _ hl ⟨vs, rfl, h2⟩⟩
  | tup ds =>
    cases h
    obtain ⟨a, vs, rfl, h1, h2⟩ := rx.tup
    exact ⟨a, vs, rfl, .inr h1, fun l hl => k l _ hl ⟨vs, rfl, h2⟩⟩
  | _ => cases h
theorem RepS.tupR {O : Addr → Prop} {ad : List Addr} {H : Hp} {x : V} {ds : List D} (r : RepS K mg O ad H x (.tup ds)) : Rep K mg (hide O H) ad x (.tup ds) := by
  rcases r with r | ⟨a, rfl, r⟩
  · exact r
  · exact r.elim
theorem cp_tuple : CallP K mg (rTuple K) (d_1 d_tuple) := by
  intro O ad H vs ds z r h
  obtain ⟨d, rfl, h⟩ := d_1_some h
  obtain ⟨x, rfl, rx⟩ := paired1 r
  cases d with
  | lst ds =>
    cases h
    obtain ⟨a, vs, rfl, h1, h2⟩ := rx.lst
    exact .inr ⟨rfl, .tup vs, fun p G e g => .tup (.inl (.inl g)) (h2.mono e fun _ _ q => q), fun Q k => ⟨a, vs, rfl, .inl ⟨h1, k⟩⟩⟩
  | tup ds =>
    cases h
    obtain ⟨a, vs, rfl, h1, h2⟩ := rx.tup
    exact res_v rx.tupR fun Q q => ⟨a, vs, rfl, .inr ⟨h1, q⟩⟩
  | _ => cases h
theorem opf_catL : OpPF K mg (rCatL K) d_addL := by
  intro O ad H x y d e z rx ry h
  intro Q k
  cases d with
  | lst a =>
    cases e with
    | lst b =>
      unfold d_addL at h
      dsimp only at h
      split at h
      · rename_i hz
        cases h
        obtain ⟨p, vs, rfl, h1, h2⟩ := rx.lst
        obtain ⟨q, ws, rfl, g1, g2⟩ := ry.lst
        exact ⟨p, q, vs, ws, rfl, rfl, h1, g1, Nat.le_trans (by rw [h2.length, g2.length]; exact hz) (by decide), fun l hl => k l _ hl ⟨_, rfl, h2.app g2⟩⟩
      · cases h
    | _ => cases h
  | _ => cases h
theorem op_addT : OpP K mg (rCatA K) d_addT := by
  intro O ad H x y d e z rx ry h
  cases d with
  | tup a =>
    cases e with
    | tup b =>
      unfold d_addT at h
      dsimp only at h
      split at h
      · rename_i hz
        cases h
        obtain ⟨p, vs, rfl, h1, h2⟩ := id rx.tup
        obtain ⟨q, ws, rfl, g1, g2⟩ := id ry.tup
        have hl : vs.length + ws.length ≤ sizeLine := Nat.le_trans (by rw [h2.length, g2.length]; exact hz) (by decide)
        by_cases ev : vs = []
        · subst ev
          cases h2
          exact res_v ry.tupR fun Q k => ⟨p, q, [], ws, rfl, rfl, h1, g1, hl, fun _ => k, fun z => absurd rfl z, fun z => absurd rfl z⟩
        · by_cases ew : ws = []
          · subst ew
            cases g2
            rw [List.append_nil]
            exact res_v rx.tupR fun Q k => ⟨p, q, vs, [], rfl, rfl, h1, g1, hl, fun z => absurd z ev, fun _ _ => k, fun _ z => absurd rfl z⟩
          · exact .inr ⟨rfl, .tup (vs ++ ws), fun l G e g => .tup (.inl (.inl g)) ((h2.app g2).mono e fun _ _ q => q), fun Q k => ⟨p, q, vs, ws, rfl, rfl, h1, g1, hl, fun z => absurd z ev, fun _ z => absurd z ew, fun _ _ => k⟩⟩
      · cases h
    | _ => cases h
  | _ => cases h
end
/-! builtin classes called -/
section
variable {X : Cx} {W : WX} {a b e : Expr} {es : List Expr} {r : MA} {p pos : Pos} {ma mb m : ME}
theorem E_ct {T : String} {x : Str} {rr : List V → Hp → VK → Prop} {f : List D → Option D} (hc : CallR X (.type T) rr) (cp : CallP X.K X.mg rr f) (hg : Gl X x) (hm : X.mg x = none) (hv : bootBuiltins x = some (.type T)) (ha : PA X (e :: es) (Ea X.K X.mg W r)) (hn : x ≠ "__name__" := by decide) (hdb : (x == ("__debug__" : Str)) = false := by decide)
    (he : starEach (e :: es) X.env = (false, eval e X.env) :: starEach es X.env := by rfl) (hpl : (backTo pos (starEach es X.env)).any (·.1) = false := by rfl) : PE X (.Call (.Name x p) (e :: es) [] pos) (Ee X.K X.mg W (e_cb f r)) :=
  pe_of (pe_callTy hc hg hm hv ha hn hdb he hpl) (w_cb cp)
theorem F_ct {T : String} {x : Str} {rr : List V → Hp → VK → Prop} {f : List D → Option D} (hc : CallR X (.type T) rr) (cp : CallPF X.K X.mg rr f) (hg : Gl X x) (hm : X.mg x = none) (hv : bootBuiltins x = some (.type T)) (ha : PA X (e :: es) (Ea X.K X.mg W r)) (hn : x ≠ "__name__" := by decide) (hdb : (x == ("__debug__" : Str)) = false := by decide)
    (he : starEach (e :: es) X.env = (false, eval e X.env) :: starEach es X.env := by rfl) (hpl : (backTo pos (starEach es X.env)).any (·.1) = false := by rfl) : PE X (.Call (.Name x p) (e :: es) [] pos) (Ef X.K X.mg W (e_cb f r)) :=
  pe_of (pe_callTy hc hg hm hv ha hn hdb he hpl) (w_cbF cp)
theorem F_cb {id : String} {x : Str} {rr : List V → Hp → VK → Prop} {f : List D → Option D} (hc : CallR X (.builtin id) rr) (cp : CallPF X.K X.mg rr f) (hg : Gl X x) (hm : X.mg x = none) (hv : bootBuiltins x = some (.builtin id)) (ha : PA X (e :: es) (Ea X.K X.mg W r)) (hn : x ≠ "__name__" := by decide) (hdb : (x == ("__debug__" : Str)) = false := by decide)
    (he : starEach (e :: es) X.env = (false, eval e X.env) :: starEach es X.env := by rfl) (hpl : (backTo pos (starEach es X.env)).any (·.1) = false := by rfl) : PE X (.Call (.Name x p) (e :: es) [] pos) (Ef X.K X.mg W (e_cb f r)) :=
  pe_of (pe_callB hc hg hm hv ha hn hdb he hpl) (w_cbF cp)
theorem F_addL (ha : PE X a (Ee X.K X.mg W ma)) (hb : PE X b (Ee X.K X.mg W mb)) : PE X (.BinOp a .Add b pos) (Ef X.K X.mg W (e_op2 d_addL ma mb)) := pe_of (pe_op op_catL ha hb) (w_op2F opf_catL)
theorem E_addT (ha : PE X a (Ee X.K X.mg W ma)) (hb : PE X b (Ee X.K X.mg W mb)) : PE X (.BinOp a .Add b pos) (Ee X.K X.mg W (e_op2 d_addT ma mb)) := E_bin op_catA op_addT ha hb
end
end Gd

/-! Gd, part 15: more statements: targets of several names, augmented ones; f-strings; slices. -/
namespace Gd
open PySem L2 PyProof.Rows

/-! ### a, *r = a list -/
/-- the first, and a new list of the rest -/
def gStarL (K : Fg) (t : TGs) : TG := fun v σ H Q => ∃ a x xs, v = .ref a ∧ SqL K H a (x :: xs) ∧ xs.length ≤ 16000 ∧ ∀ p, H p = none → t [x, .ref p] σ (upd H p (.lst xs)) Q
section
open PySem.W
variable {prog : Program} {w : World} {A : Around} {E : Value → Shared → Prop} {s : Shared}
theorem unpack_head {l : Addr} {x : Value} {xs : List Value} {Q : List Value → Shared → Prop} (hh : A.handled = none) (hl : s.heap.IsList l (x :: xs).toArray) (hz : xs.length ≤ 16000)
    (q : ∀ D h' tk, s.heap.get? D = none → (∀ b o, s.heap.get? b = some o → h'.get? b = some o) → h'.get? D = some { cls := .type "list", dict := none, data := .seq xs.toArray, slots := #[] } → Q [x, .ref D] { s with heap := h', toks := tk }) :
    wpAny (model prog w) A (unpackItems (.ref l) 2 (some 1)) Q E s := by
  obtain ⟨ol, el, more⟩ := id hl
  have small : l < s.heap.objs.size := Heap.lt_size el
  have ne : l ≠ s.heap.objs.size := Nat.ne_of_lt small
  unfold unpackItems
  refine wpAny_bind ?_
  unfold notIterableAtAll
  refine wpAny_bind (wpAny_specialOf hl.typeIs slot_list_iter.lookup (wpAny_pure ?_))
  simp only [Bool.false_eq_true, if_false]
  refine wpAny_bind (wpAny_holding (wpAny_pyIter_list hl ?_))
  refine wpAny_bind (wpAny_holding (kun_draw ne 1 0 _ _ ⟨_, Heap.get?_push_size _ rfl, rfl, rfl⟩ (hl.push _) (by simp) fun h1 it1 b1 => ?_))
  have l1 : h1.IsList l (x :: xs).toArray := (hl.push _).extBut b1.extBut ne
  rw [Nat.zero_add] at it1
  obtain ⟨oi, ei, _⟩ := id it1
  obtain ⟨ol2, el2, _⟩ := id l1
  simp only [List.drop_zero]
  rw [if_neg (show ¬ ((List.take 1 (x :: xs)).length < 1) by simp)]
  refine wpAny_bind (wpAny_holding (kun_collect (s := { s with heap := h1 }) (T := "list_iterator") (.inr (.inr (.inl rfl))) (Walks.list (A := A.in1) hh s.heap.objs.size l ne (x :: xs).toArray) (fun j u st => st.1.typeIs) (k := 1) (by simp) ⟨it1, l1⟩ (Heap.lt_size ei) (Heap.lt_size el2) (fun h2 tk kp => ?_) ?_))
  · show wpAny _ _ (if (List.drop 1 (x :: xs)).length < 2 - 1 - 1 then _ else _) _ _ _
    rw [if_neg (show ¬ ((List.drop 1 (x :: xs)).length < 2 - 1 - 1) by simp)]
    have all : ∀ b o, s.heap.get? b = some o → h2.get? b = some o := fun b o e => by
      have nb : b ≠ s.heap.objs.size := Nat.ne_of_lt (Heap.lt_size e)
      exact kp b o nb (b1.extBut b o nb (Heap.get?_push_of_some _ e))
    show wpAny _ _ (newList (xs.take xs.length) >>= fun d => pure ([x] ++ [d] ++ xs.drop xs.length)) _ _ _
    rw [List.take_length, List.drop_length]
    refine wpAny_bind (wpAny_newList (wpAny_pure (q h2.objs.size _ tk ?_ (fun b o e => Heap.get?_push_of_some _ (all b o e)) (Heap.get?_push_size _ rfl))) (Nat.le_trans hz (by decide)))
    cases e : s.heap.get? h2.objs.size with
    | none => rfl
    | some o => exact absurd (Heap.lt_size (all _ o e)) (Nat.lt_irrefl _)
  · simp; exact Nat.le_trans (Nat.succ_le_succ hz) (by decide)
end
section
variable {X : Cx} {e1 e2 : Expr} {p pos : Pos} {k : Nat} {t : TGs}
theorem pg_star (hc : X.calm = true) (h : PGs X [e1, e2] t) (he : (assignEach [e1, .Starred e2 p] X.env).map (·.2) = (assignEach [e1, e2] X.env).map (·.2) := by rfl) (hl : (assignEach [e1, .Starred e2 p] X.env).length = 2 := by rfl) (hs : (assignEach [e1, .Starred e2 p] X.env).findIdx? (·.1) = some 1 := by rfl) :
    PG X (.Tuple [e1, .Starred e2 p] k pos) (gStarL X.K t) := by
  refine ⟨fun pins s σ H v u Q I r hw => ?_⟩
  obtain ⟨a, x, xs, rfl, hq, hz, hw⟩ := hw
  cases r
  obtain ⟨its, rv, pl, _⟩ := I.list hq
  cases rv with
  | @cons _ u0 _ us rx rr =>
    rw [assign_Tuple]
    refine wpAny_bind (wpAny_standAt ?_)
    unfold unpack
    rw [hl, hs, he]
    refine wpAny_bind (wpAny_holding (unpack_head (I.ok.hd hc) pl.isList (by rw [← rr.length]; exact hz) fun D h' tk nd kp at_ => ?_))
    have hn : H D = none := I.hok.gone nd
    have I2 : L2.Inv X pins σ (upd H D (.lst xs)) { s with heap := h', toks := tk } := I.laidN kp nd hn ⟨Nat.le_trans hz (by decide), us, 0, rr, at_⟩
    exact h.run pins _ σ _ [x, .ref D] [u0, .ref D] Q I2 (.cons rx (.cons rfl .nil)) (hw D hn)
end
def s_star (i j : Nat) (m : ME) : MS := s_e m fun d ρ S => match deref ρ S d with
  | some (.lst (x :: xs)) => if isLoc x = false ∧ xs.length ≤ 16000 then .nx ((ρ.set i (.va x)).set j (.va (.lst xs))) S else .no
  | _ => .no
def s_asg (m : ME) (tgt : D → Ro → Option Ro) : MS := s_e m fun d ρ S => if isLoc d = true then .no else match tgt d ρ with
  | some ρ1 => .nx ρ1 S
  | none => .no
def s_aug (i : Nat) (f : D → D → Option D) (m : ME) : MS := fun ρ S => match ρ[i]? with
  | some (.va x) => s_e m (fun d ρ S => match (deref ρ S x).bind fun x' => (deref ρ S d).bind fun d' => f x' d' with
    | some z => if isLoc z = true then .no else .nx (ρ.set i (.va z)) S
    | none => .no) ρ S
  | _ => .no
section
variable {K : Fg} {mg : Mg} {W : WX}
theorem w_star {i j : Nat} {m : ME} : ∀ Dn σ H, Ss K mg W (s_star i j m) Dn σ H → tAsg (Ee K mg W m) (gStarL K (gCons (gName i) (gCons (gName j) gNil))) Dn σ H := by
  intro Dn σ H q
  refine (bindS q).imp fun v H1 g => ?_
  obtain ⟨c, O, ad, S, ρ, z, d, r, k⟩ := g
  cases ed : deref ρ S d with
  | none => simp only [ed] at k; exact k.elim
  | some d' =>
    simp only [ed] at k
    have rx := deref_rep z.fre z.sto r ed
    cases d' with
    | lst l =>
      cases l with
      | nil => exact k.elim
      | cons x xs =>
        dsimp only at k
        split at k
        · rename_i hc
          obtain ⟨a, vs, rfl, h1, h2⟩ := rx.lst
          cases h2 with
          | cons ra rb =>
            rename_i va vs
            refine ⟨a, va, vs, rfl, h1, by rw [rb.length]; exact hc.2, fun p hp => ?_⟩
            obtain ⟨t, s', hk, e⟩ := new_still (o := .lst vs) z.sto hp
            have z1 := z.step t s'
            have z2 := (z1.set_va (i := i) (ra.mono hk fun _ _ q => q)).set_va (i := j) (Rep.lst (.of e) (rb.mono hk fun _ _ q => q))
            exact ⟨va, [.ref p], rfl, .ref p, [], rfl, rfl, k _ _ _ _ (t.grow z.sto.hid) z2⟩
        · exact k.elim
    | _ => exact k.elim
theorem w_asg {ts : List Nat} {g : TG} {tgt : D → Ro → Option Ro} {m : ME} (hg : TgOk K mg ts g tgt) : ∀ Dn σ H, Ss K mg W (s_asg m tgt) Dn σ H → tAsg (Ee K mg W m) g Dn σ H := by
  intro Dn σ H q
  refine (bindS q).imp fun v H1 h => ?_
  obtain ⟨c, O, ad, S, ρ, z, d, r, k⟩ := h
  cases el : isLoc d with
  | true => rw [if_pos el] at k; exact k.elim
  | false =>
    rw [if_neg (by rw [el]; exact Bool.false_ne_true)] at k
    cases et : tgt d ρ with
    | none => rw [et] at k; exact k.elim
    | some ρ1 =>
      rw [et] at k
      obtain ⟨σ1, f1, own, _, q1⟩ := hg O ad ρ σ H1 v d ρ1 z.fre (r.rep el) et
      exact q1 _ (k σ1 O ad H1 (.refl _ _ _) ⟨z.sto, f1, z.cst, fun i e a h1 h2 => (fun w => z.owf i e a w.1 w.2) (own i e a h1 h2)⟩)
theorem w_aug {i : Nat} {f : D → D → Option D} {ti : TIp} {m : ME} (hf : OpP K mg ti f) : ∀ Dn σ H, Ss K mg W (s_aug i f m) Dn σ H → tAug i (Ee K mg W m) ti Dn σ H := by
  rintro Dn σ H ⟨c, O, ad, S, ρ, z, h⟩
  unfold s_aug at h
  cases ei : ρ[i]? with
  | none => rw [ei] at h; exact h.elim
  | some sl =>
    cases sl with
    | va x =>
      rw [ei] at h
      obtain ⟨v, hv, rv⟩ := z.fre.va i x ei
      refine ⟨v, hv, ?_⟩
      refine (bindK (vs := [v]) (ds := [x]) (f := fun d ρ S => match (deref ρ S x).bind fun x' => (deref ρ S d).bind fun d' => f x' d' with
        | some z => if isLoc z = true then .no else .nx (ρ.set i (.va z)) S
        | none => .no) z (.cons (repR_of rv) .nil) h).imp fun y H1 g => ?_
      obtain ⟨O, ad, S, d, z, ry, r2, k⟩ := g
      cases r2 with
      | cons rv _ =>
        cases ef : (deref ρ S x).bind fun x' => (deref ρ S d).bind fun d' => f x' d' with
        | none => simp only [ef] at k; exact k.elim
        | some u =>
          simp only [ef] at k
          cases el : isLoc u with
          | true => rw [if_pos el] at k; exact k.elim
          | false =>
            rw [if_neg (by rw [el]; exact Bool.false_ne_true)] at k
            obtain ⟨x', e1, e2⟩ := Option.bind_eq_some_iff.mp ef
            obtain ⟨d', e3, e4⟩ := Option.bind_eq_some_iff.mp e2
            have res := hf O ad H1 v y x' d' u (deref_rep z.fre z.sto rv e1) (deref_rep z.fre z.sto ry e3) e4
            rcases res with ⟨w, rw', q⟩ | ⟨_, o, rp, q⟩
            · exact q _ (k _ _ _ _ (.refl _ _ _) (z.set_va rw'))
            · refine q _ fun p hp => ?_
              obtain ⟨t, s', hk, e⟩ := new_still (o := o) z.sto hp
              exact k _ _ _ _ (t.grow z.sto.hid) ((z.step t s').set_va (rp p _ hk e))
    | _ => rw [ei] at h; exact h.elim
end
section
variable {X : Cx} {W : WX} {e : Expr} {pos : Pos} {m : ME}
theorem S_star {i j k : Nat} {x y : Str} {p1 p2 p3 p4 : Pos} (hc : X.calm = true) (hN : X.N.Nodup) (hi : X.N[i]? = some x) (hj : X.N[j]? = some y) (hx : Loc X.env.scope x) (hy : Loc X.env.scope y) (he : PE X e (Ee X.K X.mg W m))
    (h1 : (assignEach [.Name x p1, .Starred (.Name y p2) p3] X.env).map (·.2) = (assignEach [.Name x p1, .Name y p2] X.env).map (·.2) := by rfl) (h2 : (assignEach [.Name x p1, .Starred (.Name y p2) p3] X.env).length = 2 := by rfl) (h3 : (assignEach [.Name x p1, .Starred (.Name y p2) p3] X.env).findIdx? (·.1) = some 1 := by rfl)
    (hs : swapsWithSole [.Tuple [.Name x p1, .Starred (.Name y p2) p3] k p4] e pos.line X.env = pure false := by rfl) (hw : swappedStores [.Tuple [.Name x p1, .Starred (.Name y p2) p3] k p4] e X.env = pure none := by rfl)
    (h4 : (assignEach [.Tuple [.Name x p1, .Starred (.Name y p2) p3] k p4] X.env).map (·.2) = [assign (.Tuple [.Name x p1, .Starred (.Name y p2) p3] k p4) X.env] := by rfl)
    (fx : X.fn x = true ∨ X.env.scope.names.lookup x = some .local := by first | exact .inl rfl | exact .inr rfl | assumption) (fy : X.fn y = true ∨ X.env.scope.names.lookup y = some .local := by first | exact .inl rfl | exact .inr rfl | assumption) :
    PS X (.Assign [.Tuple [.Name x p1, .Starred (.Name y p2) p3] k p4] e pos) (Ss X.K X.mg W (s_star i j m)) :=
  ps_of (ps_asg he (pg_star hc (pgs_cons (pg_name hN hi hx fx) (pgs_cons (pg_name hN hj hy fy) pgs_nil)) h1 h2 h3) hs hw h4) w_star
theorem S_asg {tg : Expr} {ts : List Nat} {g : TG} {tgt : D → Ro → Option Ro} (he : PE X e (Ee X.K X.mg W m)) (hg : PG X tg g) (ok : TgOk X.K X.mg ts g tgt) (hs : swapsWithSole [tg] e pos.line X.env = pure false := by rfl) (hw : swappedStores [tg] e X.env = pure none := by rfl)
    (h1 : (assignEach [tg] X.env).map (·.2) = [assign tg X.env] := by rfl) : PS X (.Assign [tg] e pos) (Ss X.K X.mg W (s_asg m tgt)) := ps_of (ps_asg he hg hs hw h1) (w_asg ok)
theorem S_aug {i : Nat} {x : Str} {op : Operator} {ti : TIp} {f : D → D → Option D} {pos' : Pos} (ho : PIp X op ti) (hf : OpP X.K X.mg ti f) (hN : X.N.Nodup) (hi : X.N[i]? = some x) (hx : Loc X.env.scope x) (he : PE X e (Ee X.K X.mg W m))
    (hv : X.fn x = true ∨ X.env.scope.names.lookup x = some .local := by first | exact .inl rfl | exact .inr rfl | assumption) : PS X (.AugAssign (.Name x pos') op e pos) (Ss X.K X.mg W (s_aug i f m)) := ps_of (ps_aug hN hi hx he ho hv) (w_aug hf)
theorem ip_addI : PIp X .Add (ipI fun i j => i + j) := ip_add
theorem of_ipadd : OpP X.K X.mg (ipI fun i j => i + j) d_addI := by
  intro O ad H x y d e z rx ry h
  cases d with
  | int i =>
    cases e with
    | int j =>
      cases h
      cases rx.int
      cases ry.int
      exact res_v (.int _) fun Q q => ⟨i, j, rfl, rfl, q⟩
    | _ => cases h
  | _ => cases h
end
/-! ### f-strings -/
def e_fstr : List ME → Str → ME
  | [], acc => fun _ S => .ok (.str acc) S
  | m :: ms, acc => fun ρ S => (m ρ S).bind fun d S1 => match d with
    | .str y => if acc.length + y.length ≤ 100000 then e_fstr ms (acc ++ y) ρ S1 else .no
    | _ => .no
/-- {x} of a text -/
def e_fmt (m : ME) : ME := fun ρ S => (m ρ S).bind fun d S1 => match d with
  | .str y => if y.length ≤ 100000 then .ok (.str y) S1 else .no
  | _ => .no
inductive PM (X : Cx) (W : WX) : List Expr → List ME → Prop where
  | nil : PM X W [] []
  | cons {e : Expr} {m : ME} {es : List Expr} {ms : List ME} (h : PE X e (Ee X.K X.mg W m)) (r : PM X W es ms) : PM X W (e :: es) (m :: ms)
section
variable {X : Cx} {W : WX} {e : Expr} {pos : Pos} {m : ME}
theorem PM.pj {es : List Expr} {ms : List ME} (h : PM X W es ms) : PJ X es (ms.map fun m => Ee X.K X.mg W m) := by
  induction h with
  | nil => exact .nil
  | cons h _ ih => exact .cons h ih
theorem w_fstr {K : Fg} {mg : Mg} {W : WX} : ∀ (ms : List ME) (acc : Str) (σ : L2.St) (H : Hp) (Q : VK), acc.length ≤ 200000 → Ee K mg W (e_fstr ms acc) σ H Q → tJs (ms.map fun m => Ee K mg W m) acc σ H fun out H1 => Q (.str out) H1
  | [], acc, σ, H, Q, _, q => by
    obtain ⟨O, ad, S, ρ, s, fr, k⟩ := q
    exact k (.str acc) O ad H (.refl _ _ _) s (repR_of (d := .str acc) (.str acc))
  | m :: ms, acc, σ, H, Q, hz, q => by
    refine (bindE (f := fun ρ d S1 => match d with
      | .str y => if acc.length + y.length ≤ 100000 then e_fstr ms (acc ++ y) ρ S1 else .no
      | _ => .no) q).imp fun v H1 g => ?_
    obtain ⟨O, ad, S, ρ, d, s, fr, r, k⟩ := g
    cases d with
    | str y =>
      dsimp only at k
      obtain ⟨hc, k0⟩ := post_if (P := PostE K mg W ρ σ Q O ad H1) (fun z => z) k
      have r : Rep K mg (hide O H1) ad v (.str y) := r
      cases r
      have el : (acc ++ y).length = acc.length + y.length := by
        show (Str.append acc y).length = _
        simp [Str.append, Str.length]
      refine ⟨y, rfl, Nat.le_trans (by rw [el]; exact hc) (by decide), w_fstr ms (acc ++ y) σ H1 Q (by rw [el]; omega) ⟨O, ad, S, ρ, s, fr, k0⟩⟩
    | _ => exact k.elim
theorem w_fmt {K : Fg} {mg : Mg} {W : WX} {m : ME} : ∀ σ H Q, Ee K mg W (e_fmt m) σ H Q → tFmt (Ee K mg W m) σ H Q := by
  intro σ H Q q
  refine (bindE (f := fun ρ d S1 => match d with
    | .str y => if y.length ≤ 100000 then .ok (.str y) S1 else .no
    | _ => .no) q).imp fun v H1 g => ?_
  obtain ⟨O, ad, S, ρ, d, s, fr, r, k⟩ := g
  cases d with
  | str y =>
    dsimp only at k
    obtain ⟨hc, k0⟩ := post_if (P := PostE K mg W ρ σ Q O ad H1) (fun z => z) k
    have r : Rep K mg (hide O H1) ad v (.str y) := r
    cases r
    exact .inl ⟨y, rfl, Nat.le_trans hc (by decide), k0 (.str y) O ad H1 (.refl _ _ _) s (repR_of (d := .str y) (.str y))⟩
  | _ => exact k.elim
theorem E_fmt (h : PE X e (Ee X.K X.mg W m)) : PE X (.FormattedValue e (-1) none pos) (Ee X.K X.mg W (e_fmt m)) := pe_of (pe_fmt h) w_fmt
theorem E_fstr {v1 v2 : Expr} {rest : List Expr} {m1 m2 : ME} {ms : List ME} (h : PM X W (v1 :: v2 :: rest) (m1 :: m2 :: ms)) : PE X (.JoinedStr (v1 :: v2 :: rest) pos) (Ee X.K X.mg W (e_fstr (m1 :: m2 :: ms) Str.empty)) :=
  pe_of (pe_joined h.pj) fun σ H Q q => w_fstr _ _ σ H Q (by decide) q
theorem E_fstr1 (h : PE X e (Ee X.K X.mg W m)) : PE X (.JoinedStr [e] pos) (Ee X.K X.mg W m) := pe_joined1 h
end
/-! ### + of all kinds, slices of all kinds, xs[::-1] -/
def d_add4 : D → D → Option D := fun d e => (((d_addI d e).or (d_addS d e)).or (d_addT d e)).or (d_addL d e)
def d_slT (d : D) (lo hi : Option Int) : Option D := match d with
  | .tup ds => some (.tup (cutD ds lo hi))
  | _ => none
section
variable {K : Fg} {mg : Mg}
theorem op_addLv : OpP K mg (rCatL K) d_addL := by
  intro O ad H x y d e z rx ry h
  cases d with
  | lst a =>
    cases e with
    | lst b =>
      unfold d_addL at h
      dsimp only at h
      split at h
      · rename_i hz
        cases h
        obtain ⟨p, vs, rfl, h1, h2⟩ := rx.lst
        obtain ⟨q, ws, rfl, g1, g2⟩ := ry.lst
        exact .inr ⟨rfl, .lst (vs ++ ws), fun l G e g => .lst (.of g) ((h2.app g2).mono e fun _ _ q => q), fun Q k => ⟨p, q, vs, ws, rfl, rfl, h1, g1, Nat.le_trans (by rw [h2.length, g2.length]; exact hz) (by decide), k⟩⟩
      · cases h
    | _ => cases h
  | _ => cases h
theorem upf_rev : UnPF K mg (fun x H Q => ∃ a xs, x = .ref a ∧ SqL K H a xs ∧ ∀ p, H p = none → Q (.ref p) (upd H p (.lst xs.reverse))) d_rev := by
  intro O ad H x d z rx h
  intro Q k
  cases d with
  | lst ds =>
    cases h
    obtain ⟨a, vs, rfl, h1, h2⟩ := rx.lst
    refine ⟨a, vs, rfl, h1, fun p hp => k p _ hp ⟨_, rfl, ?_⟩⟩
    clear h1 k rx
    induction vs generalizing ds with
    | nil => cases h2; exact .nil
    | cons v vs ih =>
      cases h2 with
      | cons ra rb =>
        rw [List.reverse_cons, List.reverse_cons]
        exact (ih _ rb).app (.cons ra .nil)
  | _ => cases h
end
section
variable {X : Cx} {W : WX} {a b e : Expr} {pos : Pos} {ma mb m : ME}
theorem E_add4 (ha : PE X a (Ee X.K X.mg W ma)) (hb : PE X b (Ee X.K X.mg W mb)) : PE X (.BinOp a .Add b pos) (Ee X.K X.mg W (e_op2 d_add4 ma mb)) :=
  E_bin (((op_add.or op_add_str).or op_catA).or op_catL) (((op_int0.or op_addS).or op_addT).or op_addLv) ha hb
theorem F_rev {k : Nat} {p1 p2 p3 : Pos} (he : PE X e (Ee X.K X.mg W m)) : PE X (.Subscript e (.Slice none none (some (.UnaryOp .USub (.Constant (.int 1) k p1) p2)) p3) pos) (Ef X.K X.mg W (e_op1 d_rev m)) := pe_of (pe_revL he) (w_op1F upf_rev)
end
end Gd

/-! Gd, part 16: slices of all kinds, isinstance and == of own classes, str(o), try. -/
namespace Gd
open PySem L2 PyProof.Rows

/-! ### slices -/
def d_sl3 (d : D) (lo hi : Option Int) : Option D := (d_sl d lo hi).or (d_slT d lo hi)
section
variable {K : Fg} {mg : Mg}
theorem SlP.or {r r' : V → Option Int → Option Int → Hp → VK → Prop} {f g : D → Option Int → Option Int → Option D} (h : SlP K mg r f) (h' : SlP K mg r' g) : SlP K mg (fun x lo hi H Q => r x lo hi H Q ∨ r' x lo hi H Q) (fun d lo hi => (f d lo hi).or (g d lo hi)) := by
  intro O ad H x d lo hi z rx q
  cases e1 : f d lo hi with
  | some u =>
    have q' : (f d lo hi).or (g d lo hi) = some z := q
    rw [e1] at q'
    cases q'
    exact (h O ad H x d lo hi _ rx e1).imp fun Q k => .inl k
  | none =>
    have q' : (f d lo hi).or (g d lo hi) = some z := q
    rw [e1] at q'
    exact (h' O ad H x d lo hi _ rx q').imp fun Q k => .inr k
theorem sp_slT : SlP K mg (rSlA K) d_slT := by
  intro O ad H x d lo hi z r h
  unfold d_slT at h
  split at h
  · rename_i ds
    cases h
    obtain ⟨a, vs, rfl, h1, h2⟩ := id r.tup
    by_cases hw : HT.sIx vs.length 0 lo = 0 ∧ HT.sIx vs.length vs.length hi = vs.length
    · have e : cutD ds lo hi = ds := by
        unfold cutD
        rw [← h2.length, hw.1, hw.2, List.drop_zero, Nat.sub_zero, h2.length, List.take_length]
      rw [e]
      exact res_v r.tupR fun Q q => ⟨a, vs, rfl, h1, fun _ => q, fun n => absurd hw n⟩
    · refine .inr ⟨rfl, .tup (cutV vs lo hi), fun p G e ep => .tup (.inl (.inl ep)) ?_, fun Q q => ⟨a, vs, rfl, h1, fun n => absurd n hw, fun _ => q⟩⟩
      unfold cutV cutD
      rw [h2.length]
      exact ((h2.drop _).take _).mono e fun _ _ e => e
  · cases h
theorem sp_sl3 : SlP K mg (fun x lo hi H Q => rSl2 K x lo hi H Q ∨ rSlA K x lo hi H Q) d_sl3 := SlP.or sp_sl sp_slT
end
section
variable {X : Cx} {W : WX} {a b : Expr} {pos p2 : Pos} {ma mb : ME}
theorem E_slice3 {lo hi : Option Expr} {ml mh : MO} (ha : PE X a (Ee X.K X.mg W ma)) (hl : PO X lo (Eo X.K X.mg W ml)) (hh : PO X hi (Eo X.K X.mg W mh)) : PE X (.Subscript a (.Slice lo hi none p2) pos) (Ee X.K X.mg W (e_sl d_sl3 ma ml mh)) :=
  pe_of (pe_slice ((sl_list.or sl_str).or sl_tupA) ha hl hh) (w_sl sp_sl3)
end
/-! ### [..] * n -/
def d_rep : D → D → Option D := fun d e => match d, e with
  | .lst ds, .int k => if 0 ≤ k ∧ k ≤ 1000 ∧ ds.length ≤ 100 then some (.lst (List.replicate k.toNat ds).flatten) else none
  | _, _ => none
/-- the list is new itself -/
def e_rep (a b : ME) : ME := fun ρ S => (a ρ S).bind fun d S1 => (b ρ S1).bind fun e S2 => liftO S2 (d_rep d e)
section
variable {K : Fg} {mg : Mg} {W : WX}
theorem Reps.rep {G : Hp} {ad : List Addr} {vs : List V} {ds : List D} (h : Reps K mg G ad vs ds) : ∀ n : Nat, Reps K mg G ad (List.replicate n vs).flatten (List.replicate n ds).flatten
  | 0 => .nil
  | n + 1 => by
    rw [List.replicate_succ, List.replicate_succ, List.flatten_cons, List.flatten_cons]
    exact h.app (h.rep n)
theorem w_rep {a b : ME} : ∀ σ H Q, Ef K mg W (e_rep a b) σ H Q → tOp rRep (Ef K mg W a) (Ee K mg W b) σ H Q := by
  rintro σ H Q ⟨O, ad, S, ρ, s, fr, k⟩
  refine ⟨O, ad, S, ρ, s, fr, ?_⟩
  unfold e_rep at k
  cases e1 : a ρ S with
  | no => rw [e1] at k; exact k
  | er x fs S1 => rw [e1] at k; exact k
  | ok d S1 =>
    rw [e1] at k
    intro p O1 ad1 H1 t1 s1 hO hn h0 m
    have k1 := PostF.rebase k t1 s.hid s1.dom
    clear k
    refine ⟨O1, ad1, S1, ρ, s1, fr.step s.hid t1, ?_⟩
    dsimp only [Out.bind] at k1
    cases e2 : b ρ S1 with
    | no => rw [e2] at k1; exact k1
    | er x fs S2 => rw [e2] at k1; exact k1
    | ok e S2 =>
      rw [e2] at k1
      intro w O2 ad2 H2 t2 s2 r2
      have k2 := PostF.rebase k1 t2 s1.hid s2.dom
      clear k1
      dsimp only at k2
      obtain ⟨z, ez⟩ := liftO_okF k2
      rw [ez] at k2
      obtain ⟨o1, g1⟩ := m.there
      have m2 : MRep K mg (hide O2 H2) ad2 H2 p d := m.mono (t2.hide s1.hid) t2.get fun o q => t2.fr p o q hn
      cases d with
      | lst ds =>
        cases e with
        | int n =>
          unfold d_rep at ez
          dsimp only at ez
          split at ez
          · rename_i hc
            cases ez
            obtain ⟨vs, h1, h2⟩ := m2
            have r2 : Rep K mg (hide O2 H2) ad2 w (.int n) := r2
            cases r2
            refine ⟨p, n, vs, rfl, rfl, h1, by omega, by omega, ?_, fun q hq => ?_⟩
            · have l : vs.length ≤ 100 := by rw [h2.length]; exact hc.2.2
              exact Nat.le_trans (Nat.mul_le_mul l (show n.toNat ≤ 1000 by omega)) (by decide)
            · have m3 : MRep K mg (hide O2 H2) ad2 (upd H2 q (.lst (List.replicate n.toNat vs).flatten)) q (.lst (List.replicate n.toNat ds).flatten) := ⟨_, upd_same, h2.rep n.toNat⟩
              obtain ⟨t, s', np, m4⟩ := new_own (d := .lst (List.replicate n.toNat ds).flatten) s2 hq m3
              exact k2 q _ ad2 _ t s' (.inr rfl) np hq m4
          · cases ez
        | _ => cases ez
      | _ => cases e <;> cases ez
end
theorem F_rep {X : Cx} {W : WX} {a b : Expr} {pos : Pos} {ma mb : ME} (ha : PE X a (Ef X.K X.mg W ma)) (hb : PE X b (Ee X.K X.mg W mb)) : PE X (.BinOp a .Mult b pos) (Ef X.K X.mg W (e_rep ma mb)) := pe_of (pe_op op_rep ha hb) w_rep
/-! ### isinstance(x, C) -/
structure ClsTy (K : Fg) (C : Addr) : Prop where
  cl : Cls K C
  ha : PySem.W.findIn K (.ref C) "__class__" = some (some (.builtin "object.__class__"))
  hn : PySem.W.specialIn K (.builtin "object.__class__") "__get__" = some (some (.builtin "getset_descriptor.__get__"))
  ht : PySem.W.takesIn K (.builtin "object.__class__") = some true
  hm : PySem.W.mroIn K C (.type "object") = some true
/-- the answers of isinstance(.., C): of built-in types, of own classes -/
structure IsC (K : Fg) (mg : Mg) (C : Addr) (tb : List (String × Bool)) (tc : List (Str × Bool)) : Prop where
  ty : ∀ n b, tb.lookup n = some b → PySem.W.kitOne K (.type n) (.ref C) = some b
  ow : ∀ c b, tc.lookup c = some b → ∃ C', mg c = some (.ref C') ∧ ClsTy K C' ∧ PySem.W.kitOne K (.ref C') (.ref C) = some b
def d_isC (tb : List (String × Bool)) (tc : List (Str × Bool)) : D → Option D := fun d => match d with
  | .ins c _ => (tc.lookup c).map .bl
  | d => ((tyD d).bind fun n => tb.lookup n).map .bl
theorem isC_cases {tb : List (String × Bool)} {tc : List (Str × Bool)} {d z : D} (h : d_isC tb tc d = some z) : (∃ c gs b, d = .ins c gs ∧ tc.lookup c = some b ∧ z = .bl b) ∨ ∃ n b, tyD d = some n ∧ tb.lookup n = some b ∧ z = .bl b := by
  cases d with
  | ins c gs =>
    obtain ⟨b, h1, rfl⟩ := Option.map_eq_some_iff.mp (show Option.map D.bl (tc.lookup c) = some z from h)
    exact .inl ⟨c, gs, b, rfl, h1, rfl⟩
  | _ =>
    unfold d_isC at h
    dsimp only at h
    obtain ⟨b, h1, rfl⟩ := Option.map_eq_some_iff.mp h
    obtain ⟨n, h2, h3⟩ := Option.bind_eq_some_iff.mp h1
    exact .inr ⟨n, b, h2, h3, rfl⟩
section
variable {X : Cx} {W : WX} {e t : Expr} {m : ME} {p pos : Pos}
theorem E_isC {C : Addr} {tb : List (String × Bool)} {tc : List (Str × Bool)} (T : IsC X.K X.mg C tb tc) (hg : Gl X "isinstance") (hm : X.mg "isinstance" = none) (he : PE X e (Ee X.K X.mg W m)) (ht : PE X t (tC (.ref C))) (hs1 : starEach (t :: []) X.env = (false, eval t X.env) :: starEach [] X.env := by rfl)
    (hs : starEach (e :: [t]) X.env = (false, eval e X.env) :: starEach [t] X.env := by rfl) (hpl : (backTo pos (starEach [t] X.env)).any (·.1) = false := by rfl) :
    PE X (.Call (.Name "isinstance" p) [e, t] [] pos) (Ee X.K X.mg W (e_op1 (d_isC tb tc) m)) :=
  pe_of (pe_callB call_isi hg hm (by decide +kernel) (pa_cons he (pa_cons ht pa_nil hs1) hs) (by decide) (by decide) hs hpl) fun σ H Q q =>
    (w_op1 (r := fun x H Q => rIsi X.K [x, .ref C] H Q) (fun O ad H x d z r h => by
      rcases isC_cases h with ⟨c, gs, b, rfl, h1, rfl⟩ | ⟨n, b, h2, h3, rfl⟩
      · obtain ⟨C', hC, ct, hk⟩ := T.ow c b h1
        obtain ⟨a, C2, dx, fs, rfl, hC2, hp, _⟩ := r.ins
        rw [hC] at hC2
        cases hC2
        exact res_v (.bl _) fun Q q => ⟨.ref a, .ref C, .ref C', .ref C, b, rfl, .own C, .base (.ins hp ct.cl ct.ha ct.hn ct.ht ct.hm), hk, q⟩
      · exact res_v (.bl _) fun Q q => ⟨x, .ref C, .type n, .ref C, b, rfl, .own C, tyX_of r h2, T.ty n b h3, q⟩) σ H Q q)
end
/-! ### a == b by the class's own def; str(o) -/
def noErS {α : Type} (o : Out α) : Out α := match o with
  | .er _ _ _ => .no
  | o => o
def e_eqO (c : Str) (m : List D → Sg → Out D) (a b : ME) : ME := fun ρ S => (a ρ S).bind fun d S1 => (b ρ S1).bind fun e S2 =>
  if isLoc d = false ∧ isLoc e = false ∧ (deref ρ S2 d).any (isCls c) = true ∧ (deref ρ S2 e).any (isCls c) = true then noErS (m [d, e] S2) else .no
def e_strO (c : Str) (m : List D → Sg → Out D) (a : ME) : ME := fun ρ S => (a ρ S).bind fun d S1 =>
  if isLoc d = false ∧ (deref ρ S1 d).any (isCls c) = true then (noErS (m [d] S1)).bind fun z S2 => match z with
    | .str y => .ok (.str y) S2
    | _ => .no else .no
def rEqO (K : Fg) (C : Addr) (sp : Sp) : R2 := fun x y H Q => ∃ a b dx dy fs gs, x = .ref a ∧ y = .ref b ∧ H a = some (.ins C dx fs) ∧ H b = some (.ins C dy gs) ∧ sp [x, y] H Q fun _ _ _ => False
def rStrO (C : Addr) (sp : Sp) : List V → Hp → VK → Prop := fun xs H Q => ∃ a dx fs, xs = [V.ref a] ∧ H a = some (.ins C dx fs) ∧ sp [.ref a] H (fun z H' => ∃ y, z = .str y ∧ Q z H') fun _ _ _ => False
section
variable {X : Cx} {k : Nat} {f C : Addr} {fd : FuncData} {ps : List Str} {sp : Sp}
theorem run_atF {A : Around} {pins : List (Addr × Obj)} {σ : L2.St} {H : Hp} {s : Shared} {Q : VK} {us : List Value} {ws : List V} (F : FnOk X.prog X.w X.K X.mg X.base (L2.CX X.prog X.w) k f fd ps sp) (hb : Binds X.K fd ps []) (hr : Room k A) (e0 : Env0 X.prog X.w X.K X.mg X.base A X.stack s H) (I : L2.Inv X pins σ H s) (r : Vals ws us)
    (h : sp ws H Q fun _ _ _ => False) : codeAny (model X.prog X.w) A (.call (.ref f) ⟨us, []⟩) (fun r s' => match r with | .ok (.ret v) => EP X pins σ Q v s' | .ok _ => False | .error e => X.xe e s') s := by
  have hl : us.length = ps.length := by rw [← r.length]; exact F.len _ _ _ _ h
  have b := hb s us I.kIn (by rw [List.append_nil]; exact hl)
  rw [List.append_nil] at b
  refine codeAny_mono (F.run A X.stack s H ⟨us, []⟩ us ws Q _ hr e0 b r h) fun r s' hq => ?_
  cases r with
  | error e =>
    obtain ⟨_, _, _, _, _, _, _, _, _, _, _, _, z⟩ := hq
    exact z.elim
  | ok fl =>
    cases fl with
    | ret u => exact I.after hq
    | next => exact hq.elim
    | brk => exact hq.elim
    | cont => exact hq.elim
theorem op_eqO (hs : PySem.W.findIn X.K (.ref C) "__eq__" = some (some (.ref f))) (hf : PySem.W.isFn X.K (.ref f) = true) (F : FnOk X.prog X.w X.K X.mg X.base (L2.CX X.prog X.w) k f fd ps sp) (hb : Binds X.K fd ps []) (hr : Room k X.A) : OpR X (compareOp .Eq) (rEqO X.K C sp) := by
  intro pins s σ H x y v u Q I rx ry h
  obtain ⟨a, b, dx, dy, fs, gs, rfl, rfl, ha, hb', q⟩ := h
  cases rx
  cases ry
  obtain ⟨mA, J, _⟩ := ins_get I.hok ha
  obtain ⟨mB, J', _⟩ := ins_get I.hok hb'
  obtain ⟨od, J, _⟩ := J.look
  obtain ⟨od', J', _⟩ := J'.look
  obtain ⟨m, hF⟩ := I.fr
  refine PySem.W.cmp_K (op := .Eq) (tb := .ref C) hr.units0 hF I.ok.mod.kin J J'.type (by simp [PySem.W.notFirst]) hs hf ?_
  refine wpAny_mono (wpAny_call (run_atF (us := [.ref a, .ref b]) (ws := [.ref a, .ref b]) F hb hr I.env0 I (.cons rfl (.cons rfl .nil)) q)) (fun w s' z => ?_) fun _ _ x => x
  obtain ⟨z', H', I', rz, qz⟩ := z
  exact SlX.cmpback rz ⟨z', H', I', rz, qz⟩
theorem call_strO (hs : PySem.W.findIn X.K (.ref C) "__str__" = some (some (.ref f))) (hf : PySem.W.isFn X.K (.ref f) = true) (F : FnOk X.prog X.w X.K X.mg X.base (L2.CX X.prog X.w) k f fd ps sp) (hb : Binds X.K fd ps []) (hr : Room (k + 2) X.A) : CallR X (.type "str") (rStrO C sp) := by
  intro pins s σ H xs us Q I r h
  obtain ⟨a, dx, fs, rfl, ha, q⟩ := h
  obtain ⟨u, rfl, ru⟩ := r.one
  cases (show u = Value.ref a from ru)
  obtain ⟨mA, J, _⟩ := ins_get I.hok ha
  obtain ⟨od, J, _⟩ := J.look
  have hr2 : Room k X.A.in1.in1 := (show Room (k + 1) X.A.in1 from Room.in1 hr).in1
  refine PySem.W.kso_call hr2.units0 I.kIn J hs hf (wpAny_mono (wpAny_call (run_atF (us := [.ref a]) (ws := [.ref a]) F hb hr2 I.env0.in1.in1 I (.cons rfl .nil) q)) (fun w s' z => ?_) fun _ _ x => x)
  obtain ⟨z', H', I', rz, y, rfl, qz⟩ := z
  obtain ⟨t, rfl⟩ := (show ∃ t, w = Value.str y t from rz)
  exact ⟨.str y, H', I', ⟨t, rfl⟩, qz⟩
end
section
variable {K : Fg} {mg : Mg} {W : WX}
theorem any_cls {o : Option D} {c : Str} (h : o.any (isCls c) = true) : ∃ gs, o = some (.ins c gs) := by
  cases o with
  | none => cases h
  | some d =>
    cases d with
    | ins c' gs =>
      have e : c' = c := of_decide_eq_true h
      exact ⟨gs, by rw [e]⟩
    | _ => cases h
theorem w_eqO {c : Str} {C : Addr} (T : ClsAt K mg c C) {n : Nat} {m : List D → Sg → Out D} {a b : ME} (len : ∀ ds S, ds.length ≠ n → m ds S = .no) : ∀ σ H Q, Ee K mg W (e_eqO c m a b) σ H Q → tOp (rEqO K C (SpM K mg n m)) (Ee K mg W a) (Ee K mg W b) σ H Q := by
  intro σ H Q q
  refine (bind2E (f := fun ρ d e S2 => if isLoc d = false ∧ isLoc e = false ∧ (deref ρ S2 d).any (isCls c) = true ∧ (deref ρ S2 e).any (isCls c) = true then noErS (m [d, e] S2) else .no) q).imp fun x H1 g => ?_
  refine g.imp fun y H2 g => ?_
  obtain ⟨O, ad, S, ρ, d, e, s, fr, r1, r2, k⟩ := g
  obtain ⟨⟨c1, c2, c3, c4⟩, k0⟩ := post_if (P := PostE K mg W ρ σ Q O ad H2) (fun z => z) k
  obtain ⟨gs, e1⟩ := any_cls c3
  obtain ⟨hs, e2⟩ := any_cls c4
  obtain ⟨p, C1, dx, fs, rfl, g1, g2, _⟩ := (deref_rep fr s r1 e1).ins
  obtain ⟨p', C2, dy, fs', rfl, k1, k2, _⟩ := (deref_rep fr s r2 e2).ins
  rw [T.at_] at g1 k1
  cases g1
  cases k1
  refine ⟨p, p', dx, dy, fs, fs', rfl, rfl, g2, k2, O, ad, S, [d, e], s, .cons (r1.rep c1) (.cons (r2.rep c2) .nil), ?_, ?_⟩
  · by_cases el : [d, e].length = n
    · exact el
    · rw [len _ S el] at k0; exact k0.elim
  · cases em : m [d, e] S with
    | ok z S' => rw [em] at k0; exact fun v O' ad' H' t z r => k0 v O' ad' H' t z (repR_of r)
    | er x fs S' => rw [em] at k0; exact k0.elim
    | no => rw [em] at k0; exact k0.elim
theorem w_strO {c : Str} {C : Addr} (T : ClsAt K mg c C) {n : Nat} {m : List D → Sg → Out D} {a : ME} (len : ∀ ds S, ds.length ≠ n → m ds S = .no) : ∀ σ H Q, Ee K mg W (e_strO c m a) σ H Q → tCB (rStrO C (SpM K mg n m)) (Ea K mg W (a_cons a a_nil)) σ H Q := by
  rintro σ H Q ⟨O, ad, S, ρ, s, fr, k⟩
  refine ⟨O, ad, S, ρ, s, fr, ?_⟩
  unfold e_strO at k
  unfold a_cons
  cases e : a ρ S with
  | no => rw [e] at k; exact k
  | er x fs S1 => rw [e] at k; exact k
  | ok d S1 =>
    rw [e] at k
    intro vs O1 ad1 H1 t1 s1 r1
    have k1 := PostE.rebase k t1 s.hid s1.dom
    clear k
    have fr1 := fr.step s.hid t1
    obtain ⟨⟨c1, c3⟩, k0⟩ := post_if (P := PostE K mg W ρ σ Q O1 ad1 H1) (fun z => z) k1
    clear k1
    cases r1 with
    | cons rd rn =>
      cases rn
      obtain ⟨gs, e1⟩ := any_cls c3
      obtain ⟨p, C1, dx, fs, rfl, g1, g2, _⟩ := (deref_rep fr1 s1 rd e1).ins
      rw [T.at_] at g1
      cases g1
      refine ⟨p, dx, fs, rfl, g2, O1, ad1, S1, [d], s1, .cons (rd.rep c1) .nil, ?_, ?_⟩
      · by_cases el : [d].length = n
        · exact el
        · rw [len _ S1 el] at k0; exact k0.elim
      · cases em : m [d] S1 with
        | ok z S' =>
          rw [em] at k0
          cases z with
          | str y =>
            intro v O' ad' H' t z r
            cases r
            exact ⟨y, rfl, k0 (.str y) O' ad' H' t z (repR_of (d := .str y) (.str y))⟩
          | _ => exact k0.elim
        | er x fs S' => rw [em] at k0; exact k0.elim
        | no => rw [em] at k0; exact k0.elim
end
section
variable {X : Cx} {W : WX} {k : Nat} {f C : Addr} {fd : FuncData} {ps : List Str} {c : Str} {pos p : Pos} {a b : Expr} {ma mb : ME}
theorem E_eqO {n j : Nat} {mB : MS} (T : ClsAt X.K X.mg c C) (hs : PySem.W.findIn X.K (.ref C) "__eq__" = some (some (.ref f))) (hf : PySem.W.isFn X.K (.ref f) = true) (F : FnOk X.prog X.w X.K X.mg X.base (L2.CX X.prog X.w) k f fd ps (SpM X.K X.mg j (Gd.fn n mB j))) (hb : Binds X.K fd ps []) (hr : Room k X.A)
    (ha : PE X a (Ee X.K X.mg W ma)) (hb' : PE X b (Ee X.K X.mg W mb)) : PE X (.Compare a [.Eq] [b] pos) (Ee X.K X.mg W (e_eqO c (Gd.fn n mB j) ma mb)) := pe_of (pe_cmpR (op_eqO hs hf F hb hr) ha hb' (nomark _)) (w_eqO T fn_len)
theorem E_strO {n j : Nat} {mB : MS} (T : ClsAt X.K X.mg c C) (hs : PySem.W.findIn X.K (.ref C) "__str__" = some (some (.ref f))) (hf : PySem.W.isFn X.K (.ref f) = true) (F : FnOk X.prog X.w X.K X.mg X.base (L2.CX X.prog X.w) k f fd ps (SpM X.K X.mg j (Gd.fn n mB j))) (hb : Binds X.K fd ps []) (hr : Room (k + 2) X.A)
    (hg : Gl X "str") (hm : X.mg "str" = none) (ha : PE X a (Ee X.K X.mg W ma)) (he : starEach (a :: []) X.env = (false, eval a X.env) :: starEach [] X.env := by rfl) (hpl : (backTo pos (starEach [] X.env)).any (·.1) = false := by rfl) :
    PE X (.Call (.Name "str" p) [a] [] pos) (Ee X.K X.mg W (e_strO c (Gd.fn n mB j) ma)) := pe_of (pe_callTy (call_strO hs hf F hb hr) hg hm (by decide +kernel) (A_cons ha A_nil he) (by decide) (by decide) he hpl) (w_strO T fn_len)
end
/-! ### try: .. except C: .. -/
def noExS : OS → OS
  | .ex _ _ _ _ => .no
  | o => o
/-- tc: which classes C catches -/
def s_try (tc : List (Str × Bool)) (b h : MS) : MS := fun ρ S => match b ρ S with
  | .ex x fs ρ' S' => (match tc.lookup x with
    | some true => noExS (h ρ' S')
    | some false => .ex x fs ρ' S'
    | none => .no)
  | o => o
structure TryC (K : Fg) (mg : Mg) (C : Addr) (tc : List (Str × Bool)) : Prop where
  ow : ∀ c b C', tc.lookup c = some b → mg c = some (.ref C') → PySem.W.exmOne K (.ref C') (.ref C) = some b
section
variable {K : Fg} {mg : Mg} {W : WX}
theorem w_try {C : Addr} {tc : List (Str × Bool)} (T : TryC K mg C tc) {b h : MS} : ∀ Dn σ H, Ss K mg W (s_try tc b h) Dn σ H → Ss K mg (wOnly K (.ref C) (fun _ _ _ => Ss K mg W0 h) W Dn) b Dn σ H := by
  rintro Dn σ H ⟨c, O, ad, S, ρ, z, k⟩
  refine ⟨c, O, ad, S, ρ, z, ?_⟩
  unfold s_try at k
  cases e : b ρ S with
  | ex x fs ρ' S' =>
    simp only [e] at k
    intro cls dd σ' O' ad' H' g z' rx
    obtain ⟨X, hX, rfl, more⟩ := id rx
    cases et : tc.lookup x with
    | none => simp only [et] at k; exact k.elim
    | some bb =>
      refine ⟨bb, T.ow x bb X et hX, fun hb a _ => ?_, fun hb => ?_⟩
      · subst hb
        simp only [et] at k
        refine ⟨c, O', ad', S', ρ', z', ?_⟩
        have k' := PostS.rebase k g
        cases eh : h ρ' S' with
        | ex y gs ρ2 S2 => rw [eh] at k'; exact k'.elim
        | nx ρ2 S2 => rw [eh] at k'; exact k'
        | rt d S2 => rw [eh] at k'; exact k'
        | bk ρ2 S2 => rw [eh] at k'; exact k'
        | ct ρ2 S2 => rw [eh] at k'; exact k'
        | no => rw [eh] at k'; exact k'
      · subst hb
        simp only [et] at k
        exact k _ dd σ' O' ad' H' g z' rx
  | nx ρ2 S2 => simp only [e] at k; exact k
  | rt d S2 => simp only [e] at k; exact k
  | bk ρ2 S2 => simp only [e] at k; exact k
  | ct ρ2 S2 => simp only [e] at k; exact k
  | no => simp only [e] at k; exact k.elim
end
section
variable {X : Cx} {W : WX} {x : Str} {C : Addr} {body suite : List Stmt} {b₀ : Stmt} {np pos pos' : Pos} {mb mh : MS} {tc : List (Str × Bool)}
theorem S_try (T : TryC X.K X.mg C tc) (hs : X.stack = X.env :: X.outer) (hf : X.env.frame = some X.env.locals) (hc : Names X x (.ref C)) (tk : Takes X W)
    (hb : ∀ (W : WX) (pn : List (Addr × Obj)) (xe : Value → Shared → Prop), Takes (X.tr pn xe) W → PSs (X.tr pn xe) body (Ss X.K X.mg W mb))
    (hsu : ∀ (a : Addr) (oe : Obj) (pn : List (Addr × Obj)), PSs (X.suite a ((a, oe) :: pn)) (b₀ :: suite) (Ss X.K X.mg W0 mh)) :
    PS X (.Try body [.ExceptHandler (some (.Name x np)) none (b₀ :: suite) pos'] [] [] pos) (Ss X.K X.mg W (s_try tc mb mh)) :=
  ps_of (ps_try_only (tb := fun W => Ss X.K X.mg W mb) (ts := fun _ _ _ => Ss X.K X.mg W0 mh) hs hf hc tk (fun W pn xe t _ => hb W pn xe t) fun a oe cls d pn _ _ => hsu a oe pn) (w_try T)
end
end Gd

/-! Gd, part 17: defs with defaults, the facts of a class. -/
namespace Gd
open PySem L2 PyProof.Rows

theorem sp_start {K : Fg} {mg : Mg} {N : List Str} {n : Nat} {m : MS} {vs : List V} {H : Hp} {Q : VK} {E : XK} (h : SpM K mg n (fnM N.length m) vs H Q E) : Ss K mg (fun cls d _ H' => E cls d H') m { nx := fun _ H' => Q .non H', rt := Q } (start N vs) H := by
  obtain ⟨O, ad, S0, ds, z, r, hl, h⟩ := h
  have hvl : vs.length = ds.length := r.length
  refine ⟨⟨H, ad, O⟩, O, ad, S0, ds.map .va ++ List.replicate (N.length - ds.length) .un, ⟨z, ⟨?_, fun i d e => ?_, fun i d e => ?_, fun i j d e a n h1 => ?_⟩, ⟨fun b o e _ => e, fun _ h => h, fun _ h => .inl h, ⟨[], by simp, fun _ h => nomatch h⟩, z.hid, z.dom⟩, fun i d a e => ?_⟩, ?_⟩
  · unfold L2.start
    simp [hvl]
  · unfold L2.start
    rw [hvl]
    rcases start_va r i _ e with q | ⟨d', v, q, h1, h2⟩
    · cases q
    · cases q; exact ⟨v, h1, h2⟩
  · rcases start_va r i _ e with q | ⟨d', v, q, h1, h2⟩
    · cases q
    · cases q
  · rcases start_va r i _ h1 with q | ⟨d', v, q, h1, h2⟩
    · cases q
    · cases q
  · rcases start_va r i _ e with q | ⟨d', v, q, h1, h2⟩
    · cases q
    · cases q
  · unfold fnM at h
    cases e : m (ds.map .va ++ List.replicate (N.length - ds.length) .un) S0 with
    | nx ρ' S' =>
      simp only [e] at h
      intro σ' O' ad' H' g z'
      obtain ⟨b1, b2, b3⟩ := Cst.back z'.sto z'.cst
      exact h .non _ ad' H' b1 b2 .non
    | rt d S' =>
      simp only [e] at h
      intro v O' ad' H' z' c' r'
      obtain ⟨b1, b2, b3⟩ := Cst.back z' c'
      exact h v _ ad' H' b1 b2 (r'.mono b3 fun _ _ e => e)
    | ex x fs ρ' S' =>
      simp only [e] at h
      intro cls dd σ' O' ad' H' g z' r'
      obtain ⟨b1, b2, b3⟩ := Cst.back z'.sto z'.cst
      obtain ⟨C, q1, q2, q3⟩ := r'
      refine h cls dd _ ad' H' b1 b2 ⟨C, q1, q2, q3.imp id fun ⟨a, vs, q4, q5, q6⟩ => ⟨a, vs, q4, q5, q6.mono b3 fun _ _ e => e⟩⟩
    | bk ρ' S' => simp only [e] at h
    | ct ρ' S' => simp only [e] at h
    | no => simp only [e] at h
theorem def_okD {P : Program} {w : World} {K : Fg} {mg : Mg} {base : Heap} {x qual : Str} {st : Stmt} {f : Addr} {fd : FuncData} {N ps : List Str} {k : Nat} {m : MS} {dvs : List V} {kws : List (Str × V)} (F : FunD K x qual (defArgs st) (defBody st) (defScope st) dvs kws f fd) (S : FnScope N ps (defScope st))
    (hb : ∀ (cdv : Value) (A : Around) (outer : List Env) (s : Shared) (H : Hp) (E : XK), Room k (A.deeper (PyProof.Rows.envOfC qual (defScope st) s.heap.objs.size f cdv)) →
      PSs (cxOf (L2.CX P w) P w K mg base N qual (defScope st) f cdv A outer s H E) (defBody st) (Ss K mg (fun cls d _ H' => E cls d H') m)) :
    FnOk P w K mg base (L2.CX P w) (k + 1) f fd ps (SpM K mg ps.length (Gd.fn N.length m ps.length)) :=
  FnOk.imp (sp := SpM K mg ps.length (fnM N.length m)) (F.ok S (fun vs H Q E h => by
    obtain ⟨O, ad, S0, ds, z, r, hl, _⟩ := h
    rw [r.length, hl]) fun cdv A outer s H vs Q E hr h => ⟨_, hb cdv A outer s H E hr, sp_start h⟩) SpM.fn
section
variable {K : Fg} {x qual : Str} {params : Arguments} {body : List Stmt} {scope : Scope} {dvs : List V} {kws : List (Str × V)} {f : Addr} {fd : FuncData} {ps : List Str}
/-- every parameter is written, though there are defaults -/
theorem binds_full (F : FunD K x qual params body scope dvs kws f fd) (hd : dvs ≠ []) (h : ∀ (T : Addr) (kV doc pm : Value) (an : Option Addr) (cdv ct : Value) (us its : List Value), us.length = ps.length → its.length = dvs.length →
      ∃ k, bindArgs (PySem.W.fnOf x qual params body scope (.ref T) kV doc pm an cdv ct) ⟨us, []⟩ = seqItems? (.ref T) >>= k ∧ k (some its.toArray) = pure (ps.zip us)) : Binds K fd ps [] := by
  obtain ⟨ds, r, b⟩ := F.binds1 ps.length dvs.length hd (by rw [Nat.sub_self]; rfl) fun T kV doc pm an cdv ct us its h1 h2 => by
    obtain ⟨k, e1, e2⟩ := h T kV doc pm an cdv ct us its h1 h2
    exact ⟨k, e1, by rw [e2, ← h2, List.drop_length, List.append_nil]⟩
  rw [List.drop_length] at r
  cases r
  exact b
theorem fund_mk {st : Stmt} {oc : Value} {od an : Option Addr} {osl : Array (Option Value)} {dV kV doc pm cdv ct : Value} (l : K.lookup f = some ⟨oc, od, .func (PySem.W.fnOf x qual (defArgs st) (defBody st) (defScope st) dV kV doc pm an cdv ct), osl⟩) (c : PySem.W.codeIn K cdv qual = true) (k : PySem.W.keepIn K (.ref f) = true)
    (d1 : DflV K dV dvs) (d2 : KwdV K kV kws) : FunD K x qual (defArgs st) (defBody st) (defScope st) dvs kws f (PySem.W.fnOf x qual (defArgs st) (defBody st) (defScope st) dV kV doc pm an cdv ct) := ⟨⟨oc, od, dV, kV, doc, pm, an, cdv, ct, osl, rfl, l, c, d1, d2⟩, k⟩
/-- an empty tuple of the written part -/
theorem rep_unit {mg : Mg} {a : Addr} {od : Option Addr} {sl : Array (Option Value)} {n : Nat} (l : K.lookup a = some ⟨.type "tuple", od, .seq #[] n, sl⟩) : ∀ G ad, Rep K mg G ad (.ref a) (.tup []) := rep_tup (xs := []) l (show 0 ≤ sizeLine by decide) .nil fun _ _ => .nil
end
end Gd

/-! Gd, part 18: what the printed walks lean on. -/
namespace Gd
open PySem L2 PyProof.Rows

theorem reps_at {K : Fg} {mg : Mg} {G : Hp} {ad : List Addr} {vs : List V} {ds : List D} (h : Reps K mg G ad vs ds) (i : Nat) : Reps K mg G ad (vs[i]?).toList (ds[i]?).toList := by
  cases e : ds[i]? with
  | none =>
    have : vs[i]? = none := by
      rw [List.getElem?_eq_none_iff] at e ⊢
      rw [h.length]; exact e
    rw [this]; exact .nil
  | some d =>
    obtain ⟨v, e2, r⟩ := h.get e
    rw [e2]; exact .cons r .nil
theorem vals_at {vs : List V} {us : List Value} (h : Vals vs us) (i : Nat) : Vals (vs[i]?).toList (us[i]?).toList := by
  induction h generalizing i with
  | nil => exact .nil
  | cons a b ih =>
    cases i with
    | zero => exact .cons a .nil
    | succ i => exact ih i
theorem tab_all {α β : Type} [BEq α] [LawfulBEq α] {P : α → β → Prop} {l : List (α × β)} (h : ∀ p ∈ l, P p.1 p.2) (n : α) (b : β) (e : l.lookup n = some b) : P n b := by
  induction l with
  | nil => cases e
  | cons p l ih =>
    obtain ⟨x, y⟩ := p
    rw [List.lookup_cons] at e
    cases q : n == x with
    | true =>
      rw [q] at e
      have e2 : y = b := Option.some.inj e
      have := eq_of_beq q
      subst this e2
      exact h _ (List.mem_cons_self ..)
    | false =>
      rw [q] at e
      exact ih (fun p hp => h p (List.mem_cons_of_mem _ hp)) e
section
variable {K : Fg} {x qual : Str} {params : Arguments} {body : List Stmt} {scope : Scope} {kws : List (Str × V)} {f : Addr} {fd : FuncData}
/-- a call that leaves out nothing, of a def without positional defaults -/
theorem kb_plain (F : FunD K x qual params body scope [] kws f fd) (n : Nat) (ks ps : List Str) (g : {α : Type} → List α → List α → List α)
    (hrel : ∀ {vs zs : List V} {us ws : List Value}, Vals vs us → Vals zs ws → Vals (g vs zs) (g us ws))
    (h : ∀ (kV doc pm : Value) (an : Option Addr) (cdv ct : Value) (us ws : List Value), us.length = n → ws.length = ks.length → bindArgs (PySem.W.fnOf x qual params body scope .none kV doc pm an cdv ct) ⟨us, ks.zip ws⟩ = pure (ps.zip (g us ws))) :
    KBn K fd ps n ks (fun us ws => g us ws) (fun vs zs => g vs zs) := by
  obtain ⟨oc, od, dV, kV, doc, pm, an, cdv, ct, osl, rfl, lk, hcd, hD, hK⟩ := F.ex
  rcases hD with ⟨_, rfl⟩ | ⟨e, _⟩
  · exact ⟨fun s us ws _ l1 l2 => .of_eq (h kV doc pm an cdv ct us ws l1 l2), fun r1 r2 => hrel r1 r2⟩
  · exact absurd rfl e
end
theorem kit_sub {K : Fg} {C : Addr} {t : Value} {b : Bool} (h1 : PySem.W.isClsIn K C = true) (h2 : PySem.W.typeIn K (.ref C) = some (.type "type")) (hn : (t == Value.ref C) = false) (h3 : PySem.W.subIn K t (.ref C) = some b) : PySem.W.kitOne K t (.ref C) = some b := by
  unfold PySem.W.kitOne
  rw [hn, if_neg Bool.false_ne_true]
  unfold PySem.W.kitCls
  have h4 : (PySem.W.clsIn K C).isSome = true := h1
  simp only [h4, h2]
  exact h3
theorem kit_self {K : Fg} {C : Addr} : PySem.W.kitOne K (.ref C) (.ref C) = some true := by
  unfold PySem.W.kitOne
  rw [if_pos (by simp)]
/-! ### len(set(xs)) -/
def keysOf : List D → Option (List Key)
  | [] => some []
  | d :: ds => match keyOf d, keysOf ds with
    | some k, some ks => some (k :: ks)
    | _, _ => none
def d_lenset : D → Option D := fun d => match d with
  | .lst ds => (keysOf ds).bind fun ks => if ks.length ≤ 4000 then some (.int ((dd [] ks).length : Nat)) else none
  | .tup ds => (keysOf ds).bind fun ks => if ks.length ≤ 4000 then some (.int ((dd [] ks).length : Nat)) else none
  | _ => none
theorem keysOf_V {K : Fg} {mg : Mg} {G : Hp} {ad : List Addr} : ∀ {vs : List V} {ds : List D} {ks : List Key}, Reps K mg G ad vs ds → keysOf ds = some ks → vs = ks.map kV
  | _, _, _, .nil, e => by cases e; rfl
  | _, _, _, .cons r t, e => by
    unfold keysOf at e
    split at e
    · rename_i k ks h1 h2
      cases e
      rw [keyOf_V r h1, keysOf_V t h2]
      rfl
    · cases e
section
variable {X : Cx} {W : WX} {a : Expr} {p p2 q pos : Pos} {m : ME}
theorem E_lenK (hg : Gl X "len") (hm : X.mg "len" = none) (hg2 : Gl X "set") (hm2 : X.mg "set" = none) (ha : PE X a (Ee X.K X.mg W m)) (hc : X.calm = true := by rfl)
    (na : starEach [a] X.env = (false, eval a X.env) :: starEach [] X.env := by rfl) : PE X (.Call (.Name "len" p) [.Call (.Name "set" p2) [a] [] q] [] pos) (Ee X.K X.mg W (e_op1 d_lenset m)) :=
  pe_of (pe_lenK hg hm hg2 hm2 ha hc na) fun σ H Q qq => by
    refine (bindE (f := fun ρ d S1 => liftO S1 ((deref ρ S1 d).bind d_lenset)) qq).imp fun x H1 g => ?_
    obtain ⟨O, ad, S, ρ, d, s, fr, r1, k⟩ := g
    obtain ⟨z, ez⟩ := liftO_ok k
    obtain ⟨d', ed, ez⟩ := Option.bind_eq_some_iff.mp ez
    rw [ed] at k
    simp only [Option.bind_some, ez, liftO] at k
    have rx := deref_rep fr s r1 ed
    have fin : ∀ (ks : List Key), (if ks.length ≤ 4000 then some (D.int ((dd [] ks).length : Nat)) else none) = some z → ks.length ≤ 4000 ∧ Q (.int ((dd [] ks).length : Nat)) H1 := fun ks e => by
      split at e
      · rename_i hl
        cases e
        exact ⟨hl, k (.int _) O ad H1 (.refl _ _ _) s (repR_of (d := .int _) (.int _))⟩
      · cases e
    cases d' with
    | lst ds =>
      obtain ⟨ks, h1, h2⟩ := Option.bind_eq_some_iff.mp (show (keysOf ds).bind _ = some z from ez)
      obtain ⟨l, vs, rfl, g1, g2⟩ := rx.lst
      obtain ⟨f1, f2⟩ := fin ks h2
      exact ⟨l, ks, rfl, .inl (by rw [← keysOf_V g2 h1]; exact g1), f1, f2⟩
    | tup ds =>
      obtain ⟨ks, h1, h2⟩ := Option.bind_eq_some_iff.mp (show (keysOf ds).bind _ = some z from ez)
      obtain ⟨l, vs, rfl, g1, g2⟩ := rx.tup
      obtain ⟨f1, f2⟩ := fin ks h2
      exact ⟨l, ks, rfl, .inr (by rw [← keysOf_V g2 h1]; exact g1), f1, f2⟩
    | _ => cases ez
end
/-! ### a, b = x, y -/
def s_par (i j : Nat) (r : MA) : MS := fun ρ S => match r ρ S with
  | .ok [x, y] S1 => if isLoc x = true ∨ isLoc y = true then .no else .nx ((ρ.set i (.va x)).set j (.va y)) S1
  | .ok _ _ => .no
  | .er x fs S1 => .ex x fs ρ S1
  | .no => .no
theorem w_par {K : Fg} {mg : Mg} {W : WX} {i j : Nat} {r : MA} : ∀ Dn σ H, Ss K mg W (s_par i j r) Dn σ H → tPar i j (Ea K mg W r) Dn σ H := by
  rintro Dn σ H ⟨c, O, ad, S, ρ, z, k⟩
  refine ⟨O, ad, S, ρ, z.sto, z.fre, ?_⟩
  unfold s_par at k
  cases e : r ρ S with
  | ok ds S1 =>
    simp only [e] at k
    intro vs O' ad' H' t z' rr
    cases rr with
    | nil => exact k.elim
    | @cons v x vs ds rx rr =>
      cases rr with
      | nil => exact k.elim
      | @cons w y vs ds ry rr =>
        cases rr with
        | cons _ _ => exact k.elim
        | nil =>
          dsimp only at k
          split at k
          · exact k.elim
          · rename_i hc
            have hx : isLoc x = false := Bool.eq_false_iff.mpr fun q => hc (.inl q)
            have hy : isLoc y = false := Bool.eq_false_iff.mpr fun q => hc (.inr q)
            exact ⟨v, w, rfl, k _ _ _ _ (t.grow z.sto.hid) (((z.step t z').set_va (rx.rep hx)).set_va (ry.rep hy))⟩
  | er x fs S1 =>
    simp only [e] at k
    exact fun cls dd O' ad' H' t z' r => k cls dd σ O' ad' H' (t.grow z.sto.hid) (z.step t z') r
  | no => simp only [e] at k; exact k
theorem S_par {X : Cx} {W : WX} {i j : Nat} {x y : Str} {a b : Expr} {r : MA} {px py pt pos : Pos} {kt k2 pt2} (hc : X.calm = true) (hN : X.N.Nodup) (hi : X.N[i]? = some x) (hj : X.N[j]? = some y) (hij : i ≠ j)
    (hx : X.env.scope.names.lookup x = some .local) (hy : X.env.scope.names.lookup y = some .local) (ha : PA X [a, b] (Ea X.K X.mg W r))
    (hw : swappedStores [.Tuple [.Name x px, .Name y py] kt pt] (.Tuple [a, b] k2 pt2) X.env = pure (some [x, y]) := by rfl)
    (hs : swapsWithSole [.Tuple [.Name x px, .Name y py] kt pt] (.Tuple [a, b] k2 pt2) pos.line X.env = pure false := by rfl) :
    PS X (.Assign [.Tuple [.Name x px, .Name y py] kt pt] (.Tuple [a, b] k2 pt2) pos) (Ss X.K X.mg W (s_par i j r)) := ps_of (ps_par hc hN hi hj hij hx hy ha hw hs) w_par
theorem T_eqO {X : Cx} {W : WX} {k : Nat} {f C : Addr} {fd : FuncData} {ps : List Str} {c : Str} {pos : Pos} {a b : Expr} {ma mb : ME} {n j : Nat} {mB : MS} (T : ClsAt X.K X.mg c C) (hs : PySem.W.findIn X.K (.ref C) "__eq__" = some (some (.ref f))) (hf : PySem.W.isFn X.K (.ref f) = true) (F : FnOk X.prog X.w X.K X.mg X.base (L2.CX X.prog X.w) k f fd ps (SpM X.K X.mg j (Gd.fn n mB j))) (hb : Binds X.K fd ps []) (hr : Room k X.A)
    (ha : PE X a (Ee X.K X.mg W ma)) (hb' : PE X b (Ee X.K X.mg W mb)) : PT X (.Compare a [.Eq] [b] pos) (Et X.K X.mg W (t_e (e_eqO c (Gd.fn n mB j) ma mb))) := pt_of (pt_cmpR (op_eqO hs hf F hb hr) ha hb' (nomark _)) (w_test (w_eqO T fn_len))
end Gd

/-! Gm, part 1: what a mirror answers, read forwards. No program in sight. -/
namespace Gd
open PySem L2 PyProof.Rows

def Out.W {α : Type} (o : Out α) (Q : α → Sg → Prop) : Prop := match o with
  | .ok a S => Q a S
  | _ => False
theorem iteF_and {c : Prop} [Decidable c] {q : Prop} : (if c then q else False) = (c ∧ q) := by
  by_cases h : c
  · rw [if_pos h]; exact propext ⟨fun q => ⟨h, q⟩, fun q => q.2⟩
  · rw [if_neg h]; exact propext ⟨fun q => q.elim, fun q => (h q.1).elim⟩
@[simp] theorem ex_pe {β : Type} {c : Prop} {a : β} {q : β → Prop} : (∃ z, (c ∧ a = z) ∧ q z) = (c ∧ q a) := propext ⟨fun ⟨_, ⟨h, e⟩, k⟩ => by subst e; exact ⟨h, k⟩, fun ⟨h, k⟩ => ⟨_, ⟨h, rfl⟩, k⟩⟩
/-- statements: what goes on, what is returned -/
def OS.W (o : OS) (nx : Ro → Sg → Prop) (rt : D → Sg → Prop) : Prop := match o with
  | .nx ρ S => nx ρ S
  | .rt d S => rt d S
  | _ => False
theorem Out.W.mono {α : Type} {o : Out α} {Q Q' : α → Sg → Prop} (h : o.W Q) (k : ∀ a S, Q a S → Q' a S) : o.W Q' := by
  cases o with
  | ok a S => exact k _ _ h
  | er x fs S => exact h.elim
  | no => exact h.elim
theorem OS.W.mono {o : OS} {nx nx' : Ro → Sg → Prop} {rt rt' : D → Sg → Prop} (h : o.W nx rt) (k : ∀ a S, nx a S → nx' a S) (k' : ∀ a S, rt a S → rt' a S) : o.W nx' rt' := by
  cases o with
  | nx a S => exact k _ _ h
  | rt a S => exact k' _ _ h
  | _ => exact h.elim
theorem Out.W.eq {α : Type} {o : Out α} {Q : α → Sg → Prop} (h : o.W Q) : ∃ a S, o = .ok a S ∧ Q a S := by
  cases o with
  | ok a S => exact ⟨a, S, rfl, h⟩
  | er x fs S => exact h.elim
  | no => exact h.elim
section
variable {α β : Type} {ρ : Ro} {S : Sg} {Q : D → Sg → Prop} {nx : Ro → Sg → Prop} {rt : D → Sg → Prop}
@[simp] theorem W_ok (a : α) (S : Sg) (Q : α → Sg → Prop) : (Out.ok a S).W Q = Q a S := rfl
@[simp] theorem W_no (Q : α → Sg → Prop) : (Out.no).W Q = False := rfl
@[simp] theorem W_bind (o : Out α) (f : α → Sg → Out β) (Q : β → Sg → Prop) : (o.bind f).W Q = o.W fun a S => (f a S).W Q := by cases o <;> rfl
@[simp] theorem W_liftO (o : Option D) : (liftO S o).W Q = ∃ z, o = some z ∧ Q z S := by
  cases o with
  | none => exact propext ⟨fun h => h.elim, fun ⟨_, h, _⟩ => nomatch h⟩
  | some z => exact propext ⟨fun h => ⟨z, rfl, h⟩, fun ⟨_, h, q⟩ => by cases h; exact q⟩
@[simp] theorem W_liftI (o : Option (List D)) (Q : List D → Sg → Prop) : (liftI S o).W Q = ∃ z, o = some z ∧ Q z S := by
  cases o with
  | none => exact propext ⟨fun h => h.elim, fun ⟨_, h, _⟩ => nomatch h⟩
  | some z => exact propext ⟨fun h => ⟨z, rfl, h⟩, fun ⟨_, h, q⟩ => by cases h; exact q⟩
@[simp] theorem W_liftB (b : Bool) (Q : Bool → Sg → Prop) : (liftB S (.bl b)).W Q = Q b S := rfl
@[simp] theorem W_ite {c : Prop} [Decidable c] (a b : Out α) (Q : α → Sg → Prop) : (if c then a else b).W Q = if c then a.W Q else b.W Q := by split <;> rfl
@[simp] theorem W_c (d : D) : (e_c d ρ S).W Q = Q d S := rfl
@[simp] theorem W_op1 (f : D → Option D) (a : ME) : (e_op1 f a ρ S).W Q = (a ρ S).W fun d S1 => ∃ z, ((deref ρ S1 d).bind f) = some z ∧ Q z S1 := by simp [e_op1]
@[simp] theorem W_op2 (f : D → D → Option D) (a b : ME) : (e_op2 f a b ρ S).W Q = (a ρ S).W fun d S1 => (b ρ S1).W fun e S2 => ∃ z, ((deref ρ S2 d).bind fun d' => (deref ρ S2 e).bind fun e' => f d' e') = some z ∧ Q z S2 := by simp [e_op2]
@[simp] theorem W_te (m : ME) (Q : Bool → Sg → Prop) : (t_e m ρ S).W Q = (m ρ S).W fun d S1 => (liftB S1 d).W Q := by simp [t_e]
@[simp] theorem W_tnot (t : MT) (Q : Bool → Sg → Prop) : (t_not t ρ S).W Q = (t ρ S).W fun b S1 => Q (!b) S1 := by simp [t_not]
@[simp] theorem W_tand (t u : MT) (Q : Bool → Sg → Prop) : (t_and t u ρ S).W Q = (t ρ S).W fun b S1 => if b = true then (u ρ S1).W Q else Q false S1 := by simp [t_and]
@[simp] theorem W_tor (t u : MT) (Q : Bool → Sg → Prop) : (t_or t u ρ S).W Q = (t ρ S).W fun b S1 => if b = true then Q true S1 else (u ρ S1).W Q := by simp [t_or]
@[simp] theorem W_tyes (Q : Bool → Sg → Prop) : (t_yes ρ S).W Q = Q true S := rfl
@[simp] theorem W_eif (t : MT) (a b : ME) : (e_if t a b ρ S).W Q = (t ρ S).W fun c S1 => if c = true then (a ρ S1).W Q else (b ρ S1).W Q := by simp [e_if]
@[simp] theorem W_enot (m : ME) : (e_not m ρ S).W Q = (m ρ S).W fun d S1 => (liftB S1 d).W fun b S2 => Q (.bl (!b)) S2 := by simp [e_not]
@[simp] theorem W_eand (a b : ME) : (e_and a b ρ S).W Q = (a ρ S).W fun d S1 => (liftB S1 d).W fun c S2 => if c = true then (b ρ S2).W Q else Q (.bl false) S2 := by simp [e_and]
@[simp] theorem W_eor (a b : ME) : (e_or a b ρ S).W Q = (a ρ S).W fun d S1 => (liftB S1 d).W fun c S2 => if c = true then Q (.bl true) S2 else (b ρ S2).W Q := by simp [e_or]
@[simp] theorem W_anil (Q : List D → Sg → Prop) : (a_nil ρ S).W Q = Q [] S := rfl
@[simp] theorem W_acons (m : ME) (r : MA) (Q : List D → Sg → Prop) : (a_cons m r ρ S).W Q = (m ρ S).W fun d S1 => (r ρ S1).W fun ds S2 => Q (d :: ds) S2 := by simp [a_cons]
@[simp] theorem W_sh (m : ME) : (e_sh m ρ S).W Q = (m ρ S).W fun d S1 => Q (.obj S1.length) (S1 ++ [d]) := by simp [e_sh]
@[simp] theorem W_lst (r : MA) : (f_lst r ρ S).W Q = (r ρ S).W fun ds S1 => (noLoc ds = true ∧ ds.length ≤ 100000) ∧ Q (.lst ds) S1 := by
  simp only [f_lst, W_bind, W_ite, W_ok, W_no, iteF_and]
@[simp] theorem W_tup (r : MA) : (e_tup r ρ S).W Q = (r ρ S).W fun ds S1 => (noLoc ds = true ∧ ds.length ≤ 100000) ∧ Q (.tup ds) S1 := by
  simp only [e_tup, W_bind, W_ite, W_ok, W_no, iteF_and]
@[simp] theorem W_call (m : List D → Sg → Out D) (r : MA) : (e_call m r ρ S).W Q = (r ρ S).W fun ds S1 => noLoc ds = true ∧ (m ds S1).W Q := by
  simp only [e_call, W_bind, W_ite, W_ok, W_no, iteF_and]
@[simp] theorem W_callK (m : List D → Sg → Out D) (g : List D → List D → List D) (r rk : MA) : (e_callK m g r rk ρ S).W Q = (r ρ S).W fun ds S1 => (rk ρ S1).W fun es S2 => (noLoc ds = true ∧ noLoc es = true) ∧ (m (g ds es) S2).W Q := by
  simp only [e_callK, W_bind, W_ite, W_ok, W_no, iteF_and]
@[simp] theorem W_cb (f : List D → Option D) (r : MA) : (e_cb f r ρ S).W Q = (r ρ S).W fun ds S1 => ∃ z, ((derefL ρ S1 ds).bind f) = some z ∧ Q z S1 := by simp [e_cb]
@[simp] theorem W_chain (f g : D → D → Option D) (a b c : ME) : (e_chain f g a b c ρ S).W Q = (a ρ S).W fun d S1 => (b ρ S1).W fun e S2 => ∃ k, ((deref ρ S2 d).bind fun d' => (deref ρ S2 e).bind fun e' => f d' e') = some k ∧ (liftB S2 k).W fun kk S4 => if kk = true then (c ρ S4).W fun h S5 => ∃ z, ((deref ρ S5 e).bind fun e' => (deref ρ S5 h).bind fun h' => g e' h') = some z ∧ Q z S5 else Q (.bl false) S4 := by
  simp [e_chain]
@[simp] theorem W_oe (m : ME) (Q : Option Int → Sg → Prop) : (o_e m ρ S).W Q = (m ρ S).W fun d S1 => ∃ i, d = .int i ∧ Q (some i) S1 := by
  simp only [o_e, W_bind]
  congr 1; funext d S1
  cases d <;> simp
@[simp] theorem W_ono (Q : Option Int → Sg → Prop) : (o_no ρ S).W Q = Q none S := rfl
@[simp] theorem W_sl (f : D → Option Int → Option Int → Option D) (a : ME) (lo hi : MO) : (e_sl f a lo hi ρ S).W Q = (a ρ S).W fun d S1 => (lo ρ S1).W fun l S2 => (hi ρ S2).W fun h S3 => ∃ z, ((deref ρ S3 d).bind fun d' => f d' l h) = some z ∧ Q z S3 := by simp [e_sl]
@[simp] theorem W_m1 (f : Str → D → Option D) (a b : ME) : (e_m1 f a b ρ S).W Q = (a ρ S).W fun d S1 => ∃ x, d = .str x ∧ (b ρ S1).W fun e S2 => ∃ z, ((deref ρ S2 e).bind (f x)) = some z ∧ Q z S2 := by
  simp only [e_m1, W_bind]
  congr 1; funext d S1
  cases d <;> simp
@[simp] theorem W_iG (m : ME) (Q : List D → Sg → Prop) : (i_seqG m ρ S).W Q = (m ρ S).W fun d S1 => ∃ z, itemsG d = some z ∧ Q z S1 := by simp [i_seqG]
@[simp] theorem W_iC (m : ME) (Q : List D → Sg → Prop) : (i_seqC m ρ S).W Q = (m ρ S).W fun d S1 => ∃ z, itemsC ρ d = some z ∧ Q z S1 := by simp [i_seqC]
@[simp] theorem W_rng (r : MA) (Q : List D → Sg → Prop) : (i_rng r ρ S).W Q = (r ρ S).W fun ds S1 => ∃ z, rngOf ds = some z ∧ Q z S1 := by simp [i_rng]
theorem W_noEr (o : Out α) (Q : α → Sg → Prop) : (noEr o).W Q = o.W Q := by cases o <;> rfl
@[simp] theorem W_disp (l : List (ME × ME)) : (f_disp l ρ S).W Q = (pairsM l ρ S).W fun kvs S1 => kvs.length ≤ 15 ∧ Q (.dct (kmerge [] kvs)) S1 := by
  simp only [f_disp, W_bind, W_ite, W_ok, W_no, iteF_and]
@[simp] theorem W_pnil (Q : List (Key × D) → Sg → Prop) : (pairsM [] ρ S).W Q = Q [] S := rfl
@[simp] theorem W_pcons (k v : ME) (l : List (ME × ME)) (Q : List (Key × D) → Sg → Prop) : (pairsM ((k, v) :: l) ρ S).W Q = (k ρ S).W fun kd S1 => (v ρ S1).W fun vd S2 => ∃ key, keyOf kd = some key ∧ isLoc vd = false ∧ (pairsM l ρ S2).W fun ps S3 => Q ((key, vd) :: ps) S3 := by
  simp only [pairsM, W_bind]
  congr 1; funext d S1; congr 1; funext e S2
  cases keyOf d with
  | none => simp
  | some key => cases h : isLoc e <;> simp
/-! ### statements -/
@[simp] theorem W_fn (n k : Nat) (b : MS) (ds : List D) : (fn n b k ds S).W Q = (ds.length = k ∧ (b (ds.map .va ++ List.replicate (n - ds.length) .un) S).W (fun _ S => Q .non S) Q) := by
  unfold Gd.fn
  split
  · next h =>
    simp only [h, true_and]
    unfold fnM
    simp only [h]
    cases b (ds.map .va ++ List.replicate (n - k) .un) S <;> rfl
  · next h => simp [h]
@[simp] theorem W_nx : (s_nx ρ S).W nx rt = nx ρ S := rfl
@[simp] theorem W_seq (a b : MS) : (s_seq a b ρ S).W nx rt = (a ρ S).W (fun ρ S => (b ρ S).W nx rt) rt := by
  unfold s_seq
  cases a ρ S <;> rfl
theorem W_se (m : ME) (f : D → MS) : (s_e m f ρ S).W nx rt = (m ρ S).W fun d S1 => (f d ρ S1).W nx rt := by
  unfold s_e
  cases m ρ S <;> rfl
theorem W_st (m : MT) (f : Bool → MS) : (s_t m f ρ S).W nx rt = (m ρ S).W fun d S1 => (f d ρ S1).W nx rt := by
  unfold s_t
  cases m ρ S <;> rfl
@[simp] theorem W_if (t : MT) (a b : MS) : (s_if t a b ρ S).W nx rt = (t ρ S).W fun c S1 => if c = true then (a ρ S1).W nx rt else (b ρ S1).W nx rt := by
  unfold s_if
  rw [W_st]
  congr 1; funext c S1
  split <;> rfl
@[simp] theorem W_set (i : Nat) (m : ME) : (s_set i m ρ S).W nx rt = (m ρ S).W fun d S1 => isLoc d = false ∧ nx (ρ.set i (.va d)) S1 := by
  unfold s_set
  rw [W_se]
  congr 1; funext d S1
  cases h : isLoc d <;> simp [OS.W]
@[simp] theorem W_own (i : Nat) (m : ME) : (s_own i m ρ S).W nx rt = (m ρ S).W fun d S1 => nx (ρ.set i (.ow d)) S1 := by
  unfold s_own
  rw [W_se]; rfl
@[simp] theorem W_do (m : ME) : (s_do m ρ S).W nx rt = (m ρ S).W fun d S1 => nx ρ S1 := by
  unfold s_do
  rw [W_se]; rfl
@[simp] theorem W_ret (m : ME) : (s_ret m ρ S).W nx rt = (m ρ S).W fun d S1 => if isLoc d = true then ∃ e, deref ρ S1 d = some e ∧ rt e S1 else rt d S1 := by
  unfold s_ret
  rw [W_se]
  congr 1; funext d S1
  cases d <;> simp [OS.W, isLoc]
  case loc i =>
    cases e : deref ρ S1 (.loc i) <;> simp [OS.W]
@[simp] theorem W_retN : (s_retN ρ S).W nx rt = rt .non S := rfl
theorem W_putTo (dd : D) (f : D → Option D) : (putTo dd f ρ S).W nx rt = match dd with
    | .loc i => ∃ c c', ρ[i]? = some (.ow c) ∧ f c = some c' ∧ nx (ρ.set i (.ow c')) S
    | .obj n => ∃ c c', S[n]? = some c ∧ f c = some c' ∧ nx ρ (S.set n c')
    | _ => False := by
  cases dd <;> simp only [putTo] <;> try rfl
  case obj n =>
    cases e : S[n]? with
    | none => simp [OS.W]
    | some c => cases e2 : f c <;> simp [OS.W, e2]
  case loc i =>
    cases e : ρ[i]? with
    | none => simp [OS.W]
    | some c =>
      cases c with
      | ow c => cases e2 : f c <;> simp [OS.W, e2]
      | _ => simp [OS.W]
@[simp] theorem W_seti (mv mo mi : ME) : (s_seti mv mo mi ρ S).W nx rt = (mv ρ S).W fun dv S1 => (mo ρ S1).W fun dd S2 => (mi ρ S2).W fun di S3 => isLoc dv = false ∧ (putTo dd (updI di dv) ρ S3).W nx rt := by
  unfold s_seti
  rw [W_se]
  congr 1; funext d S1
  rw [W_se]
  congr 1; funext d2 S2
  rw [W_se]
  congr 1; funext d3 S3
  cases h : isLoc d <;> simp [OS.W]
@[simp] theorem W_app (mo me : ME) : (s_app mo me ρ S).W nx rt = (mo ρ S).W fun dd S1 => isLstAt ρ S1 dd = true ∧ (me ρ S1).W fun de S2 => isLoc de = false ∧ (putTo dd (appD de) ρ S2).W nx rt := by
  unfold s_app
  rw [W_se]
  congr 1; funext d S1
  cases h : isLstAt ρ S1 d with
  | false => simp [OS.W]
  | true =>
    simp only [if_true, true_and]
    rw [W_se]
    congr 1; funext d2 S2
    cases h : isLoc d2 <;> simp [OS.W]
/-- one statement at a time: what comes behind is out of sight -/
theorem seq_of {a b : MS} (h : ∀ N : Ro → Sg → Prop, (∀ ρ S, (b ρ S).W nx rt → N ρ S) → (a ρ S).W N rt) : (s_seq a b ρ S).W nx rt := by
  rw [W_seq]
  exact h _ fun _ _ h => h
/-- a for loop by an invariant over what is gone and what is to come -/
theorem W_for {mi : MI} {tgt : D → Ro → Option Ro} {b : MS} (I : List D → Ro → Sg → Prop)
    (h : (mi ρ S).W fun ds S1 => I ds ρ S1)
    (hb : ∀ d ds ρ S, I (d :: ds) ρ S → ∃ ρ1, tgt d ρ = some ρ1 ∧ (b ρ1 S).W (I ds) rt)
    (he : ∀ ρ S, I [] ρ S → nx ρ S) : (s_for mi tgt b ρ S).W nx rt := by
  unfold s_for
  obtain ⟨ds, S1, e, h⟩ := h.eq
  rw [e]
  have main : ∀ (ds : List D) (ρ : Ro) (S1 : Sg), I ds ρ S1 → (s_loop tgt b ds ρ S1).W nx rt := by
    intro ds
    induction ds with
    | nil => exact fun ρ S1 h => he _ _ h
    | cons d ds ih =>
      intro ρ S1 h
      obtain ⟨ρ1, e, k⟩ := hb d ds ρ S1 h
      unfold s_loop
      rw [e]
      show (match b ρ1 S1 with
        | OS.nx ρ2 S2 => s_loop tgt b ds ρ2 S2
        | OS.ct ρ2 S2 => s_loop tgt b ds ρ2 S2
        | OS.bk ρ2 S2 => OS.nx ρ2 S2
        | o => o).W nx rt
      cases e2 : b ρ1 S1 with
      | nx ρ2 S2 => rw [e2] at k; exact ih _ _ k
      | rt d S2 => rw [e2] at k; exact k
      | _ => rw [e2] at k; exact k.elim
  exact main ds ρ S1 h
/-- a comprehension: what each item gives -/
theorem W_lc {vs : List Nat} {mi : MI} {tgt : D → Ro → Option Ro} {t : MT} {e : ME} (I : List D → List D → Sg → Prop)
    (h : (mi ρ S).W fun ds S1 => I [] ds S1)
    (hb : ∀ ys d ds S, I ys (d :: ds) S → ∃ ρ1, tgt d (wipeR ρ vs) = some ρ1 ∧ (t ρ1 S).W fun b S1 => if b = true then (e ρ1 S1).W fun y S2 => isLoc y = false ∧ I (ys ++ [y]) ds S2 else I ys ds S1)
    (he : ∀ ys S, I ys [] S → ys.length ≤ 100000 ∧ Q (.lst ys) S) : (f_lc vs mi tgt t e ρ S).W Q := by
  unfold f_lc
  rw [W_bind]
  refine h.mono fun ds S1 h => ?_
  rw [W_bind]
  have main : ∀ ds ys S1, I ys ds S1 → (lcL tgt t e (wipeR ρ vs) ds S1).W fun zs S2 => I (ys ++ zs) [] S2 := by
    intro ds
    induction ds with
    | nil =>
      intro ys S1 h
      show I (ys ++ []) [] S1
      rw [List.append_nil]; exact h
    | cons d ds ih =>
      intro ys S1 h
      obtain ⟨ρ1, e1, k⟩ := hb ys d ds S1 h
      unfold lcL
      rw [e1]
      show (Out.bind _ _).W _
      rw [W_bind, W_noEr]
      refine k.mono fun b S2 k => ?_
      cases b with
      | false => exact ih _ _ k
      | true =>
        simp only [if_true] at k ⊢
        rw [W_bind, W_noEr]
        refine k.mono fun y S3 k => ?_
        rw [if_neg (by rw [k.1]; simp)]
        rw [W_bind]
        refine (ih _ _ k.2).mono fun zs S4 k => ?_
        show I (ys ++ (y :: zs)) [] S4
        rw [List.append_assoc] at k
        exact k
  refine (main ds [] S1 h).mono fun zs S2 k => ?_
  obtain ⟨h1, h2⟩ := he _ _ k
  rw [List.nil_append] at h1 h2
  rw [W_ite, if_pos h1]
  exact h2
end
/-! ### operations on values in view -/
section
variable {ρ : Ro} {S : Sg}
@[simp] theorem de_non : deref ρ S .non = some .non := rfl
@[simp] theorem de_int (i : Int) : deref ρ S (.int i) = some (.int i) := rfl
@[simp] theorem de_bl (i : Bool) : deref ρ S (.bl i) = some (.bl i) := rfl
@[simp] theorem de_str (i : Str) : deref ρ S (.str i) = some (.str i) := rfl
@[simp] theorem de_lst (i : List D) : deref ρ S (.lst i) = some (.lst i) := rfl
@[simp] theorem de_tup (i : List D) : deref ρ S (.tup i) = some (.tup i) := rfl
@[simp] theorem de_dct (i : List (Key × D)) : deref ρ S (.dct i) = some (.dct i) := rfl
@[simp] theorem de_ins (c : Str) (i : List (Str × D)) : deref ρ S (.ins c i) = some (.ins c i) := rfl
@[simp] theorem de_obj (n : Nat) : deref ρ S (.obj n) = S[n]? := rfl
@[simp] theorem lo_non : isLoc .non = false := rfl
@[simp] theorem lo_int (i : Int) : isLoc (.int i) = false := rfl
@[simp] theorem lo_bl (i : Bool) : isLoc (.bl i) = false := rfl
@[simp] theorem lo_str (i : Str) : isLoc (.str i) = false := rfl
@[simp] theorem lo_lst (i : List D) : isLoc (.lst i) = false := rfl
@[simp] theorem lo_tup (i : List D) : isLoc (.tup i) = false := rfl
@[simp] theorem lo_dct (i : List (Key × D)) : isLoc (.dct i) = false := rfl
@[simp] theorem lo_ins (c : Str) (i : List (Str × D)) : isLoc (.ins c i) = false := rfl
@[simp] theorem lo_obj (n : Nat) : isLoc (.obj n) = false := rfl
@[simp] theorem lo_loc (n : Nat) : isLoc (.loc n) = true := rfl
@[simp] theorem nl_nil : noLoc [] = true := rfl
@[simp] theorem nl_cons (d : D) (ds : List D) : noLoc (d :: ds) = (!isLoc d && noLoc ds) := rfl
@[simp] theorem dl_nil : derefL ρ S [] = some [] := rfl
theorem dl_cons (d : D) (ds : List D) : derefL ρ S (d :: ds) = (deref ρ S d).bind fun a => (derefL ρ S ds).map fun b => a :: b := by
  show (match deref ρ S d, derefL ρ S ds with
    | some a, some b => some (a :: b)
    | _, _ => none) = _
  cases deref ρ S d <;> cases derefL ρ S ds <;> rfl
@[simp] theorem dl_one (d : D) : derefL ρ S [d] = (deref ρ S d).map fun a => [a] := by
  rw [dl_cons]
  cases deref ρ S d <;> rfl
@[simp] theorem dl_two (d e : D) : derefL ρ S [d, e] = (deref ρ S d).bind fun a => (deref ρ S e).map fun b => [a, b] := by
  rw [dl_cons, dl_one]
  cases deref ρ S d <;> cases deref ρ S e <;> rfl
@[simp] theorem f1_one (f : D → Option D) (d : D) : d_1 f [d] = f d := rfl
@[simp] theorem f2_two (f : D → D → Option D) (d e : D) : d_2 f [d, e] = f d e := rfl
@[simp] theorem add_int (i j : Int) : d_add (.int i) (.int j) = some (.int (i + j)) := rfl
@[simp] theorem add_str (i j : Str) : d_add (.str i) (.str j) = if i.length + j.length ≤ 100000 then some (.str (i ++ j)) else none := rfl
@[simp] theorem sub_int (i j : Int) : d_sub (.int i) (.int j) = some (.int (i - j)) := rfl
@[simp] theorem neg_intD (i : Int) : d_neg (.int i) = some (.int (-i)) := rfl
@[simp] theorem mul_int (i j : Int) : d_mul (.int i) (.int j) = if CMul i j then some (.int (i * j)) else none := rfl
@[simp] theorem fdiv_int (i j : Int) : d_fdiv (.int i) (.int j) = if CDivN i j then some (.int (i.fdiv j)) else none := rfl
@[simp] theorem mod_int (i j : Int) : d_mod (.int i) (.int j) = if j ≠ 0 then some (.int (i.fmod j)) else none := rfl
@[simp] theorem pow_int (i j : Int) : d_pow (.int i) (.int j) = if CPow i j then some (.int (i ^ j.toNat)) else none := rfl
@[simp] theorem lt_int (i j : Int) : d_lt (.int i) (.int j) = some (.bl (decide (i < j))) := rfl
@[simp] theorem le_int (i j : Int) : d_le (.int i) (.int j) = some (.bl (decide (i ≤ j))) := rfl
@[simp] theorem gt_int (i j : Int) : d_gt (.int i) (.int j) = some (.bl (decide (j < i))) := rfl
@[simp] theorem ge_int (i j : Int) : d_ge (.int i) (.int j) = some (.bl (decide (j ≤ i))) := rfl
@[simp] theorem lt_str (i j : Str) : d_lt (.str i) (.str j) = some (.bl (decide (i.cps.toList < j.cps.toList))) := rfl
@[simp] theorem le_str (i j : Str) : d_le (.str i) (.str j) = some (.bl (!decide (j.cps.toList < i.cps.toList))) := rfl
@[simp] theorem eq_int (i j : Int) : d_eq (.int i) (.int j) = some (.bl (decide (i = j))) := rfl
@[simp] theorem eq_bl (i j : Bool) : d_eq (.bl i) (.bl j) = some (.bl (decide (i = j))) := rfl
@[simp] theorem eq_str (i j : Str) : d_eq (.str i) (.str j) = some (.bl (decide (i = j))) := rfl
@[simp] theorem ne_int (i j : Int) : d_ne (.int i) (.int j) = some (.bl (!decide (i = j))) := rfl
@[simp] theorem ne_bl (i j : Bool) : d_ne (.bl i) (.bl j) = some (.bl (!decide (i = j))) := rfl
@[simp] theorem ne_str (i j : Str) : d_ne (.str i) (.str j) = some (.bl (!decide (i = j))) := rfl
@[simp] theorem len_lst (l : List D) : d_len (.lst l) = some (.int l.length) := rfl
@[simp] theorem len_tup (l : List D) : d_len (.tup l) = some (.int l.length) := rfl
@[simp] theorem len_str (z : Str) : d_len (.str z) = if z.length ≤ 100000 then some (.int z.length) else none := rfl
@[simp] theorem abs_int (i : Int) : d_abs (.int i) = some (.int (if i < 0 then -i else i)) := rfl
@[simp] theorem ix_lst (l : List D) (i : Int) : d_ix (.lst l) (.int i) = atI l i := rfl
@[simp] theorem ix_tup (l : List D) (i : Int) : d_ix (.tup l) (.int i) = atI l i := rfl
@[simp] theorem ix_str (z : Str) (i : Int) : d_ix (.str z) (.int i) = if z.length ≤ 100000 then (atI z.cps.toList i).map fun c => .str ⟨#[c]⟩ else none := rfl
@[simp] theorem it_lst (l : List D) : itemsG (.lst l) = some l := rfl
@[simp] theorem it_tup (l : List D) : itemsG (.tup l) = some l := rfl
@[simp] theorem it_str (z : Str) : itemsG (.str z) = some (signs z) := rfl
@[simp] theorem ic_lst (l : List D) : itemsC ρ (.lst l) = some l := rfl
@[simp] theorem ic_tup (l : List D) : itemsC ρ (.tup l) = some l := rfl
@[simp] theorem ic_str (z : Str) : itemsC ρ (.str z) = some (signs z) := rfl
@[simp] theorem tn_of (i : Nat) (d : D) : t_name i d ρ = if isLoc d = true then none else some (ρ.set i (.va d)) := rfl
@[simp] theorem sl_lst (l : List D) (lo hi : Option Int) : d_sl (.lst l) lo hi = some (.lst (cutD l lo hi)) := rfl
@[simp] theorem sl_str (z : Str) (lo hi : Option Int) : d_sl (.str z) lo hi = if z.length ≤ 100000 then some (.str (cutS z lo hi)) else none := rfl
@[simp] theorem up_lst (k : Int) (v : D) (ds : List D) : updI (.int k) v (.lst ds) = (ixN ds.length k).map fun j => .lst (ds.set j v) := rfl
@[simp] theorem up_int (k : Int) (v : D) (kvs : List (Key × D)) : updI (.int k) v (.dct kvs) = if kvs.length < 100000 then some (.dct (kput kvs (.inl k) v)) else none := rfl
@[simp] theorem up_str (k : Str) (v : D) (kvs : List (Key × D)) : updI (.str k) v (.dct kvs) = if kvs.length < 100000 then some (.dct (kput kvs (.inr k) v)) else none := rfl
@[simp] theorem isl_obj (n : Nat) : isLstAt ρ S (.obj n) = match S[n]? with
  | some (.lst _) => true
  | _ => false := rfl
@[simp] theorem ap_lst (y : D) (ds : List D) : appD y (.lst ds) = if ds.length < 100000 then some (.lst (ds ++ [y])) else none := rfl
@[simp] theorem put_obj (n : Nat) (f : D → Option D) (nx : Ro → Sg → Prop) (rt : D → Sg → Prop) : (putTo (.obj n) f ρ S).W nx rt = ∃ c c', S[n]? = some c ∧ f c = some c' ∧ nx ρ (S.set n c') := by rw [W_putTo]
@[simp] theorem put_loc (n : Nat) (f : D → Option D) (nx : Ro → Sg → Prop) (rt : D → Sg → Prop) : (putTo (.loc n) f ρ S).W nx rt = ∃ c c', ρ[n]? = some (.ow c) ∧ f c = some c' ∧ nx (ρ.set n (.ow c')) S := by rw [W_putTo]
@[simp] theorem W_var (i : Nat) (Q : D → Sg → Prop) : (e_var i ρ S).W Q = match ρ[i]? with
  | some (.va d) => Q d S
  | some (.ow _) => Q (.loc i) S
  | _ => False := by
  unfold e_var
  cases ρ[i]? with
  | none => rfl
  | some z => cases z <;> rfl
end
@[simp] theorem add4_int (i j : Int) : d_add4 (.int i) (.int j) = some (.int (i + j)) := rfl
@[simp] theorem add4_str (i j : Str) : d_add4 (.str i) (.str j) = if i.length + j.length ≤ 100000 then some (.str (i ++ j)) else none := by
  show (((d_addI _ _).or (d_addS (.str i) (.str j))).or _).or _ = _
  show ((((none : Option D).or (if i.length + j.length ≤ 100000 then some (.str (i ++ j)) else none)).or none).or none) = _
  split <;> rfl
@[simp] theorem add4_lst (a b : List D) : d_add4 (.lst a) (.lst b) = if a.length + b.length ≤ 100000 then some (.lst (a ++ b)) else none := rfl
@[simp] theorem add4_tup (a b : List D) : d_add4 (.tup a) (.tup b) = if a.length + b.length ≤ 100000 then some (.tup (a ++ b)) else none := by
  show ((((none : Option D).or none).or (if a.length + b.length ≤ 100000 then some (.tup (a ++ b)) else none)).or none) = _
  split <;> rfl
@[simp] theorem sl3_lst (l : List D) (lo hi : Option Int) : d_sl3 (.lst l) lo hi = some (.lst (cutD l lo hi)) := rfl
@[simp] theorem sl3_tup (l : List D) (lo hi : Option Int) : d_sl3 (.tup l) lo hi = some (.tup (cutD l lo hi)) := rfl
@[simp] theorem sl3_str (z : Str) (lo hi : Option Int) : d_sl3 (.str z) lo hi = if z.length ≤ 100000 then some (.str (cutS z lo hi)) else none := by
  show ((if z.length ≤ 100000 then some (D.str (cutS z lo hi)) else none).or none) = _
  split <;> rfl
end Gd

/-! Gm, part 2: the draws that many laws share. -/
namespace Gd
open PySem L2 PyProof.Rows

def takeB : MS := (s_seq (s_set 2 (e_op2 d_ix (e_var 0) (e_c (.int 0))))
  (s_seq (s_set 3 (e_op2 d_mod (e_op2 d_ix (e_var 0) (e_c (.int 1))) (e_cb (d_1 d_len) (a_cons (e_var 2) a_nil))))
  (s_seq (s_set 4 (e_op2 d_ix (e_var 2) (e_var 3)))
  (s_seq (s_if (t_e (e_op2 d_ge (e_var 4) (e_op2 d_pow (e_c (.int 10)) (e_c (.int 18))))) (s_seq (s_seti (e_op2 d_fdiv (e_var 4) (e_var 1)) (e_var 2) (e_var 3))
  (s_ret (e_op2 d_mod (e_var 4) (e_var 1)))) s_nx)
  (s_seq (s_seti (e_op2 d_add4 (e_op2 d_ix (e_var 0) (e_c (.int 1))) (e_c (.int 1))) (e_var 0) (e_c (.int 1)))
  (s_seq (s_seti (e_op2 d_mod (e_op2 d_add4 (e_op2 d_add4 (e_op2 d_mul (e_op2 d_ix (e_var 0) (e_c (.int 2))) (e_c (.int 48271))) (e_var 4)) (e_c (.int 12345))) (e_c (.int 2147483647))) (e_var 0) (e_c (.int 2)))
  (s_ret (e_op2 d_mod (e_op2 d_fdiv (e_op2 d_mod (e_op2 d_mul (e_op2 d_ix (e_var 0) (e_c (.int 2))) (e_op2 d_ix (e_var 0) (e_c (.int 2)))) (e_c (.int 2147483629))) (e_c (.int 16))) (e_var 1)))))))))
def takeM : List D → Sg → Out D := Gd.fn 5 takeB 2

/-- a draw is there: its object n, its cells' object k; the rest of the store stands -/
structure Dr (n k : Nat) (S : Sg) : Prop where
  ne : n ≠ k
  ex : ∃ (at' seed : Int) (cs : List Int), S[n]? = some (.lst [.obj k, .int at', .int seed]) ∧ S[k]? = some (.lst (cs.map .int)) ∧ 0 ≤ seed ∧ seed < 2147483647 ∧ cs ≠ [] ∧ ∀ c ∈ cs, 0 ≤ c
/-- but for n and k the stores are alike -/
structure Lk (n k : Nat) (S S' : Sg) : Prop where
  len : S'.length = S.length
  at' : ∀ i, i ≠ n → i ≠ k → S'[i]? = S[i]?
theorem Lk.refl {n k : Nat} {S : Sg} : Lk n k S S := ⟨rfl, fun _ _ _ => rfl⟩
theorem Lk.trans {n k : Nat} {S S1 S2 : Sg} (a : Lk n k S S1) (b : Lk n k S1 S2) : Lk n k S S2 := ⟨b.len.trans a.len, fun i h1 h2 => (b.at' i h1 h2).trans (a.at' i h1 h2)⟩
theorem Lk.setN {n k : Nat} {S S1 : Sg} (a : Lk n k S S1) (d : D) : Lk n k S (S1.set n d) := ⟨by rw [List.length_set]; exact a.len, fun i h1 h2 => by rw [List.getElem?_set_ne (Ne.symm h1)]; exact a.at' i h1 h2⟩
theorem Lk.setK {n k : Nat} {S S1 : Sg} (a : Lk n k S S1) (d : D) : Lk n k S (S1.set k d) := ⟨by rw [List.length_set]; exact a.len, fun i h1 h2 => by rw [List.getElem?_set_ne (Ne.symm h2)]; exact a.at' i h1 h2⟩
theorem getSet {S : Sg} {n : Nat} {d e : D} (h : S[n]? = some d) : (S.set n e)[n]? = some e := by
  rw [List.getElem?_set_self (List.getElem?_eq_some_iff.mp h).1]
theorem atI_nn {α : Type} {xs : List α} {i : Int} (h : 0 ≤ i) (l : i < xs.length) : ∃ x, xs[i.toNat]? = some x ∧ atI xs i = some x ∧ ixN xs.length i = some i.toNat := by
  have l2 : i.toNat < xs.length := by omega
  have e : ixN xs.length i = some i.toNat := by unfold ixN; rw [if_pos h, if_pos l]
  refine ⟨xs[i.toNat], List.getElem?_eq_getElem l2, ?_, e⟩
  unfold atI
  rw [e]
  exact List.getElem?_eq_getElem l2
theorem fmod_bd {a b : Int} (h : 0 < b) : 0 ≤ a.fmod b ∧ a.fmod b < b := ⟨Int.fmod_nonneg_of_pos a h, Int.fmod_lt_of_pos a h⟩
theorem fdiv_nn {a b : Int} (h : 0 ≤ a) (hb : 0 < b) : 0 ≤ a.fdiv b := by
  rw [Int.fdiv_eq_ediv_of_nonneg a (by omega)]
  exact Int.ediv_nonneg h (by omega)
theorem upd_ints (i : Int) (v : D) (cs : List Int) : updI (.int i) v (.lst (cs.map .int)) = (ixN cs.length i).map fun j => .lst ((cs.map D.int).set j v) := by
  rw [up_lst, List.length_map]
theorem take_W {n k : Nat} {S : Sg} {size : Int} {Q : D → Sg → Prop} (h : Dr n k S) (h0 : 0 < size) (h1 : size < 1073741824)
    (q : ∀ r S', Dr n k S' → Lk n k S S' → 0 ≤ r → r < size → Q (.int r) S') : (takeM [.obj n, .int size] S).W Q := by
  obtain ⟨at', seed, cs, en, ek, s0, s1, nn, pos⟩ := h.ex
  have hl : 0 < (cs.length : Int) := by
    have := List.length_pos_iff.mpr nn
    omega
  obtain ⟨m0, m1⟩ := fmod_bd (a := at') hl
  obtain ⟨c, c1, c2, c3⟩ := atI_nn (xs := cs.map D.int) (i := at'.fmod cs.length) m0 (by rw [List.length_map]; exact m1)
  rw [List.getElem?_map] at c1
  obtain ⟨cell, ce, rfl⟩ := Option.map_eq_some_iff.mp c1
  have cp : 0 ≤ cell := pos cell (List.mem_of_getElem? ce)
  have hz : (cs.length : Int) ≠ 0 := by omega
  have p0 : CPow 10 18 := by decide
  have ix0 : ∀ a b c : D, atI [a, b, c] 0 = some a := fun _ _ _ => rfl
  have ix1 : ∀ a b c : D, atI [a, b, c] 1 = some b := fun _ _ _ => rfl
  have ix2 : ∀ a b c : D, atI [a, b, c] 2 = some c := fun _ _ _ => rfl
  have jx1 : ixN 3 1 = some 1 := rfl
  have jx2 : ixN 3 2 = some 2 := rfl
  have cd : CDivN cell size := ⟨by omega, by omega⟩
  have hs : size ≠ 0 := by omega
  unfold takeM
  rw [W_fn]
  refine ⟨rfl, ?_⟩
  unfold takeB
  refine seq_of fun N hN => ?_
  simp [en, ix0, List.replicate]
  refine hN _ _ ?_
  clear hN
  refine seq_of fun N hN => ?_
  simp [en, ek, ix1, hz, nn]
  refine hN _ _ ?_
  clear hN
  refine seq_of fun N hN => ?_
  simp [en, ek, c2]
  refine hN _ _ ?_
  clear hN
  refine seq_of fun N hN => ?_
  simp [p0]
  split
  · rw [List.length_map] at c3
    simp [cd, ek, hs, c3, upd_ints]
    refine q _ _ ⟨h.ne, at', seed, cs.set (at'.fmod cs.length).toNat (cell.fdiv size), ?_, ?_, s0, s1, ?_, ?_⟩ (Lk.refl.setK _) (fmod_bd h0).1 (fmod_bd h0).2
    · rw [List.getElem?_set_ne h.ne.symm]; exact en
    · rw [getSet ek, List.map_set]
    · intro z
      have := congrArg List.length z
      rw [List.length_set] at this
      exact nn (List.eq_nil_of_length_eq_zero this)
    · intro c hc
      rcases List.mem_or_eq_of_mem_set hc with hc | hc
      · exact pos c hc
      · rw [hc]; exact fdiv_nn cp h0
  refine hN _ _ ?_
  clear hN
  refine seq_of fun N hN => ?_
  simp [en, ix1, jx1]
  refine hN _ _ ?_
  clear hN
  obtain ⟨sd, esd⟩ : ∃ sd, (seed * 48271 + cell + 12345).fmod 2147483647 = sd := ⟨_, rfl⟩
  have sb := fmod_bd (a := seed * 48271 + cell + 12345) (b := 2147483647) (by decide)
  rw [esd] at sb
  have m1 : CMul seed 48271 := .inr (by decide)
  have m2 : CMul sd sd := .inl (by omega)
  have d1 : CDivN ((sd * sd).fmod 2147483629) 16 := ⟨by decide, by decide⟩
  refine seq_of fun N hN => ?_
  simp [getSet en, ix1, ix2, jx2, m1, esd]
  refine hN _ _ ?_
  clear hN
  simp [getSet en, ix2, m2, d1, hs]
  refine q _ _ ⟨h.ne, at' + 1, sd, cs, getSet en, ?_, sb.1, sb.2, nn, pos⟩ (Lk.refl.setN _) (fmod_bd h0).1 (fmod_bd h0).2
  rw [List.getElem?_set_ne h.ne]; exact ek
end Gd

/-! Gm, part 3: lists alike; comprehensions; the draws' begin, picks and words. -/
namespace Gd
open PySem L2 PyProof.Rows

/-! ### lists that are alike -/
theorem pyL_ints (cs : List Int) : pyL (cs.map .int) = some (cs.map .int) := by
  induction cs with
  | nil => rfl
  | cons c cs ih => simp [pyL, py, ih]
theorem pyL_strs (cs : List Str) : pyL (cs.map .str) = some (cs.map .str) := by
  induction cs with
  | nil => rfl
  | cons c cs ih => simp [pyL, py, ih]
theorem lay_ints (cs : List Int) : PyData.canLayAll0 (cs.map .int) = true ∧ PyData.depthAll (cs.map .int) = 0 := by
  induction cs with
  | nil => simp [PyData.canLayAll0, PyData.depthAll]
  | cons c cs ih => simp [PyData.canLayAll0, PyData.depthAll, PyData.canLay0, PyData.depth, ih]
theorem lay_strs (cs : List Str) (h : ∀ c ∈ cs, PyData.strOk c = true) : PyData.canLayAll0 (cs.map .str) = true ∧ PyData.depthAll (cs.map .str) = 0 := by
  induction cs with
  | nil => simp [PyData.canLayAll0, PyData.depthAll]
  | cons c cs ih =>
    have ih := ih fun x hx => h x (List.mem_cons_of_mem _ hx)
    simp [PyData.canLayAll0, PyData.depthAll, PyData.canLay0, PyData.depth, ih, h c]
theorem shp_ints (cs : List Int) : SeqAt.shaped (.list (cs.map .int)) = true := by
  obtain ⟨h1, h2⟩ := lay_ints cs
  simp [SeqAt.shaped, PyData.canLay0, PyData.depth, h1, h2]
theorem shp_strs (cs : List Str) (h : ∀ c ∈ cs, PyData.strOk c = true) : SeqAt.shaped (.list (cs.map .str)) = true := by
  obtain ⟨h1, h2⟩ := lay_strs cs h
  simp [SeqAt.shaped, PyData.canLay0, PyData.depth, h1, h2]
theorem eqv_ints : ∀ (as bs : List Int), PyData.eqvAll (as.map .int) (bs.map .int) = decide (as = bs)
  | [], [] => by simp [PyData.eqvAll]
  | [], _ :: _ => by simp [PyData.eqvAll]
  | _ :: _, [] => by simp [PyData.eqvAll]
  | a :: as, b :: bs => by
    simp only [List.map_cons, PyData.eqvAll, PyData.eqv, eqv_ints as bs, List.cons.injEq]
    rw [Bool.decide_and]
    rfl
theorem eqv_strs : ∀ (as bs : List Str), PyData.eqvAll (as.map .str) (bs.map .str) = decide (as = bs)
  | [], [] => by simp [PyData.eqvAll]
  | [], _ :: _ => by simp [PyData.eqvAll]
  | _ :: _, [] => by simp [PyData.eqvAll]
  | a :: as, b :: bs => by
    simp only [List.map_cons, PyData.eqvAll, PyData.eqv, eqv_strs as bs, List.cons.injEq]
    rw [Bool.decide_and]
    rfl
theorem eq_ints (as bs : List Int) : d_eq (.lst (as.map .int)) (.lst (bs.map .int)) = some (.bl (decide (as = bs))) := by
  have h : eqDp (.lst (as.map .int)) (.lst (bs.map .int)) = some (decide (as = bs)) := by
    simp [eqDp, py, pyL_ints, shp_ints, PyData.eqv, eqv_ints]
  unfold d_eq
  rw [h]
  rfl
theorem eq_strs (as bs : List Str) (ha : ∀ c ∈ as, PyData.strOk c = true) (hb : ∀ c ∈ bs, PyData.strOk c = true) : d_eq (.lst (as.map .str)) (.lst (bs.map .str)) = some (.bl (decide (as = bs))) := by
  have h : eqDp (.lst (as.map .str)) (.lst (bs.map .str)) = some (decide (as = bs)) := by
    simp [eqDp, py, pyL_strs, shp_strs as ha, shp_strs bs hb, PyData.eqv, eqv_strs]
  unfold d_eq
  rw [h]
  rfl
/-! ### a comprehension whose test and element leave the store -/
section
variable {ρ : Ro} {S : Sg} {Q : D → Sg → Prop}
theorem W_map {vs : List Nat} {mi : MI} {tgt : D → Ro → Option Ro} {t : MT} {e : ME} (g : D → D) (p : D → Bool)
    (h : (mi ρ S).W fun ds S1 => (∀ d ∈ ds, ∃ ρ1, tgt d (wipeR ρ vs) = some ρ1 ∧ (t ρ1 S1).W (fun b S2 => b = p d ∧ S2 = S1) ∧ (p d = true → (e ρ1 S1).W fun y S2 => y = g d ∧ isLoc y = false ∧ S2 = S1)) ∧ ds.length ≤ 100000 ∧ Q (.lst ((ds.filter p).map g)) S1) : (f_lc vs mi tgt t e ρ S).W Q := by
  obtain ⟨ds, S1, e1, h1, h2, h3⟩ := h.eq
  refine W_lc (fun ys r S' => S' = S1 ∧ ys.length + r.length ≤ 100000 ∧ (∀ d ∈ r, d ∈ ds) ∧ ys ++ (r.filter p).map g = (ds.filter p).map g) ?_ ?_ ?_
  · rw [e1]
    exact ⟨rfl, by simpa using h2, fun d h => h, by simp⟩
  · rintro ys d r S' ⟨rfl, hl, hm, he⟩
    obtain ⟨ρ1, k1, k2, k3⟩ := h1 d (hm d (List.mem_cons_self ..))
    refine ⟨ρ1, k1, k2.mono ?_⟩
    rintro b S2 ⟨rfl, rfl⟩
    have hm' : ∀ x ∈ r, x ∈ ds := fun x hx => hm x (List.mem_cons_of_mem _ hx)
    rw [List.length_cons] at hl
    cases hp : p d with
    | true =>
      rw [if_pos rfl]
      refine (k3 hp).mono ?_
      rintro y S3 ⟨rfl, hy, rfl⟩
      refine ⟨hy, rfl, by rw [List.length_append]; simp; omega, hm', ?_⟩
      rw [List.filter_cons, if_pos hp, List.map_cons] at he
      rw [List.append_assoc]
      exact he
    | false =>
      rw [if_neg (by simp)]
      refine ⟨rfl, by omega, hm', ?_⟩
      rw [List.filter_cons, if_neg (by simp [hp])] at he
      exact he
  · rintro ys S' ⟨rfl, hl, _, he⟩
    simp at he hl
    refine ⟨hl, ?_⟩
    rw [he]
    exact h3
end
/-! ### begin -/
def beginB : MS := (s_seq (s_set 1 (e_sh (f_lc [2] (i_seqC (e_sl d_sl3 (e_var 0) o_no (o_e (e_c (.int 63))))) (t_name 2) t_yes (e_cb (d_1 d_abs) (a_cons (e_var 2) a_nil)))))
  (s_seq (s_if (t_e (e_op2 d_eq (e_var 1) (f_lst a_nil))) (s_set 1 (e_sh (f_lst (a_cons (e_c (.int 7)) a_nil)))) s_nx)
  (s_ret (e_sh (f_lst (a_cons (e_var 1) (a_cons (e_c (.int 0)) (a_cons (e_c (.int 1)) a_nil))))))))
def beginM : List D → Sg → Out D := Gd.fn 3 beginB 1
theorem cutD_all {ds : List D} (h : ds.length ≤ 63) : cutD ds none (some 63) = ds := by
  unfold cutD
  have e : HT.sIx ds.length ds.length (some 63) = ds.length := by
    have := HT.sIx_nat ds.length ds.length 63
    exact this.trans (Nat.min_eq_right h)
  rw [e, HT.sIx_none]
  simp
def absD : D → D
  | .int i => .int (if i < 0 then -i else i)
  | d => d
theorem begin_W {ns : List Int} {Q : D → Sg → Prop} (hl : ns.length ≤ 63) (q : ∀ n k S', Dr n k S' → n < S'.length → k < S'.length → Q (.obj n) S') : (beginM [.lst (ns.map .int)] []).W Q := by
  unfold beginM
  rw [W_fn]
  refine ⟨rfl, ?_⟩
  unfold beginB
  have ec : cutD (ns.map .int) none (some 63) = ns.map .int := cutD_all (by rw [List.length_map]; exact hl)
  refine seq_of fun N hN => ?_
  simp only [W_set, W_sh]
  refine W_map absD (fun _ => true) ?_
  simp [ec, List.replicate, wipeR, absD]
  refine ⟨Nat.le_trans hl (by decide), ?_⟩
  obtain ⟨cs, ecs⟩ : ∃ cs, ns.map (fun i => if i < 0 then -i else i) = cs := ⟨_, rfl⟩
  have e1 : List.map absD (List.filter (fun _ => true) (ns.map D.int)) = cs.map D.int := by
    rw [← ecs, List.map_map, List.filter_eq_self.mpr (fun _ _ => rfl), List.map_map]; rfl
  have cp : ∀ c ∈ cs, 0 ≤ c := by
    rw [← ecs]
    intro c hc
    obtain ⟨i, _, rfl⟩ := List.mem_map.mp hc
    split <;> omega
  rw [e1]
  refine hN _ _ ?_
  clear hN
  have e0 : d_eq (.lst (cs.map .int)) (.lst []) = some (.bl (decide (cs = []))) := eq_ints cs []
  refine seq_of fun N hN => ?_
  simp [e0]
  split
  · refine hN _ _ ?_
    simp
    exact q 2 1 _ ⟨by decide, 0, 1, [7], rfl, rfl, by decide, by decide, by decide, by decide⟩ (by simp) (by simp)
  · next hne =>
    refine hN _ _ ?_
    simp
    exact q 1 0 _ ⟨by decide, 0, 1, cs, rfl, rfl, by decide, by decide, hne, cp⟩ (by simp) (by simp)
/-! ### picks -/
def pickB : MS := (s_ret (e_op2 d_ix (e_var 1) (e_call takeM (a_cons (e_var 0) (a_cons (e_cb (d_1 d_len) (a_cons (e_var 1) a_nil)) a_nil)))))
def pickM : List D → Sg → Out D := Gd.fn 2 pickB 2
theorem pick_W {n k : Nat} {S : Sg} {ds : List D} {Q : D → Sg → Prop} (h : Dr n k S) (h0 : 0 < ds.length) (h1 : ds.length < 1073741824) (hn : ∀ d ∈ ds, isLoc d = false)
    (q : ∀ d S', Dr n k S' → Lk n k S S' → d ∈ ds → Q d S') : (pickM [.obj n, .lst ds] S).W Q := by
  unfold pickM
  rw [W_fn]
  refine ⟨rfl, ?_⟩
  unfold pickB
  simp [List.replicate]
  refine take_W h (by omega) (by omega) fun r S' d l r0 r1 => ?_
  obtain ⟨x, x1, x2, _⟩ := atI_nn r0 r1
  have hm := List.mem_of_getElem? x1
  simp [x2, hn x hm]
  exact q x S' d l hm
theorem pickS_W {n k : Nat} {S : Sg} {z : Str} {Q : D → Sg → Prop} (h : Dr n k S) (h0 : 0 < z.cps.size) (h1 : z.cps.size ≤ 100000)
    (q : ∀ c S', Dr n k S' → Lk n k S S' → c ∈ z.cps.toList → Q (.str ⟨#[c]⟩) S') : (pickM [.obj n, .str z] S).W Q := by
  unfold pickM
  rw [W_fn]
  refine ⟨rfl, ?_⟩
  unfold pickB
  have hz : z.length ≤ 100000 := h1
  have hz2 : z.length = z.cps.toList.length := by simp [Str.length]
  simp [List.replicate, hz]
  refine take_W h (by rw [hz2]; simp; omega) (by omega) fun r S' d l r0 r1 => ?_
  rw [hz2] at r1
  obtain ⟨x, x1, x2, _⟩ := atI_nn r0 r1
  have hm := List.mem_of_getElem? x1
  simp [x2, hz]
  exact q x S' d l hm
/-! ### words -/
def keptS : List Str := ["not", "never", "may"]
def letters : Str := "abcdefghijklmnopqrstuvwxyz"
def smallS (z : Str) : Prop := ∀ c ∈ z.cps.toList, 97 ≤ c ∧ c ≤ 122
instance (z : Str) : Decidable (smallS z) := inferInstanceAs (Decidable (∀ c ∈ z.cps.toList, 97 ≤ c ∧ c ≤ 122))
def isW (z : Str) : Prop := (1 ≤ z.length ∧ z.length ≤ 8) ∧ smallS z ∧ z ∉ keptS
instance (z : Str) : Decidable (isW z) := inferInstanceAs (Decidable (_ ∧ _ ∧ _))
theorem str_len (z : Str) : z.length = z.cps.toList.length := by simp [Str.length]
theorem flat_strs (ss : List Str) : (ss.map D.str).all flatD = true := by
  rw [List.all_eq_true]
  intro d hd
  obtain ⟨z, _, rfl⟩ := List.mem_map.mp hd
  rfl
theorem inD_strs (z : Str) (ss : List Str) : inD (.str z) (ss.map .str) = some (decide (z ∈ ss)) := by
  unfold inD
  rw [if_pos ⟨rfl, flat_strs ss⟩]
  congr 1
  induction ss with
  | nil => rfl
  | cons s ss ih =>
    rw [List.map_cons, List.any_cons, ih]
    show ((s == z) || decide (z ∈ ss)) = decide (z ∈ s :: ss)
    by_cases h : s = z
    · subst h; simp
    · have h2 : z ≠ s := fun e => h e.symm
      simp [h, h2]
theorem in_strs (neg : Bool) (z : Str) (ss : List Str) : d_in neg (.str z) (.lst (ss.map .str)) = some (.bl (if neg then !decide (z ∈ ss) else decide (z ∈ ss))) := by
  unfold d_in
  simp only [inD_strs]
  rfl
theorem in_strsT (neg : Bool) (z : Str) (ss : List Str) : d_in neg (.str z) (.tup (ss.map .str)) = some (.bl (if neg then !decide (z ∈ ss) else decide (z ∈ ss))) := by
  unfold d_in
  simp only [inD_strs]
  rfl
theorem in_sign (neg : Bool) (c : Nat) (z : Str) : d_in neg (.str ⟨#[c]⟩) (.str z) = some (.bl (if neg then !decide (c ∈ z.cps.toList) else decide (c ∈ z.cps.toList))) := rfl
theorem app_list (a b : Str) : (a ++ b).cps.toList = a.cps.toList ++ b.cps.toList := by
  show (Str.append a b).cps.toList = _
  simp [Str.append]
theorem small_ok {z : Str} (h : smallS z) : PyData.strOk z = true := by
  unfold PyData.strOk
  rw [Array.all_eq_true']
  intro c hc
  have := h c (by simpa using hc)
  simp; omega
end Gd

/-! Gm, part 4: drawn words; what is a name. -/
namespace Gd
open PySem L2 PyProof.Rows

def ownS : List Str := ["lot", "held", "back", "by", "in", "all", "some", "none", "rule", "told", "rank", "nots", "a", "z", "maybe"]
def wordB : MS := (s_seq (s_set 1 (f_lst (a_cons (e_c (.str "lot")) (a_cons (e_c (.str "held")) (a_cons (e_c (.str "back")) (a_cons (e_c (.str "by")) (a_cons (e_c (.str "in")) (a_cons (e_c (.str "all")) (a_cons (e_c (.str "some")) (a_cons (e_c (.str "none")) (a_cons (e_c (.str "rule")) (a_cons (e_c (.str "told")) (a_cons (e_c (.str "rank")) (a_cons (e_c (.str "nots")) (a_cons (e_c (.str "a")) (a_cons (e_c (.str "z")) (a_cons (e_c (.str "maybe")) a_nil)))))))))))))))))
  (s_seq (s_if (t_e (e_op2 d_eq (e_call takeM (a_cons (e_var 0) (a_cons (e_c (.int 4)) a_nil))) (e_c (.int 0)))) (s_ret (e_call pickM (a_cons (e_var 0) (a_cons (e_var 1) a_nil)))) s_nx)
  (s_seq (s_set 2 (e_c (.str "")))
  (s_seq (s_for (i_rng (a_cons (e_op2 d_add4 (e_c (.int 1)) (e_call takeM (a_cons (e_var 0) (a_cons (e_c (.int 8)) a_nil)))) a_nil)) (t_name 3) (s_set 2 (e_op2 d_add4 (e_var 2) (e_op2 d_ix (e_c (.str "abcdefghijklmnopqrstuvwxyz")) (e_call takeM (a_cons (e_var 0) (a_cons (e_c (.int 26)) a_nil)))))))
  (s_seq (s_if (t_e (e_op2 (d_in false) (e_var 2) (f_lst (a_cons (e_c (.str "not")) (a_cons (e_c (.str "never")) (a_cons (e_c (.str "may")) a_nil)))))) (s_ret (e_sl d_sl3 (e_var 2) o_no (o_e (e_op1 d_neg (e_c (.int 1)))))) s_nx)
  (s_ret (e_var 2)))))))
def wordM : List D → Sg → Out D := Gd.fn 4 wordB 1
theorem own_W : ∀ z ∈ ownS, isW z := by decide +kernel
theorem letters_small : smallS letters := by decide +kernel
theorem kept_cut : ∀ z ∈ keptS, isW (cutS z none (some (-1))) := by decide +kernel
theorem rng_no (lo : Int) (n : Nat) : ∀ d ∈ rng lo n, isLoc d = false := by
  intro d hd
  obtain ⟨i, _, rfl⟩ := List.mem_map.mp hd
  rfl
theorem rng_len (lo : Int) (n : Nat) : (rng lo n).length = n := by simp [rng]
/-- a letter by its place -/
theorem letter_W {n k : Nat} {S : Sg} {Q : D → Sg → Prop} {ρ : Ro} {i : Nat} (hρ : ρ[i]? = some (.va (.obj n))) (h : Dr n k S) (q : ∀ c S', Dr n k S' → Lk n k S S' → 97 ≤ c → c ≤ 122 → Q (.str ⟨#[c]⟩) S') :
    (e_op2 d_ix (e_c (.str "abcdefghijklmnopqrstuvwxyz")) (e_call takeM (a_cons (e_var i) (a_cons (e_c (.int 26)) a_nil))) ρ S).W Q := by
  simp [hρ]
  refine take_W h (by decide) (by decide) fun r S' d l r0 r1 => ?_
  obtain ⟨c, c1, c2, _⟩ := atI_nn (xs := letters.cps.toList) r0 (by rw [show (letters.cps.toList.length : Int) = 26 by decide +kernel]; exact r1)
  have hm := letters_small c (List.mem_of_getElem? c1)
  have e : d_ix (.str "abcdefghijklmnopqrstuvwxyz") (.int r) = some (.str ⟨#[c]⟩) := by
    show d_ix (.str letters) (.int r) = _
    rw [ix_str, if_pos (by decide +kernel), c2]
    rfl
  rw [ix_str] at e
  simp [e]
  exact q c S' d l hm.1 hm.2
theorem rng_1 {n : Int} (h : -100000 ≤ n ∧ n ≤ 100000) : rngOf [.int n] = some (rng 0 n.toNat) := by
  show (if _ then _ else _) = _
  rw [if_pos h]
def wordI (n k : Nat) (S : Sg) (ds : List D) (ρ : Ro) (S2 : Sg) : Prop := ∃ z m, ρ = [.va (.obj n), .va (.lst (ownS.map .str)), .va (.str z), m] ∧ Dr n k S2 ∧ Lk n k S S2 ∧ smallS z ∧ (z.length + ds.length ≤ 8 ∧ 1 ≤ z.length + ds.length) ∧ ∀ d ∈ ds, isLoc d = false
theorem word_W {n k : Nat} {S : Sg} {Q : D → Sg → Prop} (h : Dr n k S) (q : ∀ z S', Dr n k S' → Lk n k S S' → isW z → Q (.str z) S') : (wordM [.obj n] S).W Q := by
  unfold wordM
  rw [W_fn]
  refine ⟨rfl, ?_⟩
  unfold wordB
  refine seq_of fun N hN => ?_
  simp [List.replicate]
  refine hN _ _ ?_
  clear hN
  refine seq_of fun N hN => ?_
  simp
  refine take_W h (by decide) (by decide) fun r S1 d1 l1 r0 r1 => ?_
  simp
  split
  · refine pick_W (ds := ownS.map .str) d1 (by decide) (by decide) (fun d hd => ?_) fun d S2 d2 l2 hd => ?_
    · obtain ⟨z, _, rfl⟩ := List.mem_map.mp hd
      rfl
    · obtain ⟨z, hz, rfl⟩ := List.mem_map.mp hd
      simp
      exact q z S2 d2 (l1.trans l2) (own_W z hz)
  refine hN _ _ ?_
  clear hN
  refine seq_of fun N hN => ?_
  simp
  refine hN _ _ ?_
  clear hN
  refine seq_of fun N hN => ?_
  refine W_for (wordI n k S) ?_ ?_ ?_
  · simp
    refine take_W d1 (by decide) (by decide) fun r S2 d2 l2 r0 r1 => ?_
    simp [rng_1 (n := 1 + r) (by omega)]
    refine ⟨"", _, rfl, d2, l1.trans l2, by decide +kernel, ?_, rng_no _ _⟩
    rw [rng_len]
    have : ("" : Str).length = 0 := by decide +kernel
    omega
  · rintro d ds ρ S2 ⟨z, m, rfl, d2, l2, hz, hl, hd⟩
    have hd0 := hd d (List.mem_cons_self ..)
    refine ⟨_, by rw [tn_of, hd0]; rfl, ?_⟩
    rw [List.length_cons] at hl
    rw [W_set, W_op2]
    simp only [W_var]
    simp only [List.set_cons_succ, List.set_cons_zero, List.getElem?_cons_succ, List.getElem?_cons_zero]
    refine letter_W (i := 0) rfl d2 fun c S3 d3 l3 c0 c1 => ?_
    have e1 : (⟨#[c]⟩ : Str).length = 1 := rfl
    have e2 : (z ++ (⟨#[c]⟩ : Str)).length = z.length + 1 := by rw [str_len, app_list, List.length_append, ← str_len]; rfl
    have e3 : z.length + 1 ≤ 100000 := by omega
    simp [e1, e3]
    refine ⟨_, _, rfl, d3, l2.trans l3, ?_, ?_, fun x hx => hd x (List.mem_cons_of_mem _ hx)⟩
    · intro x hx
      rw [app_list] at hx
      rcases List.mem_append.mp hx with hx | hx
      · exact hz x hx
      · have : x = c := by simpa using hx
        rw [this]; exact ⟨c0, c1⟩
    · rw [e2]; omega
  · rintro ρ S2 ⟨z, m, rfl, d2, l2, hz, hl, _⟩
    refine hN _ _ ?_
    clear hN
    have ein : d_in false (.str z) (.lst [.str "not", .str "never", .str "may"]) = some (.bl (decide (z ∈ keptS))) := in_strs false z keptS
    have ez : z.length ≤ 100000 := by simp at hl; omega
    refine seq_of fun N hN => ?_
    simp [ein]
    split
    · next hk =>
      simp [ez]
      exact q _ _ d2 l2 (kept_cut z hk)
    · next hk =>
      refine hN _ _ ?_
      simp
      exact q _ _ d2 l2 ⟨by simpa [and_comm] using hl, hz, hk⟩
/-! ### what is a name -/
def nameB : MS := (s_seq (s_if (t_or (t_not (t_e (e_op1 (d_isi "str") (e_var 0)))) (t_or (t_not (t_e (e_chain d_le d_le (e_c (.int 1)) (e_cb (d_1 d_len) (a_cons (e_var 0) a_nil)) (e_c (.int 8))))) (t_e (e_op2 (d_in false) (e_var 0) (e_c (.tup [(.str "not"), (.str "never"), (.str "may")])))))) (s_ret (e_c (.bl false))) s_nx)
  (s_ret (e_cb (d_1 d_all) (a_cons (f_lc [1] (i_seqC (e_var 0)) (t_name 1) t_yes (e_chain d_le d_le (e_c (.str "a")) (e_var 1) (e_c (.str "z")))) a_nil))))
def nameM : List D → Sg → Out D := Gd.fn 2 nameB 1
/-- the type of what is no text -/
def noText : D → Bool
  | .str _ => false
  | d => (((tyD d).bind fun a => kitB a "str")) == some false
theorem isi_text (z : Str) : d_isi "str" (.str z) = some (.bl true) := by
  unfold d_isi
  rfl
theorem isi_other {d : D} (h : noText d = true) : d_isi "str" d = some (.bl false) := by
  have : ((tyD d).bind fun a => kitB a "str") = some false := by
    cases d <;> first | (simp [noText] at h; exact h) | cases h
  unfold d_isi
  rw [this]
  rfl
theorem bls_of (bs : List Bool) : blsOf (bs.map .bl) = some bs := by
  induction bs with
  | nil => rfl
  | cons b bs ih => simp [blsOf, asBl, ih]
def smallD : D → Bool
  | .str x => x.cps.toList.all fun c => decide (97 ≤ c ∧ c ≤ 122)
  | _ => false
theorem one_lt (a b : Nat) : (([a] : List Nat) < [b]) ↔ a < b := by
  constructor
  · intro h
    cases h with
    | rel h => exact h
    | cons h => cases h
  · exact fun h => List.Lex.rel h
theorem le_az (c : Nat) : d_le (.str "a") (.str ⟨#[c]⟩) = some (.bl (decide (97 ≤ c))) ∧ d_le (.str ⟨#[c]⟩) (.str "z") = some (.bl (decide (c ≤ 122))) := by
  have ea : ("a" : Str).cps.toList = [97] := by decide +kernel
  have ez : ("z" : Str).cps.toList = [122] := by decide +kernel
  rw [le_str, le_str, ea, ez]
  constructor
  · congr 2
    rw [← decide_not, decide_eq_decide, one_lt]; omega
  · congr 2
    rw [← decide_not, decide_eq_decide, one_lt]; omega
theorem name_text {z : Str} {S : Sg} {Q : D → Sg → Prop} (hl : z.length ≤ 100000) (q : Q (.bl (decide (isW z))) S) : (nameM [.str z] S).W Q := by
  unfold nameM
  rw [W_fn]
  refine ⟨rfl, ?_⟩
  unfold nameB
  have ein : d_in false (.str z) (.tup [.str "not", .str "never", .str "may"]) = some (.bl (decide (z ∈ keptS))) := in_strsT false z keptS
  have e1 : (1 : Int) ≤ (z.length : Int) ↔ 1 ≤ z.length := by omega
  have e8 : (z.length : Int) ≤ 8 ↔ z.length ≤ 8 := by omega
  refine seq_of fun N hN => ?_
  simp [List.replicate, isi_text, hl, ein]
  by_cases c1 : 1 ≤ z.length
  · by_cases c8 : z.length ≤ 8
    · by_cases ck : z ∈ keptS
      · have hw : ¬ isW z := fun w => w.2.2 ck
        simp [e1, e8, c1, c8, ck]
        simpa [hw] using q
      · simp [e1, e8, c1, c8, ck]
        refine hN _ _ ?_
        rw [W_ret, W_cb, W_acons]
        refine W_map (fun d => .bl (smallD d)) (fun _ => true) ?_
        simp [List.replicate, wipeR]
        refine ⟨?_, ?_, ?_⟩
        · intro d hd
          obtain ⟨c, _, rfl⟩ := List.mem_map.mp hd
          refine ⟨rfl, ?_⟩
          simp [(le_az c).1, (le_az c).2]
          by_cases h : 97 ≤ c <;> simp [h, smallD]
        · rw [signs, List.length_map, ← str_len]; omega
        · have e : List.map (fun d => D.bl (smallD d)) (List.filter (fun x => true) (signs z)) = ((z.cps.toList.map fun c => decide (97 ≤ c ∧ c ≤ 122)).map .bl) := by
            rw [List.filter_eq_self.mpr (fun _ _ => rfl), signs, List.map_map, List.map_map]
            refine List.map_congr_left fun c _ => ?_
            simp [smallD]
          simp only [e, d_all, bls_of, Option.map_some, Option.some.injEq, exists_eq_left', lo_bl]
          have hw : (List.map (fun c => decide (97 ≤ c ∧ c ≤ 122)) z.cps.toList).all id = decide (isW z) := by
            rw [Bool.eq_iff_iff, decide_eq_true_iff, List.all_map, List.all_eq_true]
            constructor
            · intro h
              exact ⟨⟨c1, c8⟩, fun c hc => by simpa using h c hc, ck⟩
            · intro h c hc
              simpa using h.2.1 c hc
          rw [hw]
          simpa using q
    · have hw : ¬ isW z := fun w => c8 w.1.2
      simp [e1, e8, c1, c8]
      simpa [hw] using q
  · have hw : ¬ isW z := fun w => c1 w.1.1
    simp [e1, c1]
    simpa [hw] using q
theorem name_other {d : D} {S : Sg} {Q : D → Sg → Prop} (h : noText d = true) (hd : deref [.va d, .un] S d = some d) (q : Q (.bl false) S) : (nameM [d] S).W Q := by
  unfold nameM
  rw [W_fn]
  refine ⟨rfl, ?_⟩
  unfold nameB
  refine seq_of fun N hN => ?_
  simp [List.replicate, hd, isi_other h]
  exact q
end Gd

/-! Gm, part 5: reading forwards: classes, more statements. -/
namespace Gd
open PySem L2 PyProof.Rows

section
variable {ρ : Ro} {S : Sg} {Q : D → Sg → Prop} {nx : Ro → Sg → Prop} {rt : D → Sg → Prop}
theorem W_iteF {α : Type} {c : Prop} [Decidable c] (a : Out α) (Q : α → Sg → Prop) : (if c then a else .no).W Q = (c ∧ a.W Q) := by
  rw [W_ite, W_no, iteF_and]
@[simp] theorem W_meth (c x : Str) (m : List D → Sg → Out D) (mo : ME) (r : MA) : (e_meth c x m mo r ρ S).W Q = (mo ρ S).W fun o S1 => (isLoc o = false ∧ (match deref ρ S1 o with
    | some d => isCls c d && noFld x d
    | none => false) = true) ∧ (r ρ S1).W fun ds S2 => noLoc ds = true ∧ (m (o :: ds) S2).W Q := by
  unfold e_meth
  rw [W_bind]
  congr 1; funext o S1
  rw [W_iteF, W_bind]
  congr 2; funext ds S2
  rw [W_iteF]
theorem mkF_W {c : Str} {m : List D → Sg → Out D} {g : List D → List D → List D} {r rk : MA}
    (h : (r ρ S).W fun ds S1 => (rk ρ S1).W fun es S2 => (noLoc ds = true ∧ noLoc es = true) ∧ (m (g (.obj S2.length :: ds) es) (S2 ++ [.ins c []])).W fun z S3 => ∃ d, z = .non ∧ S3 = S2 ++ [d] ∧ okD S2.length d = true ∧ Q d S2) : (e_mkF c m g r rk ρ S).W Q := by
  unfold e_mkF
  rw [W_bind]
  refine h.mono fun ds S1 h => ?_
  rw [W_bind]
  refine h.mono fun es S2 h => ?_
  rw [W_iteF, W_bind]
  refine ⟨h.1, h.2.mono ?_⟩
  rintro z S3 ⟨d, rfl, rfl, hd, q⟩
  have e : (S2 ++ [d])[S2.length]? = some d := by
    rw [List.getElem?_append_right (Nat.le_refl _), Nat.sub_self]; rfl
  simp only [e]
  unfold popD
  rw [if_pos ⟨rfl, hd⟩]
  exact q
@[simp] theorem W_sfld (cs : List Str) (f : Str) (mv mo : ME) : (s_fld cs f mv mo ρ S).W nx rt = (mv ρ S).W fun dv S1 => (mo ρ S1).W fun dd S2 => isLoc dv = false ∧ (putTo dd (setF cs f dv) ρ S2).W nx rt := by
  unfold s_fld
  rw [W_se]
  congr 1; funext d S1
  rw [W_se]
  congr 1; funext d2 S2
  cases h : isLoc d <;> simp [OS.W]
@[simp] theorem W_star (i j : Nat) (m : ME) : (s_star i j m ρ S).W nx rt = (m ρ S).W fun d S1 => ∃ x xs, deref ρ S1 d = some (.lst (x :: xs)) ∧ isLoc x = false ∧ xs.length ≤ 16000 ∧ nx ((ρ.set i (.va x)).set j (.va (.lst xs))) S1 := by
  unfold s_star
  rw [W_se]
  congr 1; funext d S1
  cases e : deref ρ S1 d with
  | none => simp [OS.W]
  | some d' =>
    cases d' with
    | lst l =>
      cases l with
      | nil => simp [OS.W]
      | cons x xs =>
        by_cases hc : isLoc x = false ∧ xs.length ≤ 16000
        · simp only [if_pos hc]
          exact propext ⟨fun h => ⟨x, xs, rfl, hc.1, hc.2, h⟩, fun ⟨a, b, e, _, _, h⟩ => by cases e; exact h⟩
        · simp only [if_neg hc]
          exact propext ⟨fun h => h.elim, fun ⟨a, b, e, h1, h2, h⟩ => by cases e; exact (hc ⟨h1, h2⟩).elim⟩
    | _ => simp [OS.W]
@[simp] theorem W_par (i j : Nat) (r : MA) : (s_par i j r ρ S).W nx rt = (r ρ S).W fun ds S1 => ∃ x y, ds = [x, y] ∧ isLoc x = false ∧ isLoc y = false ∧ nx ((ρ.set i (.va x)).set j (.va y)) S1 := by
  unfold s_par
  cases e : r ρ S with
  | ok ds S1 =>
    simp only [W_ok]
    cases ds with
    | nil => simp [OS.W]
    | cons x ds =>
      cases ds with
      | nil => simp [OS.W]
      | cons y ds =>
        cases ds with
        | cons _ _ => simp [OS.W]
        | nil =>
          simp only
          cases hx : isLoc x <;> cases hy : isLoc y <;> simp [OS.W, hx, hy]
  | er x fs S1 => rfl
  | no => rfl
theorem W_aug (i : Nat) (f : D → D → Option D) (m : ME) {x : D} (hx : ρ[i]? = some (.va x)) (h : (m ρ S).W fun d S1 => ∃ z, ((deref ρ S1 x).bind fun x' => (deref ρ S1 d).bind fun d' => f x' d') = some z ∧ isLoc z = false ∧ nx (ρ.set i (.va z)) S1) : (s_aug i f m ρ S).W nx rt := by
  unfold s_aug
  rw [hx]
  show (s_e m _ ρ S).W nx rt
  rw [W_se]
  refine h.mono ?_
  rintro d S1 ⟨z, e, hz, q⟩
  simp only [e]
  rw [if_neg (by rw [hz]; simp)]
  exact q
@[simp] theorem W_fmt (m : ME) : (e_fmt m ρ S).W Q = (m ρ S).W fun d S1 => ∃ y, d = .str y ∧ y.length ≤ 100000 ∧ Q (.str y) S1 := by
  unfold e_fmt
  rw [W_bind]
  congr 1; funext d S1
  cases d <;> simp [W_iteF]
@[simp] theorem W_fs0 (acc : Str) : (e_fstr [] acc ρ S).W Q = Q (.str acc) S := rfl
@[simp] theorem W_fs1 (m : ME) (ms : List ME) (acc : Str) : (e_fstr (m :: ms) acc ρ S).W Q = (m ρ S).W fun d S1 => ∃ y, d = .str y ∧ acc.length + y.length ≤ 100000 ∧ (e_fstr ms (acc ++ y) ρ S1).W Q := by
  rw [e_fstr, W_bind]
  congr 1; funext d S1
  cases d <;> simp [W_iteF]
theorem W_noErS {α : Type} (o : Out α) (Q : α → Sg → Prop) : (noErS o).W Q = o.W Q := by cases o <;> rfl
@[simp] theorem W_eqO (c : Str) (m : List D → Sg → Out D) (a b : ME) : (e_eqO c m a b ρ S).W Q = (a ρ S).W fun d S1 => (b ρ S1).W fun e S2 => (isLoc d = false ∧ isLoc e = false ∧ (deref ρ S2 d).any (isCls c) = true ∧ (deref ρ S2 e).any (isCls c) = true) ∧ (m [d, e] S2).W Q := by
  unfold e_eqO
  rw [W_bind]
  congr 1; funext d S1
  rw [W_bind]
  congr 1; funext e S2
  rw [W_iteF, W_noErS]
@[simp] theorem W_strO (c : Str) (m : List D → Sg → Out D) (a : ME) : (e_strO c m a ρ S).W Q = (a ρ S).W fun d S1 => (isLoc d = false ∧ (deref ρ S1 d).any (isCls c) = true) ∧ (m [d] S1).W fun z S2 => ∃ y, z = .str y ∧ Q (.str y) S2 := by
  unfold e_strO
  rw [W_bind]
  congr 1; funext d S1
  rw [W_iteF, W_bind, W_noErS]
  congr 2; funext z S2
  cases z <;> simp
@[simp] theorem W_rep (a b : ME) : (e_rep a b ρ S).W Q = (a ρ S).W fun d S1 => (b ρ S1).W fun e S2 => ∃ z, d_rep d e = some z ∧ Q z S2 := by simp [e_rep]
theorem W_try {tc : List (Str × Bool)} {b h : MS} (k : (b ρ S).W nx rt) : (s_try tc b h ρ S).W nx rt := by
  unfold s_try
  cases e : b ρ S with
  | ex x fs ρ' S' => rw [e] at k; exact k.elim
  | _ => rw [e] at k; exact k
/-- a while loop by an invariant with a count that falls -/
theorem W_while {t : MT} {b : MS} (I : Nat → Ro → Sg → Prop) (hb : ∀ k ρ S, I k ρ S → (t ρ S).W fun c S1 => if c = true then (b ρ S1).W (fun ρ2 S2 => ∃ j, j < k ∧ I j ρ2 S2) rt else nx ρ S1) :
    ∀ (n k : Nat) (ρ : Ro) (S : Sg), I k ρ S → k < n → (s_wh t b n ρ S).W nx rt := by
  intro n
  induction n with
  | zero => intro k ρ S _ h; omega
  | succ n ih =>
    intro k ρ S h hk
    have := hb k ρ S h
    unfold s_wh
    obtain ⟨c, S1, e, q⟩ := this.eq
    rw [e]
    cases c with
    | false => exact q
    | true =>
      simp only [if_true] at q ⊢
      cases e2 : b ρ S1 with
      | nx ρ2 S2 =>
        rw [e2] at q
        obtain ⟨j, hj, hi⟩ := q
        exact ih j ρ2 S2 hi (by omega)
      | rt d S2 => rw [e2] at q; exact q
      | _ => rw [e2] at q; exact q.elim
end
@[simp] theorem li_lst (l : List D) : d_list (.lst l) = some (.lst l) := rfl
@[simp] theorem li_tup (l : List D) : d_list (.tup l) = some (.lst l) := rfl
@[simp] theorem tu_lst (l : List D) : d_tuple (.lst l) = some (.tup l) := rfl
@[simp] theorem tu_tup (l : List D) : d_tuple (.tup l) = some (.tup l) := rfl
@[simp] theorem rev_lst (l : List D) : d_rev (.lst l) = some (.lst l.reverse) := rfl
@[simp] theorem addL_lst (a b : List D) : d_addL (.lst a) (.lst b) = if a.length + b.length ≤ 100000 then some (.lst (a ++ b)) else none := rfl
@[simp] theorem setF_ins (cs : List Str) (f : Str) (v : D) (c : Str) (gs : List (Str × D)) : setF cs f v (.ins c gs) = if c ∈ cs ∧ gs.length < 1000 then some (.ins c (putFD f v gs)) else none := rfl
@[simp] theorem fld_ins (cs : List Str) (f : Str) (c : Str) (gs : List (Str × D)) : d_fld cs f (.ins c gs) = if c ∈ cs then gs.lookup f else none := rfl
/-! ### drawn words that are unlike -/
theorem dd_nodup (ks acc : List Key) (h : (acc ++ ks).Nodup) : dd acc ks = acc ++ ks := by
  induction ks generalizing acc with
  | nil => simp [dd]
  | cons k ks ih =>
    have hk : inK acc k = false := by
      unfold inK
      rw [List.any_eq_false]
      intro x hx q
      have : x = k := of_decide_eq_true q
      subst this
      rw [List.nodup_append] at h
      exact h.2.2 x hx x (List.mem_cons_self ..) rfl
    show dd (if inK acc k = true then acc else acc ++ [k]) ks = _
    rw [hk, if_neg Bool.false_ne_true, ih _ (by simpa using h)]
    simp
theorem keys_strs (ss : List Str) : keysOf (ss.map .str) = some (ss.map Sum.inr) := by
  induction ss with
  | nil => rfl
  | cons s ss ih => simp [keysOf, keyOf, ih]
theorem lenset_lst {ss : List Str} (h : ss.Nodup) (hl : ss.length ≤ 4000) : d_lenset (.lst (ss.map .str)) = some (.int ss.length) := by
  show (keysOf (ss.map .str)).bind _ = _
  rw [keys_strs]
  show (if (ss.map Sum.inr : List Key).length ≤ 4000 then _ else _) = _
  have hn : ([] ++ (ss.map Sum.inr : List Key)).Nodup := by
    rw [List.nil_append]
    exact List.Pairwise.map _ (fun a b h e => h (Sum.inr.inj e)) h
  rw [if_pos (by simpa using hl), dd_nodup _ _ hn]
  simp
theorem lenset_tup {ss : List Str} (h : ss.Nodup) (hl : ss.length ≤ 4000) : d_lenset (.tup (ss.map .str)) = some (.int ss.length) := lenset_lst h hl
end Gd

/-! Gm, part 6: drawn words, unlike; what are names. -/
namespace Gd
open PySem L2 PyProof.Rows

theorem de_loc {ρ : Ro} {S : Sg} (i : Nat) : deref ρ S (.loc i) = match ρ[i]? with
  | some (.ow d) => some d
  | _ => none := rfl
theorem pigeon {α : Type} [DecidableEq α] : ∀ (L T : List α), L.Nodup → (∀ x ∈ L, x ∈ T) → L.length ≤ T.length
  | [], _, _, _ => Nat.zero_le _
  | x :: L, T, hn, hs => by
    have hx := hs x (List.mem_cons_self ..)
    have hn' := List.nodup_cons.mp hn
    have h := pigeon L (T.erase x) hn'.2 fun y hy => (List.mem_erase_of_ne (fun e => hn'.1 (by rw [← e]; exact hy))).mpr (hs y (List.mem_cons_of_mem _ hy))
    rw [List.length_erase_of_mem hx] at h
    have := List.length_pos_of_mem hx
    rw [List.length_cons]; omega
theorem str_ext {a b : Str} (h : a.cps.toList = b.cps.toList) : a = b := by
  cases a; cases b
  congr 1
  exact Array.toList_inj.mp h
theorem strlen_app (a b : Str) : (a ++ b).length = a.length + b.length := by
  rw [str_len, app_list, List.length_append, ← str_len, ← str_len]
def wordsB : MS := (s_seq (s_own 2 (f_lst a_nil))
  (s_seq (s_for (i_rng (a_cons (e_var 1) a_nil)) (t_name 3) (s_seq (s_set 4 (e_call wordM (a_cons (e_var 0) a_nil)))
  (s_seq (s_if (t_e (e_op2 (d_in false) (e_var 4) (e_var 2))) (s_seq (s_set 5 (e_op2 d_add4 (e_var 2) (f_lst (a_cons (e_c (.str "not")) (a_cons (e_c (.str "never")) (a_cons (e_c (.str "may")) a_nil))))))
  (s_set 4 (e_op2 d_ix (f_lc [6] (i_seqC (e_c (.str "abcdefghijklmnopqrstuvwxyz"))) (t_name 6) (t_e (e_op2 (d_in true) (e_op2 d_add4 (e_sl d_sl3 (e_var 4) o_no (o_e (e_c (.int 7)))) (e_var 6)) (e_var 5))) (e_op2 d_add4 (e_sl d_sl3 (e_var 4) o_no (o_e (e_c (.int 7)))) (e_var 6))) (e_c (.int 0))))) s_nx)
  (s_app (e_var 2) (e_var 4)))))
  (s_ret (e_var 2))))
def wordsM : List D → Sg → Out D := Gd.fn 7 wordsB 2
def cut7 (z : Str) : Str := cutS z none (some 7)
theorem cut7_len (z : Str) : (cut7 z).length ≤ 7 := by
  rw [str_len]
  show ((z.cps.toList.drop _).take _).length ≤ 7
  have e : HT.sIx z.length z.length (some 7) = min 7 z.length := HT.sIx_nat z.length z.length 7
  rw [e]
  simp only [List.length_take]
  omega
theorem cut7_small {z : Str} (h : smallS z) : smallS (cut7 z) := fun c hc => by
  have hc : c ∈ (z.cps.toList.drop _).take _ := hc
  exact h c (List.mem_of_mem_drop (List.mem_of_mem_take hc))
def sg (z : Str) (c : Nat) : Str := cut7 z ++ (⟨#[c]⟩ : Str)
theorem sg_list (z : Str) (c : Nat) : (sg z c).cps.toList = (cut7 z).cps.toList ++ [c] := by
  unfold sg
  rw [app_list]
theorem sg_W {z : Str} {c : Nat} (h : smallS z) (hc : c ∈ letters.cps.toList) (hk : sg z c ∉ keptS) : isW (sg z c) := by
  have l : (sg z c).length = (cut7 z).length + 1 := by
    unfold sg
    rw [strlen_app]; rfl
  have := cut7_len z
  refine ⟨⟨by omega, by omega⟩, fun x hx => ?_, hk⟩
  rw [sg_list] at hx
  rcases List.mem_append.mp hx with hx | hx
  · exact cut7_small h x hx
  · rw [List.mem_singleton.mp hx]; exact letters_small c hc
theorem some_sg (z : Str) (T : List Str) (h : T.length < 26) : ∃ c ∈ letters.cps.toList, sg z c ∉ T := by
  by_cases q : ∃ c ∈ letters.cps.toList, sg z c ∉ T
  · exact q
  · exfalso
    have all : ∀ x ∈ letters.cps.toList.map (sg z), x ∈ T := by
      intro x hx
      obtain ⟨c, hc, rfl⟩ := List.mem_map.mp hx
      by_cases hm : sg z c ∈ T
      · exact hm
      · exact absurd ⟨c, hc, hm⟩ q
    have nd : (letters.cps.toList.map (sg z)).Nodup := by
      refine List.Pairwise.map _ (fun a b hab e => ?_) (show letters.cps.toList.Nodup by decide +kernel)
      have := congrArg (fun s : Str => s.cps.toList) e
      simp only [sg_list] at this
      have := List.append_cancel_left this
      exact hab (by simpa using this)
    have := pigeon _ _ nd all
    rw [List.length_map, show letters.cps.toList.length = 26 by decide +kernel] at this
    omega
def wordsI (n k : Nat) (S : Sg) (many : Nat) (ds : List D) (ρ : Ro) (S2 : Sg) : Prop := ∃ (ws : List Str) (a b c e : Slot), ρ = [.va (.obj n), .va (.int many), .ow (.lst (ws.map .str)), a, b, c, e] ∧ Dr n k S2 ∧ Lk n k S S2 ∧ ws.length + ds.length = many ∧ ws.Nodup ∧ (∀ w ∈ ws, isW w) ∧ ∀ d ∈ ds, isLoc d = false
def sgD (z : Str) : D → D
  | .str y => .str (cut7 z ++ y)
  | d => d
def sgP (z : Str) (T : List Str) : D → Bool
  | .str y => !decide (cut7 z ++ y ∈ T)
  | _ => false
set_option maxHeartbeats 8000000 in
theorem words_W {n k : Nat} {S : Sg} {many : Nat} {Q : D → Sg → Prop} (h : Dr n k S) (hm : many ≤ 22) (q : ∀ (ws : List Str) S', Dr n k S' → Lk n k S S' → ws.length = many → ws.Nodup → (∀ w ∈ ws, isW w) → Q (.lst (ws.map .str)) S') : (wordsM [.obj n, .int many] S).W Q := by
  unfold wordsM
  rw [W_fn]
  refine ⟨rfl, ?_⟩
  unfold wordsB
  refine seq_of fun N hN => ?_
  simp [List.replicate]
  refine hN _ _ ?_
  clear hN
  refine seq_of fun N hN => ?_
  refine W_for (wordsI n k S many) ?_ ?_ ?_
  · simp [rng_1 (n := (many : Int)) (by omega)]
    exact ⟨[], _, _, _, _, rfl, h, .refl, by rw [rng_len]; simp, .nil, (fun _ h => nomatch h), rng_no _ _⟩
  · rintro d ds ρ S2 ⟨ws, a, b, c, e, rfl, d2, l2, hl, nd, hw, hd⟩
    have hd0 := hd d (List.mem_cons_self ..)
    rw [List.length_cons] at hl
    have hd1 : ∀ x ∈ ds, isLoc x = false := fun x hx => hd x (List.mem_cons_of_mem _ hx)
    refine ⟨_, by rw [tn_of, hd0]; rfl, ?_⟩
    refine seq_of fun N2 hN2 => ?_
    simp
    refine word_W d2 fun z S3 d3 l3 hz => ?_
    simp
    refine hN2 _ _ ?_
    clear hN2
    have ein : d_in false (.str z) (.lst (ws.map .str)) = some (.bl (decide (z ∈ ws))) := in_strs false z ws
    have dl : ∀ ρ : Ro, ρ[2]? = some (.ow (.lst (ws.map .str))) → deref ρ S3 (.loc 2) = some (.lst (ws.map .str)) := fun ρ e => by simp [de_loc, e]
    have fin : ∀ (w : Str) (x y z' v : Slot), isW w → w ∉ ws → (s_app (e_var 2) (e_var 4) [.va (.obj n), .va (.int many), .ow (.lst (ws.map .str)), x, .va (.str w), z', v] S3).W (wordsI n k S many ds) Q := by
      intro w x y z' v hw1 hw2
      have il : isLstAt [.va (.obj n), .va (.int many), .ow (.lst (ws.map .str)), x, .va (.str w), z', v] S3 (.loc 2) = true := by simp [isLstAt, de_loc]
      have hlen : ws.length < 100000 := by omega
      simp [il, hlen]
      refine ⟨ws ++ [w], x, .va (.str w), z', v, by simp, d3, l2.trans l3, by rw [List.length_append]; simp; omega, ?_, ?_, hd1⟩
      · rw [List.nodup_append]
        exact ⟨nd, by simp, fun a ha b hb e => hw2 (by rw [List.mem_singleton.mp hb] at e; exact e ▸ ha)⟩
      · intro u hu
        rcases List.mem_append.mp hu with hu | hu
        · exact hw u hu
        · rw [List.mem_singleton.mp hu]; exact hw1
    refine seq_of fun N2 hN2 => ?_
    simp [de_loc, ein]
    by_cases hin : z ∈ ws
    · simp [hin]
      have hlen : ws.length + 3 ≤ 100000 := by omega
      refine ⟨by omega, ?_⟩
      refine W_map (sgD z) (sgP z (ws ++ keptS)) ?_
      have ein2 : ∀ y : Str, d_in true (.str y) (.lst ((ws ++ keptS).map .str)) = some (.bl (!decide (y ∈ ws ++ keptS))) := fun y => in_strs true y (ws ++ keptS)
      have zl : z.length ≤ 100000 := by have := hz.1.2; omega
      have ekept : List.map D.str ws ++ [D.str "not", D.str "never", D.str "may"] = (ws ++ keptS).map .str := by rw [List.map_append]; rfl
      rw [W_iC, W_c]
      refine ⟨_, rfl, ?_, by decide +kernel, ?_⟩
      · intro d hd
        obtain ⟨ch, hc, rfl⟩ := List.mem_map.mp hd
        refine ⟨_, rfl, ?_, ?_⟩
        · have l1 : (cut7 z).length + (⟨#[ch]⟩ : Str).length ≤ 100000 := by
            have := cut7_len z
            have e1 : (⟨#[ch]⟩ : Str).length = 1 := rfl
            omega
          have es : d_add4 (.str (cutS z none (some 7))) (.str ⟨#[ch]⟩) = some (.str (cut7 z ++ ⟨#[ch]⟩)) := by rw [add4_str]; exact if_pos l1
          rw [ekept]
          simp [wipeR, zl, es, ein2, sgP, -add4_str, -List.map_append, -List.mem_append]
        · have l1 : (cut7 z).length + (⟨#[ch]⟩ : Str).length ≤ 100000 := by
            have := cut7_len z
            have e1 : (⟨#[ch]⟩ : Str).length = 1 := rfl
            omega
          have es : d_add4 (.str (cutS z none (some 7))) (.str ⟨#[ch]⟩) = some (.str (cut7 z ++ ⟨#[ch]⟩)) := by rw [add4_str]; exact if_pos l1
          intro _
          simp [wipeR, zl, es, sgD, -add4_str]
      · have ef : List.map (sgD z) (List.filter (sgP z (ws ++ keptS)) (Gd.signs letters)) = (letters.cps.toList.filter fun c => !decide (sg z c ∈ ws ++ keptS)).map fun c => .str (sg z c) := by
          rw [Gd.signs, List.filter_map, List.map_map]
          rfl
        rw [show Gd.signs (Str.ofString "abcdefghijklmnopqrstuvwxyz") = Gd.signs letters from rfl, ef]
        have tl : (ws ++ keptS).length < 26 := by rw [List.length_append]; have : keptS.length = 3 := rfl; omega
        obtain ⟨c0, hc0, hn0⟩ := some_sg z (ws ++ keptS) tl
        have all : ∀ x ∈ letters.cps.toList.filter (fun c => !decide (sg z c ∈ ws ++ keptS)), isW (sg z x) ∧ sg z x ∉ ws := by
          intro x hx
          obtain ⟨h1, h2⟩ := List.mem_filter.mp hx
          have h3 : sg z x ∉ ws ++ keptS := by simpa using h2
          exact ⟨sg_W hz.2.1 h1 fun q => h3 (List.mem_append_right _ q), fun q => h3 (List.mem_append_left _ q)⟩
        cases ef2 : letters.cps.toList.filter (fun c => !decide (sg z c ∈ ws ++ keptS)) with
        | nil =>
          have : c0 ∈ letters.cps.toList.filter (fun c => !decide (sg z c ∈ ws ++ keptS)) := List.mem_filter.mpr ⟨hc0, by simpa using hn0⟩
          rw [ef2] at this
          cases this
        | cons c1 r =>
          rw [ef2] at all
          obtain ⟨k1, k2⟩ := all c1 (List.mem_cons_self ..)
          have e0 : atI ((c1 :: r).map fun c => D.str (sg z c)) 0 = some (.str (sg z c1)) := by
            have hp : (0 : Int) < ((c1 :: r).map fun c => D.str (sg z c)).length := by simp
            obtain ⟨x, x1, x2, _⟩ := atI_nn (xs := (c1 :: r).map fun c => D.str (sg z c)) (i := 0) (by omega) hp
            rw [x2]
            simpa using x1.symm
          refine ⟨.str (sg z c1), ?_, ?_⟩
          · show atI _ 0 = _
            exact e0
          · simp
            refine hN2 _ _ ?_
            exact fin _ _ .un _ _ k1 k2
    · simp [hin]
      refine hN2 _ _ ?_
      exact fin z _ b _ _ hz hin
  · rintro ρ S2 ⟨ws, a, b, c, e, rfl, d2, l2, hl, nd, hw, _⟩
    refine hN _ _ ?_
    simp [de_loc]
    exact q ws S2 d2 l2 (by simpa using hl) nd hw
end Gd

/-! Gm, part 7: lists of names; a rule. -/
namespace Gd
open PySem L2 PyProof.Rows

def areB : MS := (s_seq (s_if (t_or (t_not (t_e (e_op1 (d_isiN ["list", "tuple"]) (e_var 0)))) (t_e (e_op2 d_gt (e_cb (d_1 d_len) (a_cons (e_var 0) a_nil)) (e_var 1)))) (s_ret (e_c (.bl false))) s_nx)
  (s_ret (e_and (e_cb (d_1 d_all) (a_cons (f_lc [2] (i_seqC (e_var 0)) (t_name 2) t_yes (e_call nameM (a_cons (e_var 2) a_nil))) a_nil)) (e_op2 d_eq (e_op1 d_lenset (e_var 0)) (e_cb (d_1 d_len) (a_cons (e_var 0) a_nil))))))
def areM : List D → Sg → Out D := Gd.fn 3 areB 2
theorem isiN_lst (l : List D) : d_isiN ["list", "tuple"] (.lst l) = some (.bl true) := by
  unfold d_isiN
  rfl
theorem isiN_tup (l : List D) : d_isiN ["list", "tuple"] (.tup l) = some (.bl true) := by
  unfold d_isiN
  rfl
def nameD : D → D
  | .str z => .bl (decide (isW z))
  | _ => .bl false
theorem names_W {ws : List Str} {most : Int} {S : Sg} {Q : D → Sg → Prop} (hw : ∀ w ∈ ws, isW w) (hn : ws.Nodup) (hl : (ws.length : Int) ≤ most) (hm : most ≤ 1000) (q : Q (.bl true) S) {d : D} (hd : d = .lst (ws.map .str) ∨ d = .tup (ws.map .str)) : (areM [d, .int most] S).W Q := by
  have h1 : d_isiN ["list", "tuple"] d = some (.bl true) := by
    rcases hd with rfl | rfl
    · exact isiN_lst _
    · exact isiN_tup _
  have h2 : d_len d = some (.int ws.length) := by
    rcases hd with rfl | rfl
    · rw [len_lst, List.length_map]
    · rw [len_tup, List.length_map]
  have h3 : d_lenset d = some (.int ws.length) := by
    rcases hd with rfl | rfl
    · exact lenset_lst hn (by omega)
    · exact lenset_tup hn (by omega)
  have h4 : ∀ ρ : Ro, itemsC ρ d = some (ws.map .str) := by
    intro ρ
    rcases hd with rfl | rfl
    · exact ic_lst _
    · exact ic_tup _
  have h5 : ∀ (ρ : Ro) (S : Sg), deref ρ S d = some d := by
    intro ρ S
    rcases hd with rfl | rfl <;> rfl
  have hgt : ¬ most < (ws.length : Int) := by omega
  unfold areM
  rw [W_fn]
  refine ⟨rfl, ?_⟩
  unfold areB
  refine seq_of fun N hN => ?_
  simp [List.replicate, h5, h1, h2, hgt]
  refine hN _ _ ?_
  clear hN
  rw [W_ret, W_eand, W_cb, W_acons]
  refine W_map nameD (fun _ => true) ?_
  simp [h4, wipeR]
  refine ⟨?_, by omega, ?_⟩
  · intro w hw'
    refine name_text (by have := (hw w hw').1.2; omega) ?_
    simp [nameD, hw w hw']
  · have e : List.map nameD (List.filter (fun _ => true) (ws.map D.str)) = (ws.map fun _ => true).map .bl := by
      rw [List.filter_eq_self.mpr (fun _ _ => rfl), List.map_map, List.map_map]
      refine List.map_congr_left fun w hw' => ?_
      simp [nameD, hw w hw']
    have e2 : d_all (.lst ((ws.map fun _ => true).map .bl)) = some (.bl true) := by
      show (blsOf _).map _ = _
      rw [bls_of]
      simp
    rw [e]
    simp only [e2]
    simp [h5, h3, h2]
    exact q
/-! ### a rule -/
def headOk (h : D) : Prop := h = .non ∨ ∃ z, h = .str z ∧ isW z
def ruleF (h : D) (b u : List Str) : List (Str × D) := [("head", h), ("body", .tup (b.map .str)), ("unless", .tup (u.map .str))]
def ruleD (h : D) (b u : List Str) : D := .ins "Rule" (ruleF h b u)
def initB : MS := (s_seq (s_if (t_and (t_e (e_op2 d_notN (e_var 1) (e_c .non))) (t_not (t_e (e_call nameM (a_cons (e_var 1) a_nil))))) s_never s_nx)
  (s_seq (s_if (t_or (t_not (t_e (e_call areM (a_cons (e_var 2) (a_cons (e_c (.int 6)) a_nil))))) (t_not (t_e (e_call areM (a_cons (e_var 3) (a_cons (e_c (.int 4)) a_nil)))))) s_never s_nx)
  (s_seq (s_fld ["Rule"] "head" (e_var 1) (e_var 0))
  (s_seq (s_fld ["Rule"] "body" (e_cb (d_1 d_tuple) (a_cons (e_var 2) a_nil)) (e_var 0))
  (s_fld ["Rule"] "unless" (e_cb (d_1 d_tuple) (a_cons (e_var 3) a_nil)) (e_var 0))))))
def initM : List D → Sg → Out D := Gd.fn 4 initB 4
structure RuleOk (h : D) (b u : List Str) : Prop where
  hd : headOk h
  hb : ∀ w ∈ b, isW w
  hu : ∀ w ∈ u, isW w
  nb : b.Nodup
  nu : u.Nodup
  lb : b.length ≤ 6
  lu : u.length ≤ 4
/-- a list or a tuple of them -/
def listy (d : D) (ws : List Str) : Prop := d = .lst (ws.map .str) ∨ d = .tup (ws.map .str)
theorem listy.tuple {d : D} {ws : List Str} (h : listy d ws) : d_tuple d = some (.tup (ws.map .str)) := by rcases h with rfl | rfl <;> rfl
theorem listy.de {d : D} {ws : List Str} (h : listy d ws) (ρ : Ro) (S : Sg) : deref ρ S d = some d := by rcases h with rfl | rfl <;> rfl
theorem listy.lo {d : D} {ws : List Str} (h : listy d ws) : isLoc d = false := by rcases h with rfl | rfl <;> rfl
theorem headOk.de {d : D} (h : headOk d) (ρ : Ro) (S : Sg) : deref ρ S d = some d := by rcases h with rfl | ⟨z, rfl, _⟩ <;> rfl
theorem headOk.lo {d : D} (h : headOk d) : isLoc d = false := by rcases h with rfl | ⟨z, rfl, _⟩ <;> rfl
theorem putTo_last {S : Sg} {d c' : D} {f : D → Option D} {ρ : Ro} {nx : Ro → Sg → Prop} {rt : D → Sg → Prop} (h : f d = some c') (q : nx ρ (S ++ [c'])) : (putTo (.obj S.length) f ρ (S ++ [d])).W nx rt := by
  rw [put_obj]
  have e : (S ++ [d])[S.length]? = some d := by
    rw [List.getElem?_append_right (Nat.le_refl _), Nat.sub_self]; rfl
  refine ⟨d, c', e, h, ?_⟩
  rw [List.set_append_right _ _ (Nat.le_refl _), Nat.sub_self]
  exact q
@[simp] theorem ne_hb : ¬ (Str.ofString "head" = Str.ofString "body") := by decide +kernel
@[simp] theorem ne_hu : ¬ (Str.ofString "head" = Str.ofString "unless") := by decide +kernel
@[simp] theorem ne_bu : ¬ (Str.ofString "body" = Str.ofString "unless") := by decide +kernel
theorem init_rest {h db du : D} {b u : List Str} {S : Sg} {Q : D → Sg → Prop} {N : Ro → Sg → Prop} (m : MS) (e : m = (s_seq (s_if (t_or (t_not (t_e (e_call areM (a_cons (e_var 2) (a_cons (e_c (.int 6)) a_nil))))) (t_not (t_e (e_call areM (a_cons (e_var 3) (a_cons (e_c (.int 4)) a_nil)))))) s_never s_nx)
  (s_seq (s_fld ["Rule"] "head" (e_var 1) (e_var 0))
  (s_seq (s_fld ["Rule"] "body" (e_cb (d_1 d_tuple) (a_cons (e_var 2) a_nil)) (e_var 0))
  (s_fld ["Rule"] "unless" (e_cb (d_1 d_tuple) (a_cons (e_var 3) a_nil)) (e_var 0)))))) (en : N = fun _ S => Q .non S) (oh : headOk h) (okb : ∀ w ∈ b, isW w) (oku : ∀ w ∈ u, isW w) (nb : b.Nodup) (nu : u.Nodup) (lb : b.length ≤ 6) (lu : u.length ≤ 4) (hb : listy db b) (hu : listy du u) (q : Q .non (S ++ [ruleD h b u])) : (m [.va (.obj S.length), .va h, .va db, .va du] (S ++ [.ins "Rule" []])).W N Q := by
  subst e en
  refine seq_of fun N hN => ?_
  simp [hb.lo, hu.lo]
  refine names_W okb nb (by omega) (by omega) ?_ hb
  simp [hb.lo, hu.lo]
  refine names_W oku nu (by omega) (by omega) ?_ hu
  simp
  refine hN _ _ ?_
  clear hN
  refine seq_of fun N hN => ?_
  simp [oh.lo, putFD]
  refine hN _ _ ?_
  clear hN
  refine seq_of fun N hN => ?_
  simp [hb.de, hb.tuple, putFD]
  refine hN _ _ ?_
  clear hN
  simp [hu.de, hu.tuple, putFD]
  exact q
theorem init_W {h db du : D} {b u : List Str} {S : Sg} {Q : D → Sg → Prop} (ok : RuleOk h b u) (hb : listy db b) (hu : listy du u) (q : Q .non (S ++ [ruleD h b u])) : (initM [.obj S.length, h, db, du] (S ++ [.ins "Rule" []])).W Q := by
  unfold initM
  rw [W_fn]
  refine ⟨rfl, ?_⟩
  unfold initB
  refine seq_of fun N hN => ?_
  rcases ok.hd with rfl | ⟨z, rfl, hz⟩
  · simp [d_notN, isNonD]
    refine hN _ _ ?_
    exact init_rest _ rfl rfl (.inl rfl) ok.hb ok.hu ok.nb ok.nu ok.lb ok.lu hb hu q
  · simp [d_notN, isNonD]
    refine name_text (by have := hz.1.2; omega) ?_
    simp [hz]
    refine hN _ _ ?_
    exact init_rest _ rfl rfl (.inr ⟨z, rfl, hz⟩) ok.hb ok.hu ok.nb ok.nu ok.lb ok.lu hb hu q
end Gd

/-! Gm, part 8: what a rule tells; its text. -/
namespace Gd
open PySem L2 PyProof.Rows

def toldB : MS := (s_ret (e_tup (a_cons (e_c (.str "rule")) (a_cons (e_op1 (d_fld ["Rule"] "head") (e_var 0)) (a_cons (e_op1 (d_fld ["Rule"] "body") (e_var 0)) (a_cons (e_op1 (d_fld ["Rule"] "unless") (e_var 0)) a_nil))))))
def toldM : List D → Sg → Out D := Gd.fn 1 toldB 1
def eqB : MS := (s_ret (e_and (e_op1 (d_isC [("NoneType", false), ("bool", false), ("int", false), ("str", false), ("list", false), ("tuple", false), ("dict", false)] [("Rule", true)]) (e_var 1)) (e_op2 d_eq (e_meth "Rule" "told" toldM (e_var 0) a_nil) (e_meth "Rule" "told" toldM (e_var 1) a_nil))))
def eqM : List D → Sg → Out D := Gd.fn 2 eqB 2
def textB : MS := (s_seq (s_set 1 (e_op2 d_add4 (e_cb (d_1 d_list) (a_cons (e_op1 (d_fld ["Rule"] "body") (e_var 0)) a_nil)) (f_lc [2] (i_seqC (e_op1 (d_fld ["Rule"] "unless") (e_var 0))) (t_name 2) t_yes (e_fstr [(e_c (.str "not ")), (e_fmt (e_var 2))] Str.empty))))
  (s_seq (s_if (t_e (e_op2 d_isN (e_op1 (d_fld ["Rule"] "head") (e_var 0)) (e_c .non))) (s_ret (e_if (t_e (e_op2 d_ne (e_var 1) (f_lst a_nil))) (e_op2 d_add4 (e_c (.str "never ")) (e_m1 d_join (e_c (.str ", ")) (e_var 1))) (e_c (.str "never")))) s_nx)
  (s_ret (e_if (t_e (e_op2 d_ne (e_var 1) (f_lst a_nil))) (e_op2 d_add4 (e_op2 d_add4 (e_op1 (d_fld ["Rule"] "head") (e_var 0)) (e_c (.str " <- "))) (e_m1 d_join (e_c (.str ", ")) (e_var 1))) (e_op1 (d_fld ["Rule"] "head") (e_var 0))))))
def textM : List D → Sg → Out D := Gd.fn 3 textB 1
def strB : MS := (s_ret (e_fmt (e_meth "Rule" "text" textM (e_var 0) a_nil)))
def strM : List D → Sg → Out D := Gd.fn 1 strB 1
def ltextB : MS := (s_seq (s_set 1 (e_op2 d_add4 (e_cb (d_1 d_list) (a_cons (e_op2 d_ix (e_var 0) (e_c (.int 1))) a_nil)) (f_lc [2] (i_seqC (e_op2 d_ix (e_var 0) (e_c (.int 2)))) (t_name 2) t_yes (e_op2 d_add4 (e_c (.str "not ")) (e_var 2)))))
  (s_seq (s_if (t_e (e_op2 d_isN (e_op2 d_ix (e_var 0) (e_c (.int 0))) (e_c .non))) (s_ret (e_m1 d_join (e_c (.str " ")) (e_op2 d_add4 (f_lst (a_cons (e_c (.str "never")) a_nil)) (e_sl d_sl3 (f_lst (a_cons (e_m1 d_join (e_c (.str ", ")) (e_var 1)) a_nil)) o_no (o_e (e_cb (d_1 d_len) (a_cons (e_var 1) a_nil))))))) s_nx)
  (s_ret (e_m1 d_join (e_c (.str " <- ")) (e_op2 d_add4 (f_lst (a_cons (e_op2 d_ix (e_var 0) (e_c (.int 0))) a_nil)) (e_sl d_sl3 (f_lst (a_cons (e_m1 d_join (e_c (.str ", ")) (e_var 1)) a_nil)) o_no (o_e (e_cb (d_1 d_len) (a_cons (e_var 1) a_nil)))))))))
def ltextM : List D → Sg → Out D := Gd.fn 3 ltextB 1
theorem cls_rule (h : D) (b u : List Str) : isCls "Rule" (ruleD h b u) = true := by simp [isCls, ruleD]
theorem nof_text (h : D) (b u : List Str) : noFld "text" (ruleD h b u) = true := by
  have e1 : (Str.ofString "text" == Str.ofString "head") = false := by decide +kernel
  have e2 : (Str.ofString "text" == Str.ofString "body") = false := by decide +kernel
  have e3 : (Str.ofString "text" == Str.ofString "unless") = false := by decide +kernel
  simp [noFld, ruleD, ruleF, List.lookup_cons, e1, e2, e3]
theorem nof_told (h : D) (b u : List Str) : noFld "told" (ruleD h b u) = true := by
  have e1 : (Str.ofString "told" == Str.ofString "head") = false := by decide +kernel
  have e2 : (Str.ofString "told" == Str.ofString "body") = false := by decide +kernel
  have e3 : (Str.ofString "told" == Str.ofString "unless") = false := by decide +kernel
  simp [noFld, ruleD, ruleF, List.lookup_cons, e1, e2, e3]
@[simp] theorem fld_head (h : D) (b u : List Str) : d_fld ["Rule"] "head" (ruleD h b u) = some h := by
  unfold ruleD ruleF
  rw [fld_ins, if_pos (List.mem_cons_self ..), List.lookup_cons, beq_self_eq_true]
@[simp] theorem fld_body (h : D) (b u : List Str) : d_fld ["Rule"] "body" (ruleD h b u) = some (.tup (b.map .str)) := by
  have e1 : (Str.ofString "body" == Str.ofString "head") = false := by decide +kernel
  unfold ruleD ruleF
  rw [fld_ins, if_pos (List.mem_cons_self ..), List.lookup_cons, e1, List.lookup_cons, beq_self_eq_true]
@[simp] theorem fld_unless (h : D) (b u : List Str) : d_fld ["Rule"] "unless" (ruleD h b u) = some (.tup (u.map .str)) := by
  have e1 : (Str.ofString "unless" == Str.ofString "head") = false := by decide +kernel
  have e2 : (Str.ofString "unless" == Str.ofString "body") = false := by decide +kernel
  unfold ruleD ruleF
  rw [fld_ins, if_pos (List.mem_cons_self ..), List.lookup_cons, e1, List.lookup_cons, e2, List.lookup_cons, beq_self_eq_true]
@[simp] theorem lo_rule (h : D) (b u : List Str) : isLoc (ruleD h b u) = false := rfl
@[simp] theorem de_rule (h : D) (b u : List Str) (ρ : Ro) (S : Sg) : deref ρ S (ruleD h b u) = some (ruleD h b u) := rfl
def toldD (h : D) (b u : List Str) : D := .tup [.str "rule", h, .tup (b.map .str), .tup (u.map .str)]
theorem told_W {h : D} {b u : List Str} {S : Sg} {Q : D → Sg → Prop} (oh : headOk h) (q : Q (toldD h b u) S) : (toldM [ruleD h b u] S).W Q := by
  unfold toldM
  rw [W_fn]
  refine ⟨rfl, ?_⟩
  unfold toldB
  simp [List.replicate, oh.lo]
  exact q
theorem eqv_told {h : D} {b u : List Str} (ok : RuleOk h b u) : eqDp (toldD h b u) (toldD h b u) = some true := by
  have hb : ∀ c ∈ b, PyData.strOk c = true := fun c hc => small_ok (ok.hb c hc).2.1
  have hu : ∀ c ∈ u, PyData.strOk c = true := fun c hc => small_ok (ok.hu c hc).2.1
  obtain ⟨b1, b2⟩ := lay_strs b hb
  obtain ⟨u1, u2⟩ := lay_strs u hu
  have r : PyData.strOk "rule" = true := by decide +kernel
  rcases ok.hd with rfl | ⟨z, rfl, hz⟩
  · simp [toldD, eqDp, py, pyL, pyL_strs, SeqAt.shaped, PyData.canLay0, PyData.canLayAll0, PyData.depth, PyData.depthAll, b1, b2, u1, u2, r, PyData.eqv, PyData.eqvAll, eqv_strs]
  · have z1 := small_ok hz.2.1
    simp [toldD, eqDp, py, pyL, pyL_strs, SeqAt.shaped, PyData.canLay0, PyData.canLayAll0, PyData.depth, PyData.depthAll, b1, b2, u1, u2, r, z1, PyData.eqv, PyData.eqvAll, eqv_strs]
theorem told_eq {h : D} {b u : List Str} (ok : RuleOk h b u) : d_eq (toldD h b u) (toldD h b u) = some (.bl true) := by
  show ((none : Option Bool).or (eqDp _ _)).map _ = _
  rw [eqv_told ok]; rfl
theorem told_ne {h : D} {b u : List Str} (ok : RuleOk h b u) : d_ne (toldD h b u) (toldD h b u) = some (.bl false) := by
  show ((none : Option Bool).or (eqDp _ _)).map _ = _
  rw [eqv_told ok]; rfl
theorem isC_rule (h : D) (b u : List Str) : d_isC [("NoneType", false), ("bool", false), ("int", false), ("str", false), ("list", false), ("tuple", false), ("dict", false)] [("Rule", true)] (ruleD h b u) = some (.bl true) := by
  simp [d_isC, ruleD, List.lookup_cons]
theorem eq_W {h : D} {b u : List Str} {S : Sg} {Q : D → Sg → Prop} (ok : RuleOk h b u) (q : Q (.bl true) S) : (eqM [ruleD h b u, ruleD h b u] S).W Q := by
  unfold eqM
  rw [W_fn]
  refine ⟨rfl, ?_⟩
  unfold eqB
  simp [List.replicate, isC_rule, cls_rule, nof_told]
  refine told_W ok.hd ?_
  refine told_W ok.hd ?_
  have l : isLoc (toldD h b u) = false := rfl
  have de : ∀ (ρ : Ro) S, deref ρ S (toldD h b u) = some (toldD h b u) := fun _ _ => rfl
  simp [de, told_eq ok]
  exact q
/-! ### its text -/
def notS (w : Str) : Str := ("not " : Str) ++ w
def partsT (b u : List Str) : List Str := b ++ u.map notS
def ruleT (h : D) (b u : List Str) : Str := match h with
  | .str z => if partsT b u = [] then z else (z ++ (" <- " : Str)) ++ Txt.join ", " (partsT b u)
  | _ => if partsT b u = [] then "never" else ("never " : Str) ++ Txt.join ", " (partsT b u)
theorem len_not (w : Str) : (notS w).length = 4 + w.length := by
  unfold notS
  rw [strlen_app]; rfl
theorem parts_len {h : D} {b u : List Str} (ok : RuleOk h b u) : ∀ w ∈ partsT b u, w.length ≤ 12 := by
  intro w hw
  rcases List.mem_append.mp hw with hw | hw
  · have := (ok.hb w hw).1.2; omega
  · obtain ⟨v, hv, rfl⟩ := List.mem_map.mp hw
    have := (ok.hu v hv).1.2
    rw [len_not]; omega
theorem sum_le : ∀ (ws : List Str), (∀ w ∈ ws, w.length ≤ 12) → (ws.map (·.length)).sum ≤ 12 * ws.length
  | [], _ => by simp
  | w :: ws, h => by
    have := sum_le ws fun x hx => h x (List.mem_cons_of_mem _ hx)
    have := h w (List.mem_cons_self ..)
    simp only [List.map_cons, List.sum_cons, List.length_cons]; omega
theorem parts_n {h : D} {b u : List Str} (ok : RuleOk h b u) : (partsT b u).length ≤ 10 := by
  have := ok.lb; have := ok.lu
  unfold partsT
  rw [List.length_append, List.length_map]; omega
theorem join_d {ws : List Str} (h : ∀ w ∈ ws, w.length ≤ 1000) (hn : ws.length ≤ 20) (s : Str) (hs : s.length ≤ 10) : d_join s (.lst (ws.map .str)) = some (.str (Txt.join s ws)) := by
  show (strsOf (ws.map .str)).bind _ = _
  rw [strsOf_map]
  show (if _ then _ else _) = _
  rw [if_pos]
  have h1 : ∀ (ws : List Str), (∀ w ∈ ws, w.length ≤ 1000) → (ws.map (·.length)).sum ≤ 1000 * ws.length := by
    intro ws
    induction ws with
    | nil => intro _; simp
    | cons w ws ih =>
      intro h
      have := ih fun x hx => h x (List.mem_cons_of_mem _ hx)
      have := h w (List.mem_cons_self ..)
      simp only [List.map_cons, List.sum_cons, List.length_cons]; omega
  have := h1 ws h
  have : ws.length * s.length ≤ 20 * 10 := Nat.mul_le_mul hn hs
  omega
theorem join_len (s : Str) (ws : List Str) : (Txt.join s ws).length ≤ (ws.map (·.length)).sum + ws.length * s.length := by
  rw [TL.join_eq]
  exact StrLaws.join_length_le s ws

theorem ne_strs (as bs : List Str) (ha : ∀ c ∈ as, PyData.strOk c = true) (hb : ∀ c ∈ bs, PyData.strOk c = true) : d_ne (.lst (as.map .str)) (.lst (bs.map .str)) = some (.bl (!decide (as = bs))) := by
  have h : eqDp (.lst (as.map .str)) (.lst (bs.map .str)) = some (decide (as = bs)) := by
    simp [eqDp, py, pyL_strs, shp_strs as ha, shp_strs bs hb, PyData.eqv, eqv_strs]
  unfold d_ne
  rw [h]
  rfl
theorem parts_ok {h : D} {b u : List Str} (ok : RuleOk h b u) : ∀ w ∈ partsT b u, PyData.strOk w = true := by
  intro w hw
  rcases List.mem_append.mp hw with hw | hw
  · exact small_ok (ok.hb w hw).2.1
  · obtain ⟨v, hv, rfl⟩ := List.mem_map.mp hw
    unfold PyData.strOk
    rw [Array.all_eq_true']
    intro c hc
    have hc : c ∈ (notS v).cps.toList := by simpa using hc
    unfold notS at hc
    rw [app_list] at hc
    rcases List.mem_append.mp hc with hc | hc
    · have : ∀ c ∈ ("not " : Str).cps.toList, c < 1114112 := by decide +kernel
      simpa using this c hc
    · have := (ok.hu v hv).2.1 c hc
      simp; omega
theorem text_W {h : D} {b u : List Str} {S : Sg} {Q : D → Sg → Prop} (ok : RuleOk h b u) (q : Q (.str (ruleT h b u)) S) : (textM [ruleD h b u] S).W Q := by
  unfold textM
  rw [W_fn]
  refine ⟨rfl, ?_⟩
  unfold textB
  have ep : b.map D.str ++ u.map (fun w => D.str (notS w)) = (partsT b u).map .str := by
    unfold partsT
    rw [List.map_append, List.map_map]; rfl
  have hne : d_ne (.lst ((partsT b u).map .str)) (.lst []) = some (.bl (!decide (partsT b u = []))) := ne_strs _ [] (parts_ok ok) (fun _ h => nomatch h)
  have hj : d_join ", " (.lst ((partsT b u).map .str)) = some (.str (Txt.join ", " (partsT b u))) := join_d (fun w hw => by have := parts_len ok w hw; omega) (by have := parts_n ok; omega) _ (by decide +kernel)
  have hjl := join_len ", " (partsT b u)
  have hs := sum_le _ (parts_len ok)
  have hn := parts_n ok
  have l2 : (Str.ofString ", ").length = 2 := by decide +kernel
  rw [l2] at hjl
  refine seq_of fun N hN => ?_
  rw [W_set, W_op2, W_cb, W_acons]
  simp only [W_op1, W_var, List.replicate, List.map_cons, List.map_nil, List.cons_append, List.nil_append]
  simp
  refine W_map (fun d => match d with | .str w => .str (notS w) | d => d) (fun _ => true) ?_
  simp [wipeR]
  have el : ∀ a ∈ u, Str.empty.length + (Str.ofString "not ").length ≤ 100000 ∧ a.length ≤ 100000 ∧ (Str.empty ++ Str.ofString "not ").length + a.length ≤ 100000 ∧ Str.empty ++ Str.ofString "not " ++ a = notS a := by
    intro a ha
    have := (ok.hu a ha).1.2
    have e1 : (Str.empty ++ Str.ofString "not ").length = 4 := by decide +kernel
    have e2 : Str.empty ++ Str.ofString "not " = Str.ofString "not " := by decide +kernel
    exact ⟨by decide +kernel, by omega, by omega, by rw [e2]; rfl⟩
  have ef : List.filter (fun x => true) (List.map D.str u) = List.map D.str u := List.filter_eq_self.mpr (fun _ _ => rfl)
  have lb := ok.lb
  have lu := ok.lu
  refine ⟨el, by omega, by rw [ef, List.length_map]; omega, ?_⟩
  rw [ef, List.map_map]
  have ep2 : b.map D.str ++ u.map ((fun d => match d with | D.str w => D.str (notS w) | d => d) ∘ D.str) = (partsT b u).map .str := ep
  rw [ep2]
  refine hN _ _ ?_
  clear hN
  refine seq_of fun N hN => ?_
  rcases ok.hd with rfl | ⟨z, rfl, hz⟩
  · simp [d_isN, isNonD, hne]
    by_cases hp : partsT b u = []
    · simp [hp]
      simpa [ruleT, hp] using q
    · have e6 : (Str.ofString "never ").length = 6 := by decide +kernel
      have hl : 6 + (Txt.join (Str.ofString ", ") (partsT b u)).length ≤ 100000 := by omega
      simp [hp, hj, e6, hl]
      simpa [ruleT, hp] using q
  · simp [d_isN, isNonD]
    refine hN _ _ ?_
    clear hN
    simp [hne]
    by_cases hp : partsT b u = []
    · simp [hp]
      simpa [ruleT, hp] using q
    · have e6 : (Str.ofString " <- ").length = 4 := by decide +kernel
      have hz1 := hz.1.2
      have e7 : (z ++ Str.ofString " <- ").length = z.length + 4 := by rw [strlen_app, e6]
      have hl : z.length + 4 + (Txt.join (Str.ofString ", ") (partsT b u)).length ≤ 100000 := by omega
      have hl2 : z.length + 4 ≤ 100000 := by omega
      simp [hp, hj, e6, e7, hl, hl2]
      simpa [ruleT, hp] using q
theorem ruleT_len {h : D} {b u : List Str} (ok : RuleOk h b u) : (ruleT h b u).length ≤ 200 := by
  have hjl := join_len ", " (partsT b u)
  have hs := sum_le _ (parts_len ok)
  have hn := parts_n ok
  have l2 : (Str.ofString ", ").length = 2 := by decide +kernel
  rw [l2] at hjl
  have e6 : (Str.ofString " <- ").length = 4 := by decide +kernel
  have e7 : (Str.ofString "never ").length = 6 := by decide +kernel
  have e8 : (Str.ofString "never").length = 5 := by decide +kernel
  rcases ok.hd with rfl | ⟨z, rfl, hz⟩
  · unfold ruleT
    simp only
    split
    · omega
    · rw [strlen_app]; omega
  · have hz1 := hz.1.2
    unfold ruleT
    simp only
    split
    · omega
    · rw [strlen_app, strlen_app]; omega
theorem str_W {h : D} {b u : List Str} {S : Sg} {Q : D → Sg → Prop} (ok : RuleOk h b u) (q : Q (.str (ruleT h b u)) S) : (strM [ruleD h b u] S).W Q := by
  unfold strM
  rw [W_fn]
  refine ⟨rfl, ?_⟩
  unfold strB
  have := ruleT_len ok
  have hl : (ruleT h b u).length ≤ 100000 := by omega
  simp [List.replicate, cls_rule, nof_text]
  refine text_W ok ?_
  simp [hl]
  exact q
theorem join_two (s a b : Str) : Txt.join s [a, b] = a ++ (s ++ b) := by
  apply str_ext
  rw [TL.join_eq]
  have := TL.tl_join s [a, b]
  show TL.tl _ = _
  rw [this, app_list, app_list]
  rfl
theorem ltext_W {h : D} {b u : List Str} {S : Sg} {Q : D → Sg → Prop} (ok : RuleOk h b u) (q : Q (.str (ruleT h b u)) S) : (ltextM [.tup [h, .tup (b.map .str), .tup (u.map .str)]] S).W Q := by
  unfold ltextM
  rw [W_fn]
  refine ⟨rfl, ?_⟩
  unfold ltextB
  have i0 : d_ix (.tup [h, .tup (b.map .str), .tup (u.map .str)]) (.int 0) = some h := rfl
  have i1 : d_ix (.tup [h, .tup (b.map .str), .tup (u.map .str)]) (.int 1) = some (.tup (b.map .str)) := rfl
  have i2 : d_ix (.tup [h, .tup (b.map .str), .tup (u.map .str)]) (.int 2) = some (.tup (u.map .str)) := rfl
  have ep : b.map D.str ++ u.map (fun w => D.str (notS w)) = (partsT b u).map .str := by
    unfold partsT
    rw [List.map_append, List.map_map]; rfl
  have hj : d_join ", " (.lst ((partsT b u).map .str)) = some (.str (Txt.join ", " (partsT b u))) := join_d (fun w hw => by have := parts_len ok w hw; omega) (by have := parts_n ok; omega) _ (by decide +kernel)
  have hjl := join_len ", " (partsT b u)
  have hs := sum_le _ (parts_len ok)
  have hn := parts_n ok
  have l2 : (Str.ofString ", ").length = 2 := by decide +kernel
  rw [l2] at hjl
  refine seq_of fun N hN => ?_
  rw [W_set, W_op2, W_cb, W_acons]
  simp [List.replicate, i0, i1, i2]
  refine W_map (fun d => match d with | .str w => .str (notS w) | d => d) (fun _ => true) ?_
  simp [wipeR, i2]
  have el : ∀ a ∈ u, (Str.ofString "not ").length + a.length ≤ 100000 ∧ Str.ofString "not " ++ a = notS a := by
    intro a ha
    have := (ok.hu a ha).1.2
    have e1 : (Str.ofString "not ").length = 4 := by decide +kernel
    exact ⟨by omega, rfl⟩
  have ef : List.filter (fun x => true) (List.map D.str u) = List.map D.str u := List.filter_eq_self.mpr (fun _ _ => rfl)
  have lb := ok.lb
  have lu := ok.lu
  refine ⟨el, by omega, by rw [ef, List.length_map]; omega, ?_⟩
  rw [ef, List.map_map]
  have ep2 : b.map D.str ++ u.map ((fun d => match d with | D.str w => D.str (notS w) | d => d) ∘ D.str) = (partsT b u).map .str := ep
  rw [ep2]
  refine hN _ _ ?_
  clear hN
  have hcut : ∀ J : Str, cutD [D.str J] none (some ((partsT b u).length : Int)) = if partsT b u = [] then [] else [D.str J] := by
    intro J
    cases e : partsT b u with
    | nil => rfl
    | cons x xs =>
      rw [if_neg (by simp)]
      unfold cutD
      have e : HT.sIx [D.str J].length [D.str J].length (some (((x :: xs).length : Nat) : Int)) = 1 := by
        rw [HT.sIx_nat]; simp
      rw [e]
      rfl
  have j2 : ∀ (s x y : Str), x.length ≤ 20 → y.length ≤ 1000 → s.length ≤ 10 → d_join s (.lst [.str x, .str y]) = some (.str (x ++ (s ++ y))) := by
    intro s x y hx hy hs
    rw [← join_two]
    exact join_d (ws := [x, y]) (fun w hw => by
      rcases List.mem_cons.mp hw with rfl | hw
      · omega
      · rw [List.mem_singleton.mp hw]; omega) (by simp) s hs
  have j1 : ∀ (s x : Str), x.length ≤ 20 → s.length ≤ 10 → d_join s (.lst [.str x]) = some (.str x) := by
    intro s x hx hs
    exact join_d (ws := [x]) (fun w hw => by rw [List.mem_singleton.mp hw]; omega) (by simp) s hs
  have s1 : (Str.ofString " ").length = 1 := by decide +kernel
  have s4 : (Str.ofString " <- ").length = 4 := by decide +kernel
  have s5 : (Str.ofString "never").length = 5 := by decide +kernel
  refine seq_of fun N hN => ?_
  rcases ok.hd with rfl | ⟨z, rfl, hz⟩
  · simp [i0, d_isN, isNonD, hj, hcut]
    by_cases hp : partsT b u = []
    · simp [hp, j1 (Str.ofString " ") (Str.ofString "never") (by omega) (by omega)]
      simpa [ruleT, hp] using q
    · have e : Str.ofString "never" ++ (Str.ofString " " ++ Txt.join (Str.ofString ", ") (partsT b u)) = ("never " : Str) ++ Txt.join ", " (partsT b u) := by
        apply str_ext
        rw [app_list, app_list, app_list, ← List.append_assoc]
        congr 1
      simp [hp, j2 (Str.ofString " ") (Str.ofString "never") _ (by omega) (by omega : (Txt.join (Str.ofString ", ") (partsT b u)).length ≤ 1000) (by omega), e]
      simpa [ruleT, hp] using q
  · have hz1 := hz.1.2
    simp [i0, d_isN, isNonD]
    refine hN _ _ ?_
    clear hN
    simp [i0, hj, hcut]
    by_cases hp : partsT b u = []
    · simp [hp, j1 (Str.ofString " <- ") z (by omega) (by omega)]
      simpa [ruleT, hp] using q
    · have e : z ++ (Str.ofString " <- " ++ Txt.join (Str.ofString ", ") (partsT b u)) = (z ++ (" <- " : Str)) ++ Txt.join ", " (partsT b u) := by
        apply str_ext
        rw [app_list, app_list, app_list, app_list, List.append_assoc]
      simp [hp, j2 (Str.ofString " <- ") z _ (by omega) (by omega : (Txt.join (Str.ofString ", ") (partsT b u)).length ≤ 1000) (by omega), e]
      simpa [ruleT, hp] using q
end Gd

/-! Gm, part 9: a text is taken apart. -/
namespace Gd
open PySem L2 PyProof.Rows

def apartB : MS := (s_seq (s_own 1 (f_lst a_nil))
  (s_seq (s_set 2 (e_c (.int 0)))
  (s_seq (s_wh (t_e (e_op2 d_lt (e_var 2) (e_cb (d_1 d_len) (a_cons (e_var 0) a_nil)))) (s_seq (s_set 3 (e_op2 d_add4 (e_var 2) (e_c (.int 1))))
  (s_seq (s_if (t_e (e_op2 (d_in false) (e_op2 d_ix (e_var 0) (e_var 2)) (e_c (.str "abcdefghijklmnopqrstuvwxyz")))) (s_seq (s_wh (t_and (t_e (e_op2 d_lt (e_var 3) (e_cb (d_1 d_len) (a_cons (e_var 0) a_nil)))) (t_e (e_op2 (d_in false) (e_op2 d_ix (e_var 0) (e_var 3)) (e_c (.str "abcdefghijklmnopqrstuvwxyz"))))) (s_aug 3 d_addI (e_c (.int 1))) 100000)
  (s_app (e_var 1) (e_sl d_sl3 (e_var 0) (o_e (e_var 2)) (o_e (e_var 3))))) (s_if (t_e (e_op2 d_eq (e_sl d_sl3 (e_var 0) (o_e (e_var 2)) (o_e (e_op2 d_add4 (e_var 2) (e_c (.int 2))))) (e_c (.str "<-")))) (s_seq (s_set 3 (e_op2 d_add4 (e_var 2) (e_c (.int 2))))
  (s_app (e_var 1) (e_c (.str "<-")))) (s_if (t_e (e_op2 d_eq (e_op2 d_ix (e_var 0) (e_var 2)) (e_c (.str ",")))) (s_app (e_var 1) (e_c (.str ","))) (s_if (t_e (e_op2 d_ne (e_op2 d_ix (e_var 0) (e_var 2)) (e_c (.str " ")))) (s_ret (e_c .non)) s_nx))))
  (s_set 2 (e_var 3)))) 100000)
  (s_ret (e_var 1)))))
def apartM : List D → Sg → Out D := Gd.fn 4 apartB 1
def isLet (c : Nat) : Prop := 97 ≤ c ∧ c ≤ 122
instance (c : Nat) : Decidable (isLet c) := by unfold isLet; infer_instance
theorem mem_letters (c : Nat) : c ∈ letters.cps.toList ↔ isLet c := by
  constructor
  · exact letters_small c
  · have : ∀ c, c < 123 → isLet c → c ∈ letters.cps.toList := by decide +kernel
    exact fun h => this c (by have := h.2; omega) h
theorem in_let (c : Nat) : d_in false (.str ⟨#[c]⟩) (.str (Str.ofString "abcdefghijklmnopqrstuvwxyz")) = some (.bl (decide (isLet c))) := by
  have : d_in false (.str ⟨#[c]⟩) (.str (Str.ofString "abcdefghijklmnopqrstuvwxyz")) = some (.bl (decide (c ∈ letters.cps.toList))) := rfl
  rw [this]
  congr 2
  exact decide_eq_decide.mpr (mem_letters c)
theorem ix_at {z : Str} {pre rest : List Nat} {c : Nat} (h : z.cps.toList = pre ++ c :: rest) (hl : z.length ≤ 100000) : d_ix (.str z) (.int pre.length) = some (.str ⟨#[c]⟩) := by
  have hp : (pre.length : Int) < z.cps.toList.length := by
    rw [h, List.length_append, List.length_cons]; omega
  obtain ⟨x, x1, x2, _⟩ := atI_nn (xs := z.cps.toList) (i := (pre.length : Int)) (by omega) hp
  have : x = c := by
    rw [h] at x1
    simpa using x1.symm
  subst this
  rw [ix_str, if_pos hl, x2]
  rfl
theorem cut_at {z : Str} {pre rest : List Nat} (k : Nat) (h : z.cps.toList = pre ++ rest) : (cutS z (some (pre.length : Int)) (some ((pre.length + k : Nat) : Int))).cps.toList = rest.take k := by
  show ((z.cps.toList.drop _).take _) = _
  rw [HT.sIx_nat, HT.sIx_nat]
  have hz : z.length = pre.length + rest.length := by rw [str_len, h, List.length_append]
  rw [show min pre.length z.length = pre.length by omega, h, List.drop_left]
  rw [show min (pre.length + k) z.length - pre.length = min k rest.length by omega]
  rw [← List.take_eq_take_min]
/-- the pieces of a text -/
def isWd (p : List Nat) : Prop := (1 ≤ p.length ∧ p.length ≤ 8) ∧ ∀ c ∈ p, isLet c
def isMk (p : List Nat) : Prop := p = [60, 45] ∨ p = [44] ∨ p = [32]
def okP : List (List Nat) → Prop
  | [] => True
  | p :: r => (isMk p ∨ isWd p ∧ ∀ q ∈ r.head?, isMk q) ∧ okP r
def pcS (p : List Nat) : Str := ⟨p.toArray⟩
def toks (ps : List (List Nat)) : List Str := (ps.filter fun p => decide (p ≠ [32])).map pcS
def apI (z : Str) (all : List Str) (S : Sg) (m : Nat) (ρ : Ro) (S2 : Sg) : Prop := ∃ (pre : List Nat) (ps : List (List Nat)) (out : List Str) (e : Slot), ρ = [.va (.str z), .ow (.lst (out.map .str)), .va (.int pre.length), e] ∧ S2 = S ∧ z.cps.toList = pre ++ ps.flatten ∧ okP ps ∧ out ++ toks ps = all ∧ m = ps.length
def apJ (z : Str) (out : List Str) (pre p : List Nat) (S : Sg) (m : Nat) (ρ : Ro) (S2 : Sg) : Prop := ∃ q w : List Nat, ρ = [.va (.str z), .ow (.lst (out.map .str)), .va (.int pre.length), .va (.int ((pre ++ q).length : Nat))] ∧ S2 = S ∧ p = q ++ w ∧ m = w.length
theorem notLet {p : List Nat} (h : isMk p) : ∃ c r, p = c :: r ∧ ¬ isLet c := by
  rcases h with rfl | rfl | rfl
  · exact ⟨_, _, rfl, by decide⟩
  · exact ⟨_, _, rfl, by decide⟩
  · exact ⟨_, _, rfl, by decide⟩
theorem W_while2 {t : MT} {b : MS} {nx : Ro → Sg → Prop} {rt : D → Sg → Prop} (I : Nat → Ro → Sg → Prop) (hb : ∀ k ρ S, I k ρ S → ∃ c, (t ρ S).W (fun c' S1 => c' = c ∧ S1 = S) ∧ (c = true → (b ρ S).W (fun ρ2 S2 => ∃ j, j < k ∧ I j ρ2 S2) rt) ∧ (c = false → nx ρ S))
    (n k : Nat) (ρ : Ro) (S : Sg) (i : I k ρ S) (h : k < n) : (s_wh t b n ρ S).W nx rt := by
  refine W_while I (fun k ρ S i => ?_) n k ρ S i h
  obtain ⟨c, h1, h2, h3⟩ := hb k ρ S i
  refine h1.mono ?_
  rintro c' S1 ⟨rfl, rfl⟩
  cases c' with
  | true => exact h2 rfl
  | false => exact h3 rfl
theorem if_true {t : MT} {a b : MS} {ρ : Ro} {S : Sg} {nx : Ro → Sg → Prop} {rt : D → Sg → Prop} (h : (t ρ S).W fun c S1 => c = true ∧ S1 = S) (k : (a ρ S).W nx rt) : (s_if t a b ρ S).W nx rt := by
  rw [W_if]
  refine h.mono ?_
  rintro c S1 ⟨rfl, rfl⟩
  exact k
theorem toks_mk {p : List Nat} {r : List (List Nat)} (h : p ≠ [32]) : toks (p :: r) = pcS p :: toks r := by
  unfold toks
  rw [List.filter_cons, if_pos (by simpa using h)]
  rfl
theorem toks_sp (r : List (List Nat)) : toks ([32] :: r) = toks r := by
  unfold toks
  rw [List.filter_cons, if_neg (by simp)]
theorem apart_W {z : Str} {ps : List (List Nat)} {S : Sg} {Q : D → Sg → Prop} (hl : z.length ≤ 1000) (hz : z.cps.toList = ps.flatten) (ok : okP ps) (hp : ps.length ≤ 1000) (q : Q (.lst ((toks ps).map .str)) S) : (apartM [.str z] S).W Q := by
  unfold apartM
  rw [W_fn]
  refine ⟨rfl, ?_⟩
  unfold apartB
  have hl2 : z.length ≤ 100000 := by omega
  refine seq_of fun N hN => ?_
  simp [List.replicate]
  refine hN _ _ ?_
  clear hN
  refine seq_of fun N hN => ?_
  simp
  refine hN _ _ ?_
  clear hN
  refine seq_of fun N hN => ?_
  refine W_while2 (apI z (toks ps) S) ?_ 100000 ps.length _ _ ⟨[], ps, [], _, rfl, rfl, by simpa using hz, ok, rfl, rfl⟩ (by omega)
  rintro m ρ S2 ⟨pre, ps2, out, e, rfl, rfl, ez, ok2, eo, rfl⟩
  have hzl : z.length = pre.length + ps2.flatten.length := by rw [str_len, ez, List.length_append]
  cases ps2 with
  | nil =>
    have : ¬ ((pre.length : Int) < z.length) := by rw [hzl]; simp
    refine ⟨false, by simp [hl2, this], (fun h => nomatch h), fun _ => ?_⟩
    refine hN _ _ ?_
    have : out = toks ps := by simpa [toks] using eo
    simp [de_loc, this]
    exact q
  | cons p r =>
    obtain ⟨ok3, ok4⟩ := ok2
    have hne : 1 ≤ p.length := by
      rcases ok3 with (rfl | rfl | rfl) | h
      · decide
      · decide
      · decide
      · exact h.1.1.1
    rw [List.flatten_cons] at ez hzl
    rw [List.length_append] at hzl
    have hlt : ((pre.length : Int) < z.length) := by omega
    refine ⟨true, by simp [hl2, hlt], fun _ => ?_, (fun h => nomatch h)⟩
    clear hN
    have ol : out.length < 100000 := by
      have h1 : (toks ps).length ≤ ps.length := by
        unfold toks
        rw [List.length_map]
        exact List.length_filter_le ..
      rw [← eo, List.length_append] at h1
      omega
    have nxt : ∀ (out2 : List Str) (x : Nat), x = pre.length + p.length → out2 ++ toks r = toks ps → ∀ N2 : Ro → Sg → Prop, (∀ ρ S', (s_set 2 (e_var 3) ρ S').W (fun ρ2 S3 => ∃ j, j < (p :: r).length ∧ apI z (toks ps) S2 j ρ2 S3) Q → N2 ρ S') → N2 [.va (.str z), .ow (.lst (out2.map .str)), .va (.int pre.length), .va (.int (x : Int))] S2 := by
      intro out2 x hx ho N2 hN2
      refine hN2 _ _ ?_
      simp
      refine ⟨r.length, by omega, pre ++ p, r, out2, .va (.int (x : Int)), ?_, rfl, by rw [ez, List.append_assoc], ok4, ho, rfl⟩
      rw [hx, List.length_append]
    refine seq_of fun N2 hN2 => ?_
    simp
    refine hN2 _ _ ?_
    clear hN2
    refine seq_of fun N2 hN2 => ?_
    have nxt := fun out2 x h1 h2 => nxt out2 x h1 h2 N2 hN2
    clear hN2
    have ap : ∀ (w : Str) (x : Int) (N3 : Ro → Sg → Prop), N3 [.va (.str z), .ow (.lst ((out ++ [w]).map .str)), .va (.int pre.length), .va (.int x)] S2 → ∀ me : ME, (me [.va (.str z), .ow (.lst (out.map .str)), .va (.int pre.length), .va (.int x)] S2).W (fun d S' => d = .str w ∧ S' = S2) → (s_app (e_var 1) me [.va (.str z), .ow (.lst (out.map .str)), .va (.int pre.length), .va (.int x)] S2).W N3 Q := by
      intro w x N3 k me hm
      simp
      refine ⟨by simp [isLstAt, de_loc], ?_⟩
      refine hm.mono ?_
      rintro d S' ⟨rfl, rfl⟩
      simp [ol]
      simpa using k
    have hcut : cutS z (some (pre.length : Int)) (some ((pre.length : Int) + 2)) = pcS ((p ++ r.flatten).take 2) := by
      apply str_ext
      have := cut_at 2 ez
      rw [show ((pre.length + 2 : Nat) : Int) = (pre.length : Int) + 2 by omega] at this
      rw [this]
      rfl
    rcases ok3 with (rfl | rfl | rfl) | ⟨hw, hnx⟩
    · have e0 : d_ix (.str z) (.int pre.length) = some (.str ⟨#[60]⟩) := ix_at (rest := 45 :: r.flatten) ez hl2
      have e1 : pcS (([60, 45] ++ r.flatten).take 2) = Str.ofString "<-" := by
        have : List.take 2 (([60, 45] : List Nat) ++ r.flatten) = [60, 45] := rfl
        rw [this]
        decide +kernel
      rw [e1] at hcut
      simp [e0, -ix_str, in_let, show ¬ isLet 60 by decide, hl2, hcut]
      have il : isLstAt [.va (.str z), .ow (.lst (out.map .str)), .va (.int pre.length), .va (.int ((pre.length : Int) + 2))] S2 (.loc 1) = true := by simp [isLstAt, de_loc]
      simp [il, ol]
      have := nxt (out ++ [pcS [60, 45]]) (pre.length + 2) rfl (by rw [← eo, toks_mk (by decide)]; simp)
      have e2 : pcS [60, 45] = Str.ofString "<-" := by decide +kernel
      rw [e2] at this
      simpa using this
    · have e0 : d_ix (.str z) (.int pre.length) = some (.str ⟨#[44]⟩) := ix_at (rest := r.flatten) ez hl2
      have e1 : ∀ x, ¬ pcS (44 :: x) = Str.ofString "<-" := by
        intro x h
        have := congrArg (fun s : Str => s.cps.toList) h
        have e : (Str.ofString "<-").cps.toList = [60, 45] := by decide +kernel
        simp [pcS, e] at this
      have e3 : ((⟨#[44]⟩ : Str) = Str.ofString ",") ↔ True := by decide +kernel
      have il : isLstAt [.va (.str z), .ow (.lst (out.map .str)), .va (.int pre.length), .va (.int ((pre.length : Int) + 1))] S2 (.loc 1) = true := by simp [isLstAt, de_loc]
      simp [e0, -ix_str, in_let, show ¬ isLet 44 by decide, hl2, hcut, e1, e3, il, ol]
      have := nxt (out ++ [pcS [44]]) (pre.length + 1) rfl (by rw [← eo, toks_mk (by decide)]; simp)
      have e2 : pcS [44] = Str.ofString "," := by decide +kernel
      rw [e2] at this
      simpa using this
    · have e0 : d_ix (.str z) (.int pre.length) = some (.str ⟨#[32]⟩) := ix_at (rest := r.flatten) ez hl2
      have e1 : ∀ x, ¬ pcS (32 :: x) = Str.ofString "<-" := by
        intro x h
        have := congrArg (fun s : Str => s.cps.toList) h
        have e : (Str.ofString "<-").cps.toList = [60, 45] := by decide +kernel
        simp [pcS, e] at this
      have e3 : ((⟨#[32]⟩ : Str) = Str.ofString " ") ↔ True := by decide +kernel
      have e4 : ¬ ((⟨#[32]⟩ : Str) = Str.ofString ",") := by decide +kernel
      simp [e0, -ix_str, in_let, show ¬ isLet 32 by decide, hl2, hcut, e1, e3, e4]
      have := nxt out (pre.length + 1) rfl (by rw [← eo, toks_sp])
      simpa using this
    · obtain ⟨c, w, rfl⟩ : ∃ c w, p = c :: w := by
        cases p with
        | nil => simp at hne
        | cons c w => exact ⟨c, w, rfl⟩
      have e0 : d_ix (.str z) (.int pre.length) = some (.str ⟨#[c]⟩) := ix_at (rest := w ++ r.flatten) (by rw [ez]; rfl) hl2
      have hw1 := hw.1.2
      rw [List.length_cons] at hw1
      refine if_true (by simp [e0, -ix_str, in_let, hw.2 c (List.mem_cons_self ..)]) ?_
      refine seq_of fun N3 hN3 => ?_
      refine W_while2 (apJ z out pre (c :: w) S2) ?_ 100000 w.length _ _ ⟨[c], w, by simp, rfl, rfl, rfl⟩ (by omega)
      rintro m ρ S3 ⟨q', w', rfl, rfl, ep, rfl⟩
      have aug : ∀ (x : Int) (N4 : Ro → Sg → Prop), N4 [.va (.str z), .ow (.lst (out.map .str)), .va (.int pre.length), .va (.int (x + 1))] S3 → (s_aug 3 d_addI (e_c (.int 1)) [.va (.str z), .ow (.lst (out.map .str)), .va (.int pre.length), .va (.int x)] S3).W N4 Q := by
        intro x N4 h
        refine W_aug (x := .int x) 3 _ _ rfl ?_
        exact ⟨_, rfl, rfl, h⟩
      cases w' with
      | nil =>
        rw [List.append_nil] at ep
        subst ep
        have ez2 : z.cps.toList = (pre ++ c :: w) ++ r.flatten := by rw [ez, List.append_assoc]
        refine ⟨false, ?_, (fun h => nomatch h), fun _ => ?_⟩
        · cases r with
          | nil =>
            have hx : ¬ (((pre ++ c :: w).length : Int) < z.length) := by rw [str_len, ez2]; simp
            rw [W_tand, W_te, W_op2, W_var]
            simp [hl2, -List.length_append, hx]
          | cons p2 r2 =>
            obtain ⟨c2, t2, rfl, hc2⟩ := notLet (hnx p2 (by simp))
            have hx : (((pre ++ c :: w).length : Int) < z.length) := by rw [str_len, ez2, List.length_append (as := pre ++ c :: w)]; simp; omega
            have e5 : d_ix (.str z) (.int (pre ++ c :: w).length) = some (.str ⟨#[c2]⟩) := ix_at (rest := t2 ++ r2.flatten) (by rw [ez2]; rfl) hl2
            rw [W_tand, W_te, W_op2, W_var]
            simp [hl2, -List.length_append, hx, e5, -ix_str, in_let, hc2]
        · refine hN3 _ _ ?_
          have e6 := cut_at (z := z) (pre := pre) (rest := (c :: w) ++ r.flatten) (c :: w).length ez
          rw [List.take_left] at e6
          have e7 : cutS z (some (pre.length : Int)) (some ((pre ++ c :: w).length : Nat)) = pcS (c :: w) := by
            apply str_ext
            rw [List.length_append, e6]
            rfl
          refine ap (pcS (c :: w)) _ _ ?_ _ ?_
          · refine nxt _ _ ?_ ?_
            · rw [List.length_append]
            · have h32 : c :: w ≠ [32] := by
                intro h
                have := hw.2 32 (by rw [h]; simp)
                exact absurd this (by decide)
              rw [← eo, toks_mk h32]
              simp
          · simp [hl2, e7, -List.length_append]
      | cons c' w' =>
        have ez2 : z.cps.toList = (pre ++ q') ++ c' :: (w' ++ r.flatten) := by rw [ez, ep]; simp
        have hx : (((pre ++ q').length : Int) < z.length) := by rw [str_len, ez2, List.length_append (as := pre ++ q')]; simp; omega
        have e5 : d_ix (.str z) (.int (pre ++ q').length) = some (.str ⟨#[c']⟩) := ix_at ez2 hl2
        have hc : isLet c' := hw.2 c' (by rw [ep]; simp)
        refine ⟨true, ?_, fun _ => ?_, (fun h => nomatch h)⟩
        · rw [W_tand, W_te, W_op2, W_var]
          simp [hl2, -List.length_append, hx, e5, -ix_str, in_let, hc]
        · refine aug _ _ ?_
          refine ⟨w'.length, by simp, q' ++ [c'], w', ?_, rfl, by rw [ep]; simp, rfl⟩
          simp
          omega
end Gd

/-! Gm, part 10: rows of pieces; a rule read. -/
namespace Gd
open PySem L2 PyProof.Rows

def listedB : MS := (s_seq (s_own 1 (f_lst (a_cons (e_sh (f_lst a_nil)) a_nil)))
  (s_seq (s_for (i_seqG (e_var 0)) (t_name 2) (s_if (t_e (e_op2 d_eq (e_var 2) (e_c (.str ",")))) (s_app (e_var 1) (e_sh (f_lst a_nil))) (s_app (e_op2 d_ix (e_var 1) (e_op1 d_neg (e_c (.int 1)))) (e_var 2))))
  (s_ret (e_var 1))))
def listedM : List D → Sg → Out D := Gd.fn 3 listedB 1
noncomputable def byB : MS := (s_seq (s_star 1 2 (e_if (t_e (e_op2 d_ne (e_var 0) (f_lst a_nil))) (e_var 0) (f_lst (a_cons (e_c (.str "")) a_nil))))
  (s_seq (s_set 3 (f_lst a_nil))
  (s_seq (s_if (t_and (t_e (e_op2 d_eq (e_var 1) (e_c (.str "never")))) (t_e (e_op2 d_ne (e_var 2) (f_lst a_nil)))) (s_set 3 (e_call listedM (a_cons (e_var 2) a_nil))) (s_if (t_and (t_e (e_op2 d_ne (e_var 1) (e_c (.str "never")))) (t_e (e_op2 d_ne (e_var 2) (f_lst a_nil)))) (s_seq (s_if (t_or (t_e (e_op2 d_ne (e_op2 d_ix (e_var 2) (e_c (.int 0))) (e_c (.str "<-")))) (t_e (e_op2 d_eq (e_cb (d_1 d_len) (a_cons (e_var 2) a_nil)) (e_c (.int 1))))) (s_ret (e_c .non)) s_nx)
  (s_set 3 (e_call listedM (a_cons (e_sl d_sl3 (e_var 2) (o_e (e_c (.int 1))) o_no) a_nil)))) s_nx))
  (s_seq (s_set 4 (f_lc [7] (i_seqC (e_var 3)) (t_name 7) (t_e (e_op2 d_eq (e_cb (d_1 d_len) (a_cons (e_var 7) a_nil)) (e_c (.int 1)))) (e_op2 d_ix (e_var 7) (e_c (.int 0)))))
  (s_seq (s_set 5 (f_lc [7] (i_seqC (e_var 3)) (t_name 7) (t_and (t_e (e_op2 d_eq (e_cb (d_1 d_len) (a_cons (e_var 7) a_nil)) (e_c (.int 2)))) (t_e (e_op2 d_eq (e_op2 d_ix (e_var 7) (e_c (.int 0))) (e_c (.str "not"))))) (e_op2 d_ix (e_var 7) (e_c (.int 1)))))
  (s_seq (s_if (t_e (e_op2 d_ne (e_op2 d_add4 (e_cb (d_1 d_len) (a_cons (e_var 4) a_nil)) (e_cb (d_1 d_len) (a_cons (e_var 5) a_nil))) (e_cb (d_1 d_len) (a_cons (e_var 3) a_nil)))) (s_ret (e_c .non)) s_nx)
  (s_seq (s_set 6 (e_c .non))
  (s_seq (s_try [] (s_set 6 (e_mkF "Rule" initM (fun ds es => (ds ++ ((es[0]?).toList ++ []))) (a_cons (e_if (t_e (e_op2 d_eq (e_var 1) (e_c (.str "never")))) (e_c .non) (e_var 1)) (a_cons (e_var 4) a_nil)) (a_cons (e_var 5) a_nil))) (s_set 6 (e_c .non)))
  (s_ret (e_var 6))))))))))
noncomputable def byM : List D → Sg → Out D := Gd.fn 8 byB 1
noncomputable def rowB : MS := (s_seq (s_set 1 (e_call apartM (a_cons (e_var 0) a_nil)))
  (s_ret (e_if (t_e (e_op2 d_isN (e_var 1) (e_c .non))) (e_c .non) (e_call byM (a_cons (e_var 1) a_nil)))))
noncomputable def rowM : List D → Sg → Out D := Gd.fn 2 rowB 1
noncomputable def readB : MS := (s_seq (s_set 1 (e_if (t_e (e_op1 (d_isi "str") (e_var 0))) (e_call rowM (a_cons (e_var 0) a_nil)) (e_c .non)))
  (s_seq (s_if (t_e (e_op2 d_isN (e_var 1) (e_c .non))) s_never s_nx)
  (s_ret (e_var 1))))
noncomputable def readM : List D → Sg → Out D := Gd.fn 2 readB 1
def rowD (r : List Str) : D := .lst (r.map .str)
def objs (k n : Nat) : List D := (List.range n).map fun i => .obj (k + i)
def foldR (R : List (List Str)) (cur : List Str) : List Str → List (List Str)
  | [] => R ++ [cur]
  | t :: ts => if t = "," then foldR (R ++ [cur]) [] ts else foldR R (cur ++ [t]) ts
theorem foldR_cons (R : List (List Str)) (cur : List Str) (t : Str) (ts : List Str) : foldR R cur (t :: ts) = if t = "," then foldR (R ++ [cur]) [] ts else foldR R (cur ++ [t]) ts := rfl
theorem objs_succ (k n : Nat) : objs k (n + 1) = objs k n ++ [.obj (k + n)] := by
  unfold objs
  rw [List.range_succ, List.map_append]; rfl
theorem objs_len (k n : Nat) : (objs k n).length = n := by simp [objs]
theorem at_last {α : Type} (S A : List α) (x : α) : (S ++ (A ++ [x]))[S.length + A.length]? = some x := by
  rw [← List.append_assoc, List.getElem?_append_right (by simp), List.length_append, Nat.sub_self]; rfl
theorem set_last {α : Type} (S A : List α) (x y : α) : (S ++ (A ++ [x])).set (S.length + A.length) y = S ++ (A ++ [y]) := by
  rw [← List.append_assoc, List.set_append_right _ _ (by simp), List.length_append, Nat.sub_self, ← List.append_assoc]; rfl
theorem atI_last {α : Type} (A : List α) (x : α) : atI (A ++ [x]) (-1) = some x := by
  have e : ixN (A ++ [x]).length (-1) = some A.length := by
    unfold ixN
    rw [if_neg (by omega), if_pos (by rw [List.length_append]; simp; omega), List.length_append]
    congr 1
    simp
    omega
  unfold atI
  rw [e]
  simp
def liI (ts : List Str) (fin : List (List Str)) (S : Sg) (ds : List D) (ρ : Ro) (S2 : Sg) : Prop := ∃ (R : List (List Str)) (cur ts2 : List Str) (e : Slot), ρ = [.va (.lst (ts.map .str)), .ow (.lst (objs S.length (R.length + 1))), e] ∧ S2 = S ++ (R.map rowD ++ [rowD cur]) ∧ ds = ts2.map .str ∧ foldR R cur ts2 = fin ∧ R.length + cur.length + ts2.length ≤ 1000
theorem listed_W {ts : List Str} {S : Sg} {Q : D → Sg → Prop} (hl : ts.length ≤ 1000) (q : Q (.lst (objs S.length (foldR [] [] ts).length)) (S ++ (foldR [] [] ts).map rowD)) : (listedM [.lst (ts.map .str)] S).W Q := by
  unfold listedM
  rw [W_fn]
  refine ⟨rfl, ?_⟩
  unfold listedB
  refine seq_of fun N hN => ?_
  simp [List.replicate]
  refine hN _ _ ?_
  clear hN
  refine seq_of fun N hN => ?_
  refine W_for (liI ts (foldR [] [] ts) S) ?_ ?_ ?_
  · simp
    exact ⟨[], [], ts, _, rfl, rfl, rfl, rfl, by simpa using hl⟩
  · rintro d ds ρ S2 ⟨R, cur, ts2, e, rfl, rfl, ed, ef, hb⟩
    cases ts2 with
    | nil => cases ed
    | cons t ts2 =>
      rw [List.map_cons] at ed
      obtain ⟨rfl, rfl⟩ := List.cons.inj ed
      refine ⟨_, by rw [tn_of]; rfl, ?_⟩
      rw [List.length_cons] at hb
      have il : ∀ ρ : Ro, ∀ S', isLstAt [.va (.lst (ts.map .str)), .ow (.lst (objs S.length (R.length + 1))), .va (.str t)] S' (.loc 1) = true := by intro _ _; simp [isLstAt, de_loc]
      have hr : R.length + 1 < 100000 := by omega
      have hc : cur.length < 100000 := by omega
      have e1 := at_last S (R.map rowD) (rowD cur)
      rw [List.length_map] at e1
      rw [foldR_cons] at ef
      by_cases ht : t = ","
      · rw [if_pos ht] at ef
        subst ht
        simp [objs_len, hr]
        refine ⟨by simp [isLstAt, de_loc], R ++ [cur], [], ts2, .va (.str ","), ?_, ?_, rfl, ef, ?_⟩
        · rw [objs_succ _ (R ++ [cur]).length, List.length_append]
          rfl
        · rw [List.map_append, List.append_assoc]
          rfl
        · rw [List.length_append]
          simp
          omega
      · rw [if_neg ht] at ef
        have e2 : d_ix (.lst (objs S.length (R.length + 1))) (.int (-1)) = some (.obj (S.length + R.length)) := by
          rw [objs_succ]
          exact atI_last _ _
        simp [ht, de_loc, e2, e1]
        have e3 : appD (.str t) (rowD cur) = some (rowD (cur ++ [t])) := by
          unfold rowD
          rw [ap_lst, if_pos (by simpa using hc), List.map_append]; rfl
        refine ⟨rfl, _, e3, R, cur ++ [t], ts2, .va (.str t), rfl, rfl, rfl, ef, ?_⟩
        rw [List.length_append]
        simp
        omega
  · rintro ρ S2 ⟨R, cur, ts2, e, rfl, rfl, ed, ef, hb⟩
    cases ts2 with
    | cons t ts2 => cases ed
    | nil =>
      refine hN _ _ ?_
      simp [de_loc]
      have : foldR [] [] ts = R ++ [cur] := ef.symm
      rw [this] at q
      simpa using q

/-! ### the pieces of a rule's text -/
def commaT : List (List Str) → List Str
  | [] => []
  | [r] => r
  | r :: q :: t => r ++ Str.ofString "," :: commaT (q :: t)
def rowsT (b u : List Str) : List (List Str) := b.map (fun w => [w]) ++ u.map fun w => [Str.ofString "not", w]
theorem fold_row (R : List (List Str)) (ts : List Str) : ∀ (row cur : List Str), (∀ t ∈ row, t ≠ ",") → foldR R cur (row ++ ts) = foldR R (cur ++ row) ts
  | [], cur, _ => by simp
  | t :: row, cur, h => by
    rw [List.cons_append, foldR_cons, if_neg (h t (List.mem_cons_self ..)), fold_row R ts row _ fun x hx => h x (List.mem_cons_of_mem _ hx), List.append_assoc]
    rfl
theorem fold_comma : ∀ (rows : List (List Str)) (R : List (List Str)), rows ≠ [] → (∀ r ∈ rows, ∀ t ∈ r, t ≠ ",") → foldR R [] (commaT rows) = R ++ rows
  | [], _, h, _ => absurd rfl h
  | [r], R, _, h => by
    have := fold_row R [] r [] (h r (List.mem_cons_self ..))
    rw [List.append_nil] at this
    show foldR R [] r = _
    rw [this]
    rfl
  | r :: q :: t, R, _, h => by
    show foldR R [] (r ++ Str.ofString "," :: commaT (q :: t)) = _
    rw [fold_row R _ r [] (h r (List.mem_cons_self ..)), foldR_cons, if_pos rfl, fold_comma (q :: t) _ (by simp) fun x hx => h x (List.mem_cons_of_mem _ hx)]
    simp
theorem comma_len : ∀ (rows : List (List Str)), (∀ r ∈ rows, r.length ≤ 2) → (commaT rows).length ≤ 3 * rows.length
  | [], _ => by simp [commaT]
  | [r], h => by
    have := h r (List.mem_cons_self ..)
    simp [commaT]; omega
  | r :: q :: t, h => by
    have h1 := comma_len (q :: t) fun x hx => h x (List.mem_cons_of_mem _ hx)
    have := h r (List.mem_cons_self ..)
    show (r ++ Str.ofString "," :: commaT (q :: t)).length ≤ _
    rw [List.length_append, List.length_cons]
    simp only [List.length_cons] at h1 ⊢
    omega
theorem comma_mem {P : Str → Prop} (hc : P ",") : ∀ (rows : List (List Str)), (∀ r ∈ rows, ∀ t ∈ r, P t) → ∀ t ∈ commaT rows, P t
  | [], _, t, ht => nomatch ht
  | [r], h, t, ht => h r (List.mem_cons_self ..) t ht
  | r :: q :: l, h, t, ht => by
    rcases List.mem_append.mp (show t ∈ r ++ Str.ofString "," :: commaT (q :: l) from ht) with ht | ht
    · exact h r (List.mem_cons_self ..) t ht
    · rcases List.mem_cons.mp ht with rfl | ht
      · exact hc
      · exact comma_mem hc (q :: l) (fun x hx => h x (List.mem_cons_of_mem _ hx)) t ht
theorem comma_ne : ∀ (rows : List (List Str)), rows ≠ [] → (∀ r ∈ rows, r ≠ []) → commaT rows ≠ []
  | [], h, _ => absurd rfl h
  | [r], _, h => h r (List.mem_cons_self ..)
  | r :: q :: t, _, h => by
    show r ++ Str.ofString "," :: commaT (q :: t) ≠ []
    simp
theorem rows_of {b u : List Str} {r : List Str} (h : r ∈ rowsT b u) : (∃ w ∈ b, r = [w]) ∨ ∃ w ∈ u, r = [Str.ofString "not", w] := by
  rcases List.mem_append.mp h with h | h
  · obtain ⟨w, hw, rfl⟩ := List.mem_map.mp h; exact .inl ⟨w, hw, rfl⟩
  · obtain ⟨w, hw, rfl⟩ := List.mem_map.mp h; exact .inr ⟨w, hw, rfl⟩
theorem isW_ne {w z : Str} (h : isW w) (hz : ¬ smallS z) : w ≠ z := fun e => hz (e ▸ h.2.1)
def goodT (t : Str) : Prop := PyData.strOk t = true
theorem rows_good {h : D} {b u : List Str} (ok : RuleOk h b u) : ∀ r ∈ rowsT b u, ∀ t ∈ r, PyData.strOk t = true ∧ t ≠ "," := by
  intro r hr t ht
  rcases rows_of hr with ⟨w, hw, rfl⟩ | ⟨w, hw, rfl⟩
  · rw [List.mem_singleton.mp ht]
    exact ⟨small_ok (ok.hb w hw).2.1, isW_ne (ok.hb w hw) (by decide +kernel)⟩
  · rcases List.mem_cons.mp ht with rfl | ht
    · exact ⟨by decide +kernel, by decide +kernel⟩
    · rw [List.mem_singleton.mp ht]
      exact ⟨small_ok (ok.hu w hw).2.1, isW_ne (ok.hu w hw) (by decide +kernel)⟩
theorem rows_len2 {b u : List Str} : ∀ r ∈ rowsT b u, r.length ≤ 2 ∧ r ≠ [] := by
  intro r hr
  rcases rows_of hr with ⟨w, hw, rfl⟩ | ⟨w, hw, rfl⟩ <;> simp
def headS : D → Str
  | .str z => z
  | _ => "never"
def restT (h : D) (b u : List Str) : List Str := if rowsT b u = [] then [] else match h with
  | .str _ => Str.ofString "<-" :: commaT (rowsT b u)
  | _ => commaT (rowsT b u)
/-! ### the rows again -/
def rowOf (S : Sg) : D → List Str
  | .obj j => match S[j]? with
    | some (.lst l) => (strsOf l).getD []
    | _ => []
  | _ => []
theorem objs_mem {S : Sg} {rows : List (List Str)} {d : D} (h : d ∈ objs S.length rows.length) : ∃ j r, d = .obj j ∧ (S ++ rows.map rowD)[j]? = some (rowD r) ∧ r ∈ rows ∧ rowOf (S ++ rows.map rowD) d = r := by
  obtain ⟨i, hi, rfl⟩ := List.mem_map.mp h
  have hi := List.mem_range.mp hi
  have e : (S ++ rows.map rowD)[S.length + i]? = some (rowD rows[i]) := by
    rw [List.getElem?_append_right (by omega), Nat.add_sub_cancel_left, List.getElem?_map, List.getElem?_eq_getElem hi]; rfl
  refine ⟨_, rows[i], rfl, e, List.getElem_mem hi, ?_⟩
  simp only [rowOf, e]
  show (strsOf (List.map D.str rows[i])).getD [] = rows[i]
  rw [strsOf_map]; rfl
theorem map_rows (S : Sg) (rows : List (List Str)) : (objs S.length rows.length).map (rowOf (S ++ rows.map rowD)) = rows := by
  apply List.ext_getElem
  · rw [List.length_map, objs_len]
  · intro i h1 h2
    rw [List.getElem_map]
    have e : (S ++ rows.map rowD)[S.length + i]? = some (rowD rows[i]) := by
      rw [List.getElem?_append_right (by omega), Nat.add_sub_cancel_left, List.getElem?_map, List.getElem?_eq_getElem h2]; rfl
    have : (objs S.length rows.length)[i]'(by rw [objs_len]; exact h2) = .obj (S.length + i) := by simp [objs]
    rw [this]
    simp only [rowOf, e]
    show (strsOf (List.map D.str rows[i])).getD [] = rows[i]
    rw [strsOf_map]; rfl
theorem rows_sel (S : Sg) (rows : List (List Str)) (P : List Str → Bool) (G : List Str → D) : ((objs S.length rows.length).filter fun d => P (rowOf (S ++ rows.map rowD) d)).map (fun d => G (rowOf (S ++ rows.map rowD) d)) = (rows.filter P).map G := by
  have h := map_rows S rows
  have e : rows.filter P = (((objs S.length rows.length).map (rowOf (S ++ rows.map rowD))).filter P) := by rw [h]
  rw [e, List.filter_map, List.map_map]
  rfl
def P1 (r : List Str) : Bool := decide (r.length = 1)
def P2 (r : List Str) : Bool := decide (r.length = 2) && decide (r.headD "" = "not")
def G1 (r : List Str) : D := .str (r.headD "")
def G2 (r : List Str) : D := .str (r.getLastD "")
theorem sel1 (b u : List Str) : ((rowsT b u).filter P1).map G1 = b.map .str := by
  unfold rowsT
  rw [List.filter_append, List.filter_map, List.filter_map]
  have e1 : b.filter (P1 ∘ fun w => [w]) = b := List.filter_eq_self.mpr fun _ _ => rfl
  have e2 : u.filter (P1 ∘ fun w => [Str.ofString "not", w]) = [] := List.filter_eq_nil_iff.mpr fun _ _ => by simp [P1]
  rw [e1, e2]
  simp [G1]
theorem sel2 (b u : List Str) : ((rowsT b u).filter P2).map G2 = u.map .str := by
  unfold rowsT
  rw [List.filter_append, List.filter_map, List.filter_map]
  have e1 : b.filter (P2 ∘ fun w => [w]) = [] := List.filter_eq_nil_iff.mpr fun _ _ => by simp [P2]
  have e2 : u.filter (P2 ∘ fun w => [Str.ofString "not", w]) = u := List.filter_eq_self.mpr fun _ _ => by simp [P2]
  rw [e1, e2]
  simp [G2]
end Gd

/-! Gm, part 11: a rule out of its pieces. -/
namespace Gd
open PySem L2 PyProof.Rows

theorem cut1 (x : D) (l : List D) : cutD (x :: l) (some 1) none = l := by
  unfold cutD
  have e : HT.sIx (x :: l).length 0 (some 1) = 1 := by
    have := HT.sIx_nat (x :: l).length 0 1
    exact this.trans (by simp)
  have e2 : HT.sIx (x :: l).length (x :: l).length none = (x :: l).length := rfl
  rw [e, e2]
  simp
theorem ix_zero (x : D) (l : List D) : d_ix (.lst (x :: l)) (.int 0) = some x := by
  obtain ⟨y, h1, h2, _⟩ := atI_nn (xs := x :: l) (i := 0) (by omega) (by rw [List.length_cons]; omega)
  have : y = x := by simpa using h1.symm
  subst this
  exact h2
theorem rows_n {h : D} {b u : List Str} (ok : RuleOk h b u) : (rowsT b u).length = b.length + u.length ∧ b.length + u.length ≤ 10 := by
  have := ok.lb; have := ok.lu
  unfold rowsT
  rw [List.length_append, List.length_map, List.length_map]
  exact ⟨rfl, by omega⟩
theorem lenl (l : List Str) : d_len (.lst (l.map .str)) = some (.int l.length) := by rw [len_lst, List.length_map]
theorem okL_strs (n : Nat) (l : List Str) : okL n (l.map .str) = true := by
  induction l with
  | nil => rfl
  | cons a l ih => simp [okL, okD, ih]
theorem okD_rule (n : Nat) {h : D} {b u : List Str} (oh : headOk h) : okD n (ruleD h b u) = true := by
  rcases oh with rfl | ⟨z, rfl, _⟩ <;> simp [ruleD, ruleF, okD, okF, okL_strs]
theorem isW_never {z : Str} (h : isW z) : ¬ z = Str.ofString "never" := fun e => h.2.2 (by rw [e]; decide +kernel)
theorem by_W {h : D} {b u : List Str} {S : Sg} {Q : D → Sg → Prop} (ok : RuleOk h b u) (q : ∀ S', (∃ X, S' = S ++ X) → Q (ruleD h b u) S') : (byM [.lst ((headS h :: restT h b u).map .str)] S).W Q := by
  have hgood := rows_good ok
  have hcm : ∀ t ∈ commaT (rowsT b u), PyData.strOk t = true := comma_mem (P := fun t => PyData.strOk t = true) (by decide +kernel) _ fun r hr t ht => (hgood r hr t ht).1
  have hcl := comma_len (rowsT b u) fun r hr => (rows_len2 r hr).1
  obtain ⟨rn, rn2⟩ := rows_n ok
  have hrl : (restT h b u).length ≤ 100 := by
    unfold restT
    split
    · simp
    · split
      · rw [List.length_cons]; omega
      · omega
  have hrg : ∀ t ∈ restT h b u, PyData.strOk t = true := by
    intro t ht
    unfold restT at ht
    split at ht
    · cases ht
    · split at ht
      · rcases List.mem_cons.mp ht with rfl | ht
        · decide +kernel
        · exact hcm t ht
      · exact hcm t ht
  have hhg : PyData.strOk (headS h) = true := by
    rcases ok.hd with rfl | ⟨z, rfl, hz⟩
    · decide +kernel
    · exact small_ok hz.2.1
  have hn1 : d_ne (.lst ((headS h :: restT h b u).map .str)) (.lst []) = some (.bl true) := by
    have := ne_strs (headS h :: restT h b u) [] (fun t ht => by
      rcases List.mem_cons.mp ht with rfl | ht
      · exact hhg
      · exact hrg t ht) (fun _ h => nomatch h)
    simpa using this
  have hn2 : d_ne (.lst ((restT h b u).map .str)) (.lst []) = some (.bl (!decide (restT h b u = []))) := ne_strs _ [] hrg (fun _ h => nomatch h)
  unfold byM
  rw [W_fn]
  refine ⟨rfl, ?_⟩
  unfold byB
  refine seq_of fun N hN => ?_
  rw [List.map_cons] at hn1 ⊢
  have hrl2 : (restT h b u).length ≤ 16000 := by omega
  rw [W_star, W_eif, W_te, W_op2, W_var]
  simp [List.replicate, hn1, hrl2]
  refine hN _ _ ?_
  clear hN
  refine seq_of fun N hN => ?_
  simp
  refine hN _ _ ?_
  clear hN
  refine seq_of fun N hN => ?_
  have fin : N [.va (.lst (.str (headS h) :: (restT h b u).map .str)), .va (.str (headS h)), .va (.lst ((restT h b u).map .str)), .va (.lst (objs S.length (rowsT b u).length)), .un, .un, .un, .un] (S ++ (rowsT b u).map rowD) := by
    refine hN _ _ ?_
    clear hN
    refine seq_of fun N hN => ?_
    rw [W_set]
    refine W_map (fun d => G1 (rowOf (S ++ (rowsT b u).map rowD) d)) (fun d => P1 (rowOf (S ++ (rowsT b u).map rowD) d)) ?_
    simp only [W_iC, W_var, List.getElem?_cons_succ, List.getElem?_cons_zero, List.set_cons_succ, List.set_cons_zero]
    refine ⟨_, ic_lst _, ?_⟩
    rw [rows_sel, sel1]
    simp [wipeR]
    refine ⟨?_, by rw [objs_len]; omega, ?_⟩
    · intro d hd
      obtain ⟨j, r, rfl, e1, hr, e2⟩ := objs_mem hd
      rw [e2]
      have de : ∀ ρ : Ro, deref ρ (S ++ (rowsT b u).map rowD) (.obj j) = some (rowD r) := fun _ => e1
      have lo : isLoc (.obj j) = false := rfl
      rcases rows_of hr with ⟨w, hw, rfl⟩ | ⟨w, hw, rfl⟩
      · have l1 : d_len (rowD [w]) = some (.int 1) := rfl
        have x0 : d_ix (rowD [w]) (.int 0) = some (.str w) := rfl
        simp [de, lo, l1, x0, e1, P1, G1, P2, G2]
      · have l1 : d_len (rowD [Str.ofString "not", w]) = some (.int 2) := rfl
        have x0 : d_ix (rowD [Str.ofString "not", w]) (.int 0) = some (.str (Str.ofString "not")) := rfl
        have x1 : d_ix (rowD [Str.ofString "not", w]) (.int 1) = some (.str w) := rfl
        simp [de, lo, l1, x0, x1, e1, P1, G1, P2, G2]
    · refine hN _ _ ?_
      clear hN
      refine seq_of fun N hN => ?_
      rw [W_set]
      refine W_map (fun d => G2 (rowOf (S ++ (rowsT b u).map rowD) d)) (fun d => P2 (rowOf (S ++ (rowsT b u).map rowD) d)) ?_
      simp only [W_iC, W_var, List.getElem?_cons_succ, List.getElem?_cons_zero, List.set_cons_succ, List.set_cons_zero]
      refine ⟨_, ic_lst _, ?_⟩
      rw [rows_sel, sel2]
      simp [wipeR]
      refine ⟨?_, by rw [objs_len]; omega, ?_⟩
      · intro d hd
        obtain ⟨j, r, rfl, e1, hr, e2⟩ := objs_mem hd
        rw [e2]
        have de : ∀ ρ : Ro, deref ρ (S ++ (rowsT b u).map rowD) (.obj j) = some (rowD r) := fun _ => e1
        have lo : isLoc (.obj j) = false := rfl
        rcases rows_of hr with ⟨w, hw, rfl⟩ | ⟨w, hw, rfl⟩
        · have l1 : d_len (rowD [w]) = some (.int 1) := rfl
          have x0 : d_ix (rowD [w]) (.int 0) = some (.str w) := rfl
          simp [de, lo, l1, x0, e1, P1, G1, P2, G2]
        · have l1 : d_len (rowD [Str.ofString "not", w]) = some (.int 2) := rfl
          have x0 : d_ix (rowD [Str.ofString "not", w]) (.int 0) = some (.str (Str.ofString "not")) := rfl
          have x1 : d_ix (rowD [Str.ofString "not", w]) (.int 1) = some (.str w) := rfl
          simp [de, lo, l1, x0, x1, e1, P1, G1, P2, G2]
      · refine hN _ _ ?_
        clear hN
        refine seq_of fun N hN => ?_
        have hcnt : (b.length : Int) + (u.length : Int) = ((rowsT b u).length : Int) := by omega
        simp [lenl, len_lst, objs_len, hcnt]
        refine hN _ _ ?_
        clear hN
        refine seq_of fun N hN => ?_
        simp
        refine hN _ _ ?_
        clear hN
        refine seq_of fun N hN => ?_
        generalize hT : S ++ (rowsT b u).map rowD = T
        refine W_try ?_
        rw [W_set]
        refine mkF_W ?_
        have eh : (e_if (t_e (e_op2 d_eq (e_var 1) (e_c (.str "never")))) (e_c .non) (e_var 1) [.va (.lst (.str (headS h) :: (restT h b u).map .str)), .va (.str (headS h)), .va (.lst ((restT h b u).map .str)), .va (.lst (objs S.length (rowsT b u).length)), .va (.lst (b.map .str)), .va (.lst (u.map .str)), .va .non, .un] T).W fun d S' => d = h ∧ S' = T := by
          rcases ok.hd with rfl | ⟨z, rfl, hz⟩
          · simp [headS]
          · have : ¬ z = Str.ofString "never" := isW_never hz
            simp [headS, this]
        rw [W_acons]
        refine eh.mono ?_
        rintro d S' ⟨rfl, rfl⟩
        simp [ok.hd.lo]
        refine init_W ok (.inl rfl) (.inl rfl) ?_
        refine ⟨rfl, _, rfl, okD_rule _ ok.hd, rfl, ?_⟩
        refine hN _ _ ?_
        simp
        exact q _ ⟨_, hT.symm⟩
  clear hN
  have hobj : rowsT b u = [] → objs S.length (rowsT b u).length = [] ∧ S ++ (rowsT b u).map rowD = S := by
    intro e
    rw [e]
    exact ⟨rfl, by simp⟩
  have hfold : rowsT b u ≠ [] → foldR [] [] (commaT (rowsT b u)) = rowsT b u := fun e => by
    rw [fold_comma _ _ e fun r hr t ht => (hgood r hr t ht).2]; rfl
  have hcl2 : (commaT (rowsT b u)).length ≤ 1000 := by omega
  rcases ok.hd with rfl | ⟨z, rfl, hz⟩
  · by_cases he : rowsT b u = []
    · have er : restT .non b u = [] := by unfold restT; rw [if_pos he]
      obtain ⟨o1, o2⟩ := hobj he
      rw [o1, o2, er] at fin
      rw [er] at hn2 ⊢
      have hn3 : d_ne (.lst []) (.lst []) = some (.bl false) := by simpa using hn2
      simp [headS, hn3]
      simpa [headS] using fin
    · have er : restT .non b u = commaT (rowsT b u) := by unfold restT; rw [if_neg he]
      have hne : commaT (rowsT b u) ≠ [] := comma_ne _ he fun r hr => (rows_len2 r hr).2
      rw [er] at hn2 fin ⊢
      simp [headS, hn2, hne]
      refine listed_W hcl2 ?_
      rw [hfold he]
      simpa [headS] using fin
  · have hz3 : ¬ z = Str.ofString "never" := isW_never hz
    by_cases he : rowsT b u = []
    · have er : restT (.str z) b u = [] := by unfold restT; rw [if_pos he]
      obtain ⟨o1, o2⟩ := hobj he
      rw [o1, o2, er] at fin
      rw [er] at hn2 ⊢
      have hn3 : d_ne (.lst []) (.lst []) = some (.bl false) := by simpa using hn2
      simp [headS, hn3, hz3]
      simpa [headS] using fin
    · have er : restT (.str z) b u = Str.ofString "<-" :: commaT (rowsT b u) := by unfold restT; rw [if_neg he]
      have hne : commaT (rowsT b u) ≠ [] := comma_ne _ he fun r hr => (rows_len2 r hr).2
      rw [er] at hn2 fin ⊢
      have x0 : d_ix (.lst ((Str.ofString "<-" :: commaT (rowsT b u)).map .str)) (.int 0) = some (.str (Str.ofString "<-")) := ix_zero _ _
      have hlen : d_len (.lst ((Str.ofString "<-" :: commaT (rowsT b u)).map .str)) = some (.int ((commaT (rowsT b u)).length + 1)) := by
        rw [lenl, List.length_cons]; rfl
      have hcut : d_sl3 (.lst ((Str.ofString "<-" :: commaT (rowsT b u)).map .str)) (some 1) none = some (.lst ((commaT (rowsT b u)).map .str)) := by
        rw [sl3_lst, List.map_cons, cut1]
      generalize hY : (Str.ofString "<-" :: commaT (rowsT b u)).map D.str = Y at *
      have hpos : ¬ ((commaT (rowsT b u)).length : Int) + 1 = 1 := by
        have := List.length_pos_iff.mpr hne
        omega
      simp [headS, hn2, hne, hz3, x0, hlen, hcut]
      rw [if_neg hpos]
      refine listed_W hcl2 ?_
      rw [hfold he]
      simpa [headS] using fin
end Gd

/-! Gm, part 12: a rule's text is read back. -/
namespace Gd
open PySem L2 PyProof.Rows

def lS (w : Str) : List Nat := w.cps.toList
def rowS : List Str → Str
  | [w] => w
  | [_, w] => notS w
  | _ => ""
def rowP : List Str → List (List Nat)
  | [w] => [lS w]
  | [v, w] => [lS v, [32], lS w]
  | _ => []
def bodyP : List (List Str) → List (List Nat)
  | [] => []
  | [r] => rowP r
  | r :: q :: t => rowP r ++ [44] :: [32] :: bodyP (q :: t)
def isRow (r : List Str) : Prop := (∃ w, isW w ∧ r = [w]) ∨ ∃ w, isW w ∧ r = [Str.ofString "not", w]
theorem wd_of {w : Str} (h : isW w) : isWd (lS w) := ⟨by have := h.1; rw [str_len] at this; exact this, fun c hc => h.2.1 c hc⟩
theorem wd_not : isWd (lS (Str.ofString "not")) := by
  refine ⟨by decide +kernel, ?_⟩
  have : ∀ c ∈ lS (Str.ofString "not"), isLet c := by decide +kernel
  exact this
theorem wd_never : isWd (lS (Str.ofString "never")) := by
  refine ⟨by decide +kernel, ?_⟩
  have : ∀ c ∈ lS (Str.ofString "never"), isLet c := by decide +kernel
  exact this
theorem wd_ne {p : List Nat} (h : isWd p) : p ≠ [32] := by
  intro e
  have := h.2 32 (by rw [e]; simp)
  exact absurd this (by decide)
theorem pcS_l (w : Str) : pcS (lS w) = w := str_ext rfl
theorem not_l (w : Str) : lS (notS w) = lS (Str.ofString "not") ++ ([32] ++ lS w) := by
  unfold lS notS
  rw [app_list]
  have : (Str.ofString "not ").cps.toList = (Str.ofString "not").cps.toList ++ [32] := by decide +kernel
  rw [this, List.append_assoc]
theorem row_facts {r : List Str} (h : isRow r) (X : List (List Nat)) (hX : ∀ q ∈ X.head?, isMk q) (oX : okP X) : (rowP r ++ X).flatten = lS (rowS r) ++ X.flatten ∧ toks (rowP r ++ X) = r ++ toks X ∧ okP (rowP r ++ X) ∧ (rowP r).length ≤ 3 := by
  rcases h with ⟨w, hw, rfl⟩ | ⟨w, hw, rfl⟩
  · refine ⟨by simp [rowP, rowS], ?_, ⟨.inr ⟨wd_of hw, hX⟩, oX⟩, by simp [rowP]⟩
    show toks (lS w :: X) = _
    rw [toks_mk (wd_ne (wd_of hw)), pcS_l]
    rfl
  · refine ⟨?_, ?_, ⟨.inr ⟨wd_not, by simp [rowP, isMk]⟩, .inl (.inr (.inr rfl)), .inr ⟨wd_of hw, hX⟩, oX⟩, by simp [rowP]⟩
    · show (lS _ :: [32] :: lS w :: X).flatten = lS (notS w) ++ _
      rw [not_l]
      simp
    · show toks (lS _ :: [32] :: lS w :: X) = _
      rw [toks_mk (wd_ne wd_not), toks_sp, toks_mk (wd_ne (wd_of hw)), pcS_l, pcS_l]
      rfl
theorem body_facts : ∀ (rows : List (List Str)), rows ≠ [] → (∀ r ∈ rows, isRow r) → (bodyP rows).flatten = TL.joinL [44, 32] (rows.map fun r => lS (rowS r)) ∧ toks (bodyP rows) = commaT rows ∧ okP (bodyP rows) ∧ (bodyP rows).length ≤ 5 * rows.length
  | [], h, _ => absurd rfl h
  | [r], _, h => by
    obtain ⟨h1, h2, h3, h4⟩ := row_facts (h r (List.mem_cons_self ..)) [] (fun _ h => nomatch h) trivial
    rw [List.append_nil] at h1 h2 h3
    refine ⟨by rw [show bodyP [r] = rowP r from rfl, h1]; simp [TL.joinL], by rw [show bodyP [r] = rowP r from rfl, h2]; simp [toks, commaT], h3, ?_⟩
    rw [show bodyP [r] = rowP r from rfl]
    simp; omega
  | r :: q :: t, _, h => by
    obtain ⟨b1, b2, b3, b4⟩ := body_facts (q :: t) (by simp) fun x hx => h x (List.mem_cons_of_mem _ hx)
    obtain ⟨h1, h2, h3, h4⟩ := row_facts (h r (List.mem_cons_self ..)) ([44] :: [32] :: bodyP (q :: t)) (by simp [isMk]) ⟨.inl (.inr (.inl rfl)), .inl (.inr (.inr rfl)), b3⟩
    have e : bodyP (r :: q :: t) = rowP r ++ [44] :: [32] :: bodyP (q :: t) := rfl
    rw [e]
    refine ⟨?_, ?_, h3, ?_⟩
    · rw [h1, List.flatten_cons, List.flatten_cons, b1]
      rfl
    · rw [h2, toks_mk (by decide), toks_sp, b2]
      have : pcS [44] = Str.ofString "," := by decide +kernel
      rw [this]
      rfl
    · simp only [List.length_append, List.length_cons] at b4 ⊢
      omega
theorem rows_parts (b u : List Str) : (rowsT b u).map rowS = partsT b u := by
  unfold rowsT partsT
  rw [List.map_append, List.map_map, List.map_map]
  congr 1
  exact (List.map_congr_left fun _ _ => rfl).trans (List.map_id _)
theorem rows_row {h : D} {b u : List Str} (ok : RuleOk h b u) : ∀ r ∈ rowsT b u, isRow r := by
  intro r hr
  rcases rows_of hr with ⟨w, hw, rfl⟩ | ⟨w, hw, rfl⟩
  · exact .inl ⟨w, ok.hb w hw, rfl⟩
  · exact .inr ⟨w, ok.hu w hw, rfl⟩
theorem rows_nil (b u : List Str) : partsT b u = [] ↔ rowsT b u = [] := by
  rw [← rows_parts, List.map_eq_nil_iff]
theorem text_pieces {h : D} {b u : List Str} (ok : RuleOk h b u) : ∃ ps, lS (ruleT h b u) = ps.flatten ∧ okP ps ∧ ps.length ≤ 1000 ∧ toks ps = headS h :: restT h b u := by
  obtain ⟨rn, rn2⟩ := rows_n ok
  by_cases he : rowsT b u = []
  · have hp := (rows_nil b u).mpr he
    rcases ok.hd with rfl | ⟨z, rfl, hz⟩
    · refine ⟨[lS (Str.ofString "never")], ?_, ⟨.inr ⟨wd_never, fun _ h => nomatch h⟩, trivial⟩, by simp, ?_⟩
      · simp [ruleT, hp]
      · rw [toks_mk (wd_ne wd_never), pcS_l]
        unfold restT
        rw [if_pos he]
        rfl
    · refine ⟨[lS z], ?_, ⟨.inr ⟨wd_of hz, fun _ h => nomatch h⟩, trivial⟩, by simp, ?_⟩
      · simp [ruleT, hp]
      · rw [toks_mk (wd_ne (wd_of hz)), pcS_l]
        unfold restT
        rw [if_pos he]
        rfl
  · have hp : ¬ partsT b u = [] := fun e => he ((rows_nil b u).mp e)
    obtain ⟨b1, b2, b3, b4⟩ := body_facts _ he (rows_row ok)
    have ej : lS (Txt.join ", " (partsT b u)) = (bodyP (rowsT b u)).flatten := by
      rw [b1, TL.join_eq]
      have := TL.tl_join ", " (partsT b u)
      show TL.tl _ = _
      rw [this, ← rows_parts, List.map_map]
      have e2 : TL.tl (Str.ofString ", ") = [44, 32] := by decide +kernel
      rw [e2]
      rfl
    rcases ok.hd with rfl | ⟨z, rfl, hz⟩
    · refine ⟨lS (Str.ofString "never") :: [32] :: bodyP (rowsT b u), ?_, ⟨.inr ⟨wd_never, by simp [isMk]⟩, .inl (.inr (.inr rfl)), b3⟩, by simp; omega, ?_⟩
      · have et : ruleT .non b u = ("never " : Str) ++ Txt.join ", " (partsT b u) := by unfold ruleT; simp only; rw [if_neg hp]
        rw [et]
        unfold lS at ej ⊢
        rw [app_list, ej]
        have : (Str.ofString "never ").cps.toList = (Str.ofString "never").cps.toList ++ [32] := by decide +kernel
        rw [this]
        simp
      · rw [toks_mk (wd_ne wd_never), toks_sp, pcS_l, b2]
        unfold restT
        rw [if_neg he]
        rfl
    · refine ⟨lS z :: [32] :: [60, 45] :: [32] :: bodyP (rowsT b u), ?_, ⟨.inr ⟨wd_of hz, by simp [isMk]⟩, .inl (.inr (.inr rfl)), .inl (.inl rfl), .inl (.inr (.inr rfl)), b3⟩, by simp; omega, ?_⟩
      · have et : ruleT (.str z) b u = (z ++ (" <- " : Str)) ++ Txt.join ", " (partsT b u) := by unfold ruleT; simp only; rw [if_neg hp]
        rw [et]
        unfold lS at ej ⊢
        rw [app_list, app_list, ej]
        have : (Str.ofString " <- ").cps.toList = [32, 60, 45, 32] := by decide +kernel
        rw [this]
        simp
      · rw [toks_mk (wd_ne (wd_of hz)), toks_sp, toks_mk (by decide), toks_sp, pcS_l, b2]
        have : pcS [60, 45] = Str.ofString "<-" := by decide +kernel
        rw [this]
        unfold restT
        rw [if_neg he]
        rfl
theorem isN_rule (h : D) (b u : List Str) : d_isN (ruleD h b u) .non = some (.bl false) := rfl
theorem isN_lst (l : List D) : d_isN (.lst l) .non = some (.bl false) := rfl
theorem read_W {h : D} {b u : List Str} {S : Sg} {Q : D → Sg → Prop} (ok : RuleOk h b u) (q : ∀ S', (∃ X, S' = S ++ X) → Q (ruleD h b u) S') : (readM [.str (ruleT h b u)] S).W Q := by
  obtain ⟨ps, p1, p2, p3, p4⟩ := text_pieces ok
  have hl := ruleT_len ok
  unfold readM
  rw [W_fn]
  refine ⟨rfl, ?_⟩
  unfold readB
  refine seq_of fun N hN => ?_
  simp [List.replicate, isi_text]
  unfold rowM
  rw [W_fn]
  refine ⟨rfl, ?_⟩
  unfold rowB
  refine seq_of fun N2 hN2 => ?_
  simp [List.replicate]
  refine apart_W (by omega) p1 p2 p3 ?_
  rw [p4]
  simp
  refine hN2 _ _ ?_
  clear hN2
  simp [isN_lst]
  rw [← List.map_cons]
  refine by_W ok ?_
  rintro S' ⟨X, rfl⟩
  simp
  refine hN _ _ ?_
  clear hN
  refine seq_of fun N hN => ?_
  simp [isN_rule]
  refine hN _ _ ?_
  simp
  exact q _ ⟨X, rfl⟩
end Gd

/-! Gm, part 13: drawn parts of a rule. -/
namespace Gd
open PySem L2 PyProof.Rows

def partsB : MS := (s_seq (s_set 2 (e_op2 d_ix (f_lst (a_cons (e_c .non) (a_cons (e_op2 d_ix (e_var 1) (e_c (.int 0))) (a_cons (e_op2 d_ix (e_var 1) (e_c (.int 1))) (a_cons (e_op2 d_ix (e_var 1) (e_op1 d_neg (e_c (.int 1)))) a_nil))))) (e_call takeM (a_cons (e_var 0) (a_cons (e_c (.int 4)) a_nil)))))
  (s_seq (s_par 3 4 (a_cons (e_call takeM (a_cons (e_var 0) (a_cons (e_cb (d_1 d_len) (a_cons (e_var 1) a_nil)) a_nil))) (a_cons (e_call takeM (a_cons (e_var 0) (a_cons (e_cb (d_1 d_len) (a_cons (e_var 1) a_nil)) a_nil))) a_nil)))
  (s_seq (s_set 5 (e_sl d_sl3 (e_op2 d_add4 (e_var 1) (e_var 1)) (o_e (e_var 3)) (o_e (e_op2 d_add4 (e_var 3) (e_cb (d_1 d_len) (a_cons (e_var 1) a_nil))))))
  (s_seq (s_set 6 (e_op1 d_rev (e_sl d_sl3 (e_op2 d_add4 (e_var 1) (e_var 1)) (o_e (e_var 4)) (o_e (e_op2 d_add4 (e_var 4) (e_cb (d_1 d_len) (a_cons (e_var 1) a_nil)))))))
  (s_ret (e_tup (a_cons (e_var 2) (a_cons (e_cb (d_1 d_tuple) (a_cons (e_sl d_sl3 (e_var 5) o_no (o_e (e_call takeM (a_cons (e_var 0) (a_cons (e_c (.int 7)) a_nil))))) a_nil)) (a_cons (e_cb (d_1 d_tuple) (a_cons (e_sl d_sl3 (e_var 6) o_no (o_e (e_call takeM (a_cons (e_var 0) (a_cons (e_c (.int 5)) a_nil))))) a_nil)) a_nil)))))))))
def partsM : List D → Sg → Out D := Gd.fn 7 partsB 2
theorem cutn (l : List D) (i k : Nat) (h : i ≤ l.length) : cutD l (some (i : Int)) (some ((i : Int) + (k : Int))) = (l.drop i).take k := by
  rw [show (i : Int) + (k : Int) = ((i + k : Nat) : Int) by omega]
  unfold cutD
  rw [HT.sIx_nat, HT.sIx_nat, Nat.min_eq_left h]
  rw [show min (i + k) l.length - i = min k (l.drop i).length by rw [List.length_drop]; omega, ← List.take_eq_take_min]
theorem cut0 (l : List D) (k : Nat) : cutD l none (some (k : Int)) = l.take k := by
  unfold cutD
  have e : HT.sIx l.length 0 none = 0 := rfl
  rw [HT.sIx_nat, e, Nat.sub_zero, List.drop_zero, ← List.take_eq_take_min]
theorem rot (ws : List Str) (i : Nat) (h : i ≤ ws.length) : ((ws ++ ws).drop i).take ws.length = ws.drop i ++ ws.take i := by
  rw [List.drop_append_of_le_length h, List.take_append, List.length_drop]
  rw [List.take_of_length_le (by rw [List.length_drop]; omega)]
  congr 2
  omega
theorem rot_nd {ws : List Str} (i : Nat) (h : ws.Nodup) : (ws.drop i ++ ws.take i).Nodup := by
  refine (List.perm_append_comm.nodup_iff).mpr ?_
  rw [List.take_append_drop]; exact h
theorem rot_mem {ws : List Str} (i : Nat) {x : Str} (h : x ∈ ws.drop i ++ ws.take i) : x ∈ ws := by
  rcases List.mem_append.mp h with h | h
  · exact List.mem_of_mem_drop h
  · exact List.mem_of_mem_take h
theorem rot_len {ws : List Str} (i : Nat) : (ws.drop i ++ ws.take i).length = ws.length := by
  rw [List.length_append, List.length_drop, List.length_take]; omega
theorem parts_W {n k : Nat} {S : Sg} {ws : List Str} {Q : D → Sg → Prop} (d : Dr n k S) (hl : ws.length = 7) (hn : ws.Nodup) (hw : ∀ w ∈ ws, isW w) (q : ∀ h b u S', Dr n k S' → RuleOk h b u → Q (.tup [h, .tup (b.map .str), .tup (u.map .str)]) S') : (partsM [.obj n, .lst (ws.map .str)] S).W Q := by
  unfold partsM
  rw [W_fn]
  refine ⟨rfl, ?_⟩
  unfold partsB
  have hd4 : ∃ h1 h2 h3, (d_ix (.lst (ws.map .str)) (.int 0) = some h1 ∧ d_ix (.lst (ws.map .str)) (.int 1) = some h2 ∧ d_ix (.lst (ws.map .str)) (.int (-1)) = some h3) ∧ ∀ h ∈ [D.non, h1, h2, h3], headOk h := by
    match ws, hl, hw with
    | [a, b, c, e, f, g, i], _, hw =>
      refine ⟨.str a, .str b, .str i, ⟨rfl, rfl, rfl⟩, ?_⟩
      intro h hh
      simp at hh
      rcases hh with rfl | rfl | rfl | rfl
      · exact .inl rfl
      · exact .inr ⟨_, rfl, hw _ (by simp)⟩
      · exact .inr ⟨_, rfl, hw _ (by simp)⟩
      · exact .inr ⟨_, rfl, hw _ (by simp)⟩
  obtain ⟨h1, h2, h3, ⟨x1, x2, x3⟩, hk⟩ := hd4
  have l1 := (hk h1 (by simp)).lo
  have l2 := (hk h2 (by simp)).lo
  have l3 := (hk h3 (by simp)).lo
  have ng : d_neg (.int 1) = some (.int (-1)) := rfl
  refine seq_of fun N hN => ?_
  simp [List.replicate, x1, x2, x3, l1, l2, l3, ng]
  refine take_W d (by decide) (by decide) fun r S1 d1 _ r0 r1 => ?_
  obtain ⟨hd, y1, y2, _⟩ := atI_nn (xs := [D.non, h1, h2, h3]) r0 (by simpa using r1)
  have y3 : d_ix (.lst [D.non, h1, h2, h3]) (.int r) = some hd := y2
  have oh : headOk hd := hk hd (List.mem_of_getElem? y1)
  simp [y3, oh.lo]
  refine hN _ _ ?_
  clear hN
  refine seq_of fun N hN => ?_
  have e7 : (List.map D.str ws).length = 7 := by rw [List.length_map]; exact hl
  have len7 : d_len (.lst (ws.map .str)) = some (.int 7) := by rw [lenl, hl]; rfl
  simp [len7]
  refine take_W d1 (by decide) (by decide) fun r2 S2 d2 _ r20 r21 => ?_
  simp [len7]
  refine take_W d2 (by decide) (by decide) fun r3 S3 d3 _ r30 r31 => ?_
  simp
  refine hN _ _ ?_
  clear hN
  obtain ⟨i, rfl⟩ : ∃ i : Nat, r2 = i := ⟨r2.toNat, by omega⟩
  obtain ⟨j, rfl⟩ : ∃ j : Nat, r3 = j := ⟨r3.toNat, by omega⟩
  have hcut : ∀ i : Nat, i < 7 → d_sl3 (.lst (ws.map .str ++ ws.map .str)) (some (i : Int)) (some ((i : Int) + 7)) = some (.lst ((ws.drop i ++ ws.take i).map .str)) := by
    intro i hi
    rw [sl3_lst]
    have := cutn (ws.map .str ++ ws.map .str) i 7 (by rw [List.length_append]; omega)
    rw [show ((7 : Nat) : Int) = 7 from rfl] at this
    rw [this, ← List.map_append, ← List.map_drop, ← List.map_take, ← rot ws i (by omega), hl]
  have c1 := hcut i (by omega)
  have c2 := hcut j (by omega)
  refine seq_of fun N hN => ?_
  simp [len7, hl, c1, -sl3_lst, -List.map_append]
  refine hN _ _ ?_
  clear hN
  refine seq_of fun N hN => ?_
  simp [len7, hl, c2, -sl3_lst, -List.map_append]
  refine hN _ _ ?_
  clear hN
  simp [oh.lo, -sl3_lst, -List.map_append]
  refine take_W d3 (by decide) (by decide) fun r4 S4 d4 _ r40 r41 => ?_
  obtain ⟨p, rfl⟩ : ∃ p : Nat, r4 = p := ⟨r4.toNat, by omega⟩
  have c3 : d_sl3 (.lst ((ws.drop i ++ ws.take i).map .str)) none (some (p : Int)) = some (.lst (((ws.drop i ++ ws.take i).take p).map .str)) := by
    rw [sl3_lst, cut0, ← List.map_take]
  simp [c3, -sl3_lst, -List.map_append]
  refine take_W d4 (by decide) (by decide) fun r5 S5 d5 _ r50 r51 => ?_
  obtain ⟨s, rfl⟩ : ∃ s : Nat, r5 = s := ⟨r5.toNat, by omega⟩
  have c4 : d_sl3 (.lst ((ws.drop j ++ ws.take j).map .str).reverse) none (some (s : Int)) = some (.lst (((ws.drop j ++ ws.take j).reverse.take s).map .str)) := by
    rw [sl3_lst, cut0, ← List.map_reverse, ← List.map_take]
  have ok : RuleOk hd ((ws.drop i ++ ws.take i).take p) ((ws.drop j ++ ws.take j).reverse.take s) := by
    refine ⟨oh, ?_, ?_, ?_, ?_, ?_, ?_⟩
    · exact fun w h => hw w (rot_mem i (List.mem_of_mem_take h))
    · exact fun w h => hw w (rot_mem j (List.mem_reverse.mp (List.mem_of_mem_take h)))
    · exact (rot_nd i hn).sublist (List.take_sublist ..)
    · exact ((List.reverse_perm _).nodup_iff.mpr (rot_nd j hn)).sublist (List.take_sublist ..)
    · rw [List.length_take]; omega
    · rw [List.length_take]; omega
  have := q _ _ _ S5 d5 ok
  generalize hA : (ws.drop i ++ ws.take i).take p = A at *
  generalize hB : (ws.drop j ++ ws.take j).reverse.take s = B at *
  refine ⟨_, rfl, _, c4, _, rfl, rfl, ?_⟩
  rw [← List.map_take, hA]
  exact this
theorem Dr.app {n k : Nat} {S : Sg} (h : Dr n k S) (X : Sg) : Dr n k (S ++ X) := by
  obtain ⟨ne, a, s, cs, h1, h2, r⟩ := h
  refine ⟨ne, a, s, cs, ?_, ?_, r⟩
  · rw [List.getElem?_append_left (List.getElem?_eq_some_iff.mp h1).1]; exact h1
  · rw [List.getElem?_append_left (List.getElem?_eq_some_iff.mp h2).1]; exact h2
theorem okP_small : ∀ {ps : List (List Nat)}, okP ps → ∀ c ∈ ps.flatten, c < 1114112
  | [], _, c, h => nomatch h
  | p :: r, ⟨h1, h2⟩, c, hc => by
    rw [List.flatten_cons] at hc
    rcases List.mem_append.mp hc with hc | hc
    · rcases h1 with (rfl | rfl | rfl) | h
      · have : ∀ c ∈ [60, 45], c < 1114112 := by decide
        exact this c hc
      · have : ∀ c ∈ [44], c < 1114112 := by decide
        exact this c hc
      · have : ∀ c ∈ [32], c < 1114112 := by decide
        exact this c hc
      · have := (h.1.2 c hc).2
        omega
    · exact okP_small h2 c hc
theorem ruleT_ok {h : D} {b u : List Str} (ok : RuleOk h b u) : PyData.strOk (ruleT h b u) = true := by
  obtain ⟨ps, p1, p2, _, _⟩ := text_pieces ok
  unfold PyData.strOk
  rw [Array.all_eq_true']
  intro c hc
  have hc : c ∈ lS (ruleT h b u) := by unfold lS; simpa using hc
  rw [p1] at hc
  simpa using okP_small p2 c hc
theorem told_add {h : D} {b u : List Str} : d_add4 (.tup [.str (Str.ofString "rule")]) (.tup [h, .tup (b.map .str), .tup (u.map .str)]) = some (toldD h b u) := by
  rw [add4_tup, if_pos (by simp)]
  rfl
end Gd

namespace Nk04
open PySem L2 Gd PyProof.Rows
noncomputable def b__law_begin : MS := (s_seq (s_set 1 (e_sh (f_lc [2] (i_seqC (e_sl d_sl3 (e_var 0) o_no (o_e (e_c (.int 63))))) (t_name 2) t_yes (e_cb (d_1 d_abs) (a_cons (e_var 2) a_nil)))))
  (s_seq (s_if (t_e (e_op2 d_eq (e_var 1) (f_lst a_nil))) (s_set 1 (e_sh (f_lst (a_cons (e_c (.int 7)) a_nil)))) s_nx)
  (s_ret (e_sh (f_lst (a_cons (e_var 1) (a_cons (e_c (.int 0)) (a_cons (e_c (.int 1)) a_nil))))))))
noncomputable def m__law_begin : List D → Sg → Out D := Gd.fn 3 b__law_begin 1
noncomputable def b__law_take : MS := (s_seq (s_set 2 (e_op2 d_ix (e_var 0) (e_c (.int 0))))
  (s_seq (s_set 3 (e_op2 d_mod (e_op2 d_ix (e_var 0) (e_c (.int 1))) (e_cb (d_1 d_len) (a_cons (e_var 2) a_nil))))
  (s_seq (s_set 4 (e_op2 d_ix (e_var 2) (e_var 3)))
  (s_seq (s_if (t_e (e_op2 d_ge (e_var 4) (e_op2 d_pow (e_c (.int 10)) (e_c (.int 18))))) (s_seq (s_seti (e_op2 d_fdiv (e_var 4) (e_var 1)) (e_var 2) (e_var 3))
  (s_ret (e_op2 d_mod (e_var 4) (e_var 1)))) s_nx)
  (s_seq (s_seti (e_op2 d_add4 (e_op2 d_ix (e_var 0) (e_c (.int 1))) (e_c (.int 1))) (e_var 0) (e_c (.int 1)))
  (s_seq (s_seti (e_op2 d_mod (e_op2 d_add4 (e_op2 d_add4 (e_op2 d_mul (e_op2 d_ix (e_var 0) (e_c (.int 2))) (e_c (.int 48271))) (e_var 4)) (e_c (.int 12345))) (e_c (.int 2147483647))) (e_var 0) (e_c (.int 2)))
  (s_ret (e_op2 d_mod (e_op2 d_fdiv (e_op2 d_mod (e_op2 d_mul (e_op2 d_ix (e_var 0) (e_c (.int 2))) (e_op2 d_ix (e_var 0) (e_c (.int 2)))) (e_c (.int 2147483629))) (e_c (.int 16))) (e_var 1)))))))))
noncomputable def m__law_take : List D → Sg → Out D := Gd.fn 5 b__law_take 2
noncomputable def b__law_parts : MS := (s_seq (s_set 2 (e_op2 d_ix (f_lst (a_cons (e_c .non) (a_cons (e_op2 d_ix (e_var 1) (e_c (.int 0))) (a_cons (e_op2 d_ix (e_var 1) (e_c (.int 1))) (a_cons (e_op2 d_ix (e_var 1) (e_op1 d_neg (e_c (.int 1)))) a_nil))))) (e_call m__law_take (a_cons (e_var 0) (a_cons (e_c (.int 4)) a_nil)))))
  (s_seq (s_par 3 4 (a_cons (e_call m__law_take (a_cons (e_var 0) (a_cons (e_cb (d_1 d_len) (a_cons (e_var 1) a_nil)) a_nil))) (a_cons (e_call m__law_take (a_cons (e_var 0) (a_cons (e_cb (d_1 d_len) (a_cons (e_var 1) a_nil)) a_nil))) a_nil)))
  (s_seq (s_set 5 (e_sl d_sl3 (e_op2 d_add4 (e_var 1) (e_var 1)) (o_e (e_var 3)) (o_e (e_op2 d_add4 (e_var 3) (e_cb (d_1 d_len) (a_cons (e_var 1) a_nil))))))
  (s_seq (s_set 6 (e_op1 d_rev (e_sl d_sl3 (e_op2 d_add4 (e_var 1) (e_var 1)) (o_e (e_var 4)) (o_e (e_op2 d_add4 (e_var 4) (e_cb (d_1 d_len) (a_cons (e_var 1) a_nil)))))))
  (s_ret (e_tup (a_cons (e_var 2) (a_cons (e_cb (d_1 d_tuple) (a_cons (e_sl d_sl3 (e_var 5) o_no (o_e (e_call m__law_take (a_cons (e_var 0) (a_cons (e_c (.int 7)) a_nil))))) a_nil)) (a_cons (e_cb (d_1 d_tuple) (a_cons (e_sl d_sl3 (e_var 6) o_no (o_e (e_call m__law_take (a_cons (e_var 0) (a_cons (e_c (.int 5)) a_nil))))) a_nil)) a_nil)))))))))
noncomputable def m__law_parts : List D → Sg → Out D := Gd.fn 7 b__law_parts 2
noncomputable def b__law_pick : MS := (s_ret (e_op2 d_ix (e_var 1) (e_call m__law_take (a_cons (e_var 0) (a_cons (e_cb (d_1 d_len) (a_cons (e_var 1) a_nil)) a_nil)))))
noncomputable def m__law_pick : List D → Sg → Out D := Gd.fn 2 b__law_pick 2
noncomputable def b__law_word : MS := (s_seq (s_set 1 (f_lst (a_cons (e_c (.str "lot")) (a_cons (e_c (.str "held")) (a_cons (e_c (.str "back")) (a_cons (e_c (.str "by")) (a_cons (e_c (.str "in")) (a_cons (e_c (.str "all")) (a_cons (e_c (.str "some")) (a_cons (e_c (.str "none")) (a_cons (e_c (.str "rule")) (a_cons (e_c (.str "told")) (a_cons (e_c (.str "rank")) (a_cons (e_c (.str "nots")) (a_cons (e_c (.str "a")) (a_cons (e_c (.str "z")) (a_cons (e_c (.str "maybe")) a_nil)))))))))))))))))
  (s_seq (s_if (t_e (e_op2 d_eq (e_call m__law_take (a_cons (e_var 0) (a_cons (e_c (.int 4)) a_nil))) (e_c (.int 0)))) (s_ret (e_call m__law_pick (a_cons (e_var 0) (a_cons (e_var 1) a_nil)))) s_nx)
  (s_seq (s_set 2 (e_c (.str "")))
  (s_seq (s_for (i_rng (a_cons (e_op2 d_add4 (e_c (.int 1)) (e_call m__law_take (a_cons (e_var 0) (a_cons (e_c (.int 8)) a_nil)))) a_nil)) (t_name 3) (s_set 2 (e_op2 d_add4 (e_var 2) (e_op2 d_ix (e_c (.str "abcdefghijklmnopqrstuvwxyz")) (e_call m__law_take (a_cons (e_var 0) (a_cons (e_c (.int 26)) a_nil)))))))
  (s_seq (s_if (t_e (e_op2 (d_in false) (e_var 2) (f_lst (a_cons (e_c (.str "not")) (a_cons (e_c (.str "never")) (a_cons (e_c (.str "may")) a_nil)))))) (s_ret (e_sl d_sl3 (e_var 2) o_no (o_e (e_op1 d_neg (e_c (.int 1)))))) s_nx)
  (s_ret (e_var 2)))))))
noncomputable def m__law_word : List D → Sg → Out D := Gd.fn 4 b__law_word 1
noncomputable def b__law_words : MS := (s_seq (s_own 2 (f_lst a_nil))
  (s_seq (s_for (i_rng (a_cons (e_var 1) a_nil)) (t_name 3) (s_seq (s_set 4 (e_call m__law_word (a_cons (e_var 0) a_nil)))
  (s_seq (s_if (t_e (e_op2 (d_in false) (e_var 4) (e_var 2))) (s_seq (s_set 5 (e_op2 d_add4 (e_var 2) (f_lst (a_cons (e_c (.str "not")) (a_cons (e_c (.str "never")) (a_cons (e_c (.str "may")) a_nil))))))
  (s_set 4 (e_op2 d_ix (f_lc [6] (i_seqC (e_c (.str "abcdefghijklmnopqrstuvwxyz"))) (t_name 6) (t_e (e_op2 (d_in true) (e_op2 d_add4 (e_sl d_sl3 (e_var 4) o_no (o_e (e_c (.int 7)))) (e_var 6)) (e_var 5))) (e_op2 d_add4 (e_sl d_sl3 (e_var 4) o_no (o_e (e_c (.int 7)))) (e_var 6))) (e_c (.int 0))))) s_nx)
  (s_app (e_var 2) (e_var 4)))))
  (s_ret (e_var 2))))
noncomputable def m__law_words : List D → Sg → Out D := Gd.fn 7 b__law_words 2
noncomputable def b_is_name : MS := (s_seq (s_if (t_or (t_not (t_e (e_op1 (d_isi "str") (e_var 0)))) (t_or (t_not (t_e (e_chain d_le d_le (e_c (.int 1)) (e_cb (d_1 d_len) (a_cons (e_var 0) a_nil)) (e_c (.int 8))))) (t_e (e_op2 (d_in false) (e_var 0) (e_c (.tup [(.str "not"), (.str "never"), (.str "may")])))))) (s_ret (e_c (.bl false))) s_nx)
  (s_ret (e_cb (d_1 d_all) (a_cons (f_lc [1] (i_seqC (e_var 0)) (t_name 1) t_yes (e_chain d_le d_le (e_c (.str "a")) (e_var 1) (e_c (.str "z")))) a_nil))))
noncomputable def m_is_name : List D → Sg → Out D := Gd.fn 2 b_is_name 1
noncomputable def b_are_names : MS := (s_seq (s_if (t_or (t_not (t_e (e_op1 (d_isiN ["list", "tuple"]) (e_var 0)))) (t_e (e_op2 d_gt (e_cb (d_1 d_len) (a_cons (e_var 0) a_nil)) (e_var 1)))) (s_ret (e_c (.bl false))) s_nx)
  (s_ret (e_and (e_cb (d_1 d_all) (a_cons (f_lc [2] (i_seqC (e_var 0)) (t_name 2) t_yes (e_call m_is_name (a_cons (e_var 2) a_nil))) a_nil)) (e_op2 d_eq (e_op1 d_lenset (e_var 0)) (e_cb (d_1 d_len) (a_cons (e_var 0) a_nil))))))
noncomputable def m_are_names : List D → Sg → Out D := Gd.fn 3 b_are_names 2
noncomputable def b_Rule___init__ : MS := (s_seq (s_if (t_and (t_e (e_op2 d_notN (e_var 1) (e_c .non))) (t_not (t_e (e_call m_is_name (a_cons (e_var 1) a_nil))))) s_never s_nx)
  (s_seq (s_if (t_or (t_not (t_e (e_call m_are_names (a_cons (e_var 2) (a_cons (e_c (.int 6)) a_nil))))) (t_not (t_e (e_call m_are_names (a_cons (e_var 3) (a_cons (e_c (.int 4)) a_nil)))))) s_never s_nx)
  (s_seq (s_fld ["Rule"] "head" (e_var 1) (e_var 0))
  (s_seq (s_fld ["Rule"] "body" (e_cb (d_1 d_tuple) (a_cons (e_var 2) a_nil)) (e_var 0))
  (s_fld ["Rule"] "unless" (e_cb (d_1 d_tuple) (a_cons (e_var 3) a_nil)) (e_var 0))))))
noncomputable def m_Rule___init__ : List D → Sg → Out D := Gd.fn 4 b_Rule___init__ 4
noncomputable def b_Rule_text : MS := (s_seq (s_set 1 (e_op2 d_add4 (e_cb (d_1 d_list) (a_cons (e_op1 (d_fld ["Rule"] "body") (e_var 0)) a_nil)) (f_lc [2] (i_seqC (e_op1 (d_fld ["Rule"] "unless") (e_var 0))) (t_name 2) t_yes (e_fstr [(e_c (.str "not ")), (e_fmt (e_var 2))] Str.empty))))
  (s_seq (s_if (t_e (e_op2 d_isN (e_op1 (d_fld ["Rule"] "head") (e_var 0)) (e_c .non))) (s_ret (e_if (t_e (e_op2 d_ne (e_var 1) (f_lst a_nil))) (e_op2 d_add4 (e_c (.str "never ")) (e_m1 d_join (e_c (.str ", ")) (e_var 1))) (e_c (.str "never")))) s_nx)
  (s_ret (e_if (t_e (e_op2 d_ne (e_var 1) (f_lst a_nil))) (e_op2 d_add4 (e_op2 d_add4 (e_op1 (d_fld ["Rule"] "head") (e_var 0)) (e_c (.str " <- "))) (e_m1 d_join (e_c (.str ", ")) (e_var 1))) (e_op1 (d_fld ["Rule"] "head") (e_var 0))))))
noncomputable def m_Rule_text : List D → Sg → Out D := Gd.fn 3 b_Rule_text 1
noncomputable def b_Rule___str__ : MS := (s_ret (e_fmt (e_meth "Rule" "text" m_Rule_text (e_var 0) a_nil)))
noncomputable def m_Rule___str__ : List D → Sg → Out D := Gd.fn 1 b_Rule___str__ 1
noncomputable def b__law_text : MS := (s_seq (s_set 1 (e_op2 d_add4 (e_cb (d_1 d_list) (a_cons (e_op2 d_ix (e_var 0) (e_c (.int 1))) a_nil)) (f_lc [2] (i_seqC (e_op2 d_ix (e_var 0) (e_c (.int 2)))) (t_name 2) t_yes (e_op2 d_add4 (e_c (.str "not ")) (e_var 2)))))
  (s_seq (s_if (t_e (e_op2 d_isN (e_op2 d_ix (e_var 0) (e_c (.int 0))) (e_c .non))) (s_ret (e_m1 d_join (e_c (.str " ")) (e_op2 d_add4 (f_lst (a_cons (e_c (.str "never")) a_nil)) (e_sl d_sl3 (f_lst (a_cons (e_m1 d_join (e_c (.str ", ")) (e_var 1)) a_nil)) o_no (o_e (e_cb (d_1 d_len) (a_cons (e_var 1) a_nil))))))) s_nx)
  (s_ret (e_m1 d_join (e_c (.str " <- ")) (e_op2 d_add4 (f_lst (a_cons (e_op2 d_ix (e_var 0) (e_c (.int 0))) a_nil)) (e_sl d_sl3 (f_lst (a_cons (e_m1 d_join (e_c (.str ", ")) (e_var 1)) a_nil)) o_no (o_e (e_cb (d_1 d_len) (a_cons (e_var 1) a_nil)))))))))
noncomputable def m__law_text : List D → Sg → Out D := Gd.fn 3 b__law_text 1
noncomputable def b_taken_apart : MS := (s_seq (s_own 1 (f_lst a_nil))
  (s_seq (s_set 2 (e_c (.int 0)))
  (s_seq (s_wh (t_e (e_op2 d_lt (e_var 2) (e_cb (d_1 d_len) (a_cons (e_var 0) a_nil)))) (s_seq (s_set 3 (e_op2 d_add4 (e_var 2) (e_c (.int 1))))
  (s_seq (s_if (t_e (e_op2 (d_in false) (e_op2 d_ix (e_var 0) (e_var 2)) (e_c (.str "abcdefghijklmnopqrstuvwxyz")))) (s_seq (s_wh (t_and (t_e (e_op2 d_lt (e_var 3) (e_cb (d_1 d_len) (a_cons (e_var 0) a_nil)))) (t_e (e_op2 (d_in false) (e_op2 d_ix (e_var 0) (e_var 3)) (e_c (.str "abcdefghijklmnopqrstuvwxyz"))))) (s_aug 3 d_addI (e_c (.int 1))) 100000)
  (s_app (e_var 1) (e_sl d_sl3 (e_var 0) (o_e (e_var 2)) (o_e (e_var 3))))) (s_if (t_e (e_op2 d_eq (e_sl d_sl3 (e_var 0) (o_e (e_var 2)) (o_e (e_op2 d_add4 (e_var 2) (e_c (.int 2))))) (e_c (.str "<-")))) (s_seq (s_set 3 (e_op2 d_add4 (e_var 2) (e_c (.int 2))))
  (s_app (e_var 1) (e_c (.str "<-")))) (s_if (t_e (e_op2 d_eq (e_op2 d_ix (e_var 0) (e_var 2)) (e_c (.str ",")))) (s_app (e_var 1) (e_c (.str ","))) (s_if (t_e (e_op2 d_ne (e_op2 d_ix (e_var 0) (e_var 2)) (e_c (.str " ")))) (s_ret (e_c .non)) s_nx))))
  (s_set 2 (e_var 3)))) 100000)
  (s_ret (e_var 1)))))
noncomputable def m_taken_apart : List D → Sg → Out D := Gd.fn 4 b_taken_apart 1
noncomputable def b_listed : MS := (s_seq (s_own 1 (f_lst (a_cons (e_sh (f_lst a_nil)) a_nil)))
  (s_seq (s_for (i_seqG (e_var 0)) (t_name 2) (s_if (t_e (e_op2 d_eq (e_var 2) (e_c (.str ",")))) (s_app (e_var 1) (e_sh (f_lst a_nil))) (s_app (e_op2 d_ix (e_var 1) (e_op1 d_neg (e_c (.int 1)))) (e_var 2))))
  (s_ret (e_var 1))))
noncomputable def m_listed : List D → Sg → Out D := Gd.fn 3 b_listed 1
noncomputable def b_rule_by : MS := (s_seq (s_star 1 2 (e_if (t_e (e_op2 d_ne (e_var 0) (f_lst a_nil))) (e_var 0) (f_lst (a_cons (e_c (.str "")) a_nil))))
  (s_seq (s_set 3 (f_lst a_nil))
  (s_seq (s_if (t_and (t_e (e_op2 d_eq (e_var 1) (e_c (.str "never")))) (t_e (e_op2 d_ne (e_var 2) (f_lst a_nil)))) (s_set 3 (e_call m_listed (a_cons (e_var 2) a_nil))) (s_if (t_and (t_e (e_op2 d_ne (e_var 1) (e_c (.str "never")))) (t_e (e_op2 d_ne (e_var 2) (f_lst a_nil)))) (s_seq (s_if (t_or (t_e (e_op2 d_ne (e_op2 d_ix (e_var 2) (e_c (.int 0))) (e_c (.str "<-")))) (t_e (e_op2 d_eq (e_cb (d_1 d_len) (a_cons (e_var 2) a_nil)) (e_c (.int 1))))) (s_ret (e_c .non)) s_nx)
  (s_set 3 (e_call m_listed (a_cons (e_sl d_sl3 (e_var 2) (o_e (e_c (.int 1))) o_no) a_nil)))) s_nx))
  (s_seq (s_set 4 (f_lc [7] (i_seqC (e_var 3)) (t_name 7) (t_e (e_op2 d_eq (e_cb (d_1 d_len) (a_cons (e_var 7) a_nil)) (e_c (.int 1)))) (e_op2 d_ix (e_var 7) (e_c (.int 0)))))
  (s_seq (s_set 5 (f_lc [7] (i_seqC (e_var 3)) (t_name 7) (t_and (t_e (e_op2 d_eq (e_cb (d_1 d_len) (a_cons (e_var 7) a_nil)) (e_c (.int 2)))) (t_e (e_op2 d_eq (e_op2 d_ix (e_var 7) (e_c (.int 0))) (e_c (.str "not"))))) (e_op2 d_ix (e_var 7) (e_c (.int 1)))))
  (s_seq (s_if (t_e (e_op2 d_ne (e_op2 d_add4 (e_cb (d_1 d_len) (a_cons (e_var 4) a_nil)) (e_cb (d_1 d_len) (a_cons (e_var 5) a_nil))) (e_cb (d_1 d_len) (a_cons (e_var 3) a_nil)))) (s_ret (e_c .non)) s_nx)
  (s_seq (s_set 6 (e_c .non))
  (s_seq (s_try [] (s_set 6 (e_mkF "Rule" m_Rule___init__ (fun ds es => (ds ++ ((es[0]?).toList ++ []))) (a_cons (e_if (t_e (e_op2 d_eq (e_var 1) (e_c (.str "never")))) (e_c .non) (e_var 1)) (a_cons (e_var 4) a_nil)) (a_cons (e_var 5) a_nil))) (s_set 6 (e_c .non)))
  (s_ret (e_var 6))))))))))
noncomputable def m_rule_by : List D → Sg → Out D := Gd.fn 8 b_rule_by 1
noncomputable def b_row_of : MS := (s_seq (s_set 1 (e_call m_taken_apart (a_cons (e_var 0) a_nil)))
  (s_ret (e_if (t_e (e_op2 d_isN (e_var 1) (e_c .non))) (e_c .non) (e_call m_rule_by (a_cons (e_var 1) a_nil)))))
noncomputable def m_row_of : List D → Sg → Out D := Gd.fn 2 b_row_of 1
noncomputable def b_read_rule : MS := (s_seq (s_set 1 (e_if (t_e (e_op1 (d_isi "str") (e_var 0))) (e_call m_row_of (a_cons (e_var 0) a_nil)) (e_c .non)))
  (s_seq (s_if (t_e (e_op2 d_isN (e_var 1) (e_c .non))) s_never s_nx)
  (s_ret (e_var 1))))
noncomputable def m_read_rule : List D → Sg → Out D := Gd.fn 2 b_read_rule 1
noncomputable def b_Rule_told : MS := (s_ret (e_tup (a_cons (e_c (.str "rule")) (a_cons (e_op1 (d_fld ["Rule"] "head") (e_var 0)) (a_cons (e_op1 (d_fld ["Rule"] "body") (e_var 0)) (a_cons (e_op1 (d_fld ["Rule"] "unless") (e_var 0)) a_nil))))))
noncomputable def m_Rule_told : List D → Sg → Out D := Gd.fn 1 b_Rule_told 1
noncomputable def b_Rule___eq__ : MS := (s_ret (e_and (e_op1 (d_isC [("NoneType", false), ("bool", false), ("int", false), ("str", false), ("list", false), ("tuple", false), ("dict", false)] [("Rule", true)]) (e_var 1)) (e_op2 d_eq (e_meth "Rule" "told" m_Rule_told (e_var 0) a_nil) (e_meth "Rule" "told" m_Rule_told (e_var 1) a_nil))))
noncomputable def m_Rule___eq__ : List D → Sg → Out D := Gd.fn 2 b_Rule___eq__ 2
noncomputable def b_law : MS := (s_seq (s_set 1 (e_call m__law_begin (a_cons (e_var 0) a_nil)))
  (s_seq (s_for (i_rng (a_cons (e_c (.int 8)) a_nil)) (t_name 2) (s_seq (s_set 3 (e_call m__law_parts (a_cons (e_var 1) (a_cons (e_call m__law_words (a_cons (e_var 1) (a_cons (e_c (.int 7)) a_nil))) a_nil))))
  (s_seq (s_set 4 (e_mkF "Rule" m_Rule___init__ (fun ds es => (ds ++ ((es[0]?).toList ++ []))) (a_cons (e_op2 d_ix (e_var 3) (e_c (.int 0))) (a_cons (e_cb (d_1 d_list) (a_cons (e_op2 d_ix (e_var 3) (e_c (.int 1))) a_nil)) a_nil)) (a_cons (e_cb (d_1 d_list) (a_cons (e_op2 d_ix (e_var 3) (e_c (.int 2))) a_nil)) a_nil)))
  (s_seq (s_set 5 (f_lst (a_cons (e_meth "Rule" "text" m_Rule_text (e_var 4) a_nil) (a_cons (e_strO "Rule" m_Rule___str__ (e_var 4)) a_nil))))
  (s_seq (s_if (t_e (e_op2 d_ne (e_var 5) (e_rep (f_lst (a_cons (e_call m__law_text (a_cons (e_var 3) a_nil)) a_nil)) (e_c (.int 2))))) (s_ret (e_c (.bl false))) s_nx)
  (s_seq (s_set 6 (e_call m_read_rule (a_cons (e_op2 d_ix (e_var 5) (e_c (.int 0))) a_nil)))
  (s_if (t_or (t_not (t_e (e_op1 (d_isC [("NoneType", false), ("bool", false), ("int", false), ("str", false), ("list", false), ("tuple", false), ("dict", false)] [("Rule", true)]) (e_var 6)))) (t_or (t_not (t_e (e_eqO "Rule" m_Rule___eq__ (e_var 6) (e_var 4)))) (t_e (e_op2 d_ne (e_meth "Rule" "told" m_Rule_told (e_var 6) a_nil) (e_op2 d_add4 (e_tup (a_cons (e_c (.str "rule")) a_nil)) (e_var 3)))))) (s_ret (e_c (.bl false))) s_nx)))))))
  (s_ret (e_op2 d_eq (f_lst (a_cons (e_strO "Rule" m_Rule___str__ (e_mkF "Rule" m_Rule___init__ (fun ds es => (ds ++ ((([.tup []] : List D)[0]?).toList ++ ((([.tup []] : List D)[0]?).toList ++ [])))) (a_cons (e_c .non) a_nil) a_nil)) (a_cons (e_strO "Rule" m_Rule___str__ (e_mkF "Rule" m_Rule___init__ (fun ds es => (ds ++ ((([.tup []] : List D)[0]?).toList ++ ((([.tup []] : List D)[0]?).toList ++ [])))) (a_cons (e_c (.str "a")) a_nil) a_nil)) a_nil))) (f_lst (a_cons (e_c (.str "never")) (a_cons (e_c (.str "a")) a_nil)))))))
noncomputable def m_law : List D → Sg → Out D := Gd.fn 7 b_law 1
end Nk04

namespace Nk04
open PySem L2 Gd PyProof.Rows
def lawI (n k : Nat) (ds : List D) (ρ : Ro) (S : Sg) : Prop := ∃ a b c d e f, ρ = [a, .va (.obj n), b, c, d, e, f] ∧ Dr n k S ∧ ∀ d ∈ ds, isLoc d = false
theorem law_true : ∀ ns : List Int, ns.length ≤ 63 → ∃ S', m_law [.lst (ns.map .int)] [] = .ok (.bl true) S' := by
  intro ns hl
  suffices h : (m_law [.lst (ns.map .int)] []).W fun d _ => d = .bl true by
    obtain ⟨d, S', e, rfl⟩ := h.eq
    exact ⟨S', e⟩
  unfold m_law
  rw [W_fn]
  refine ⟨rfl, ?_⟩
  unfold b_law
  refine seq_of fun N hN => ?_
  simp [List.replicate]
  refine begin_W hl fun n k S1 d1 _ _ => ?_
  simp
  refine hN _ _ ?_
  clear hN
  refine seq_of fun N hN => ?_
  refine W_for (lawI n k) ?_ ?_ ?_
  · simp [rng_1]
    exact ⟨_, _, _, _, _, _, rfl, d1, rng_no _ _⟩
  · rintro x ds ρ S2 ⟨a1, a2, a3, a4, a5, a6, rfl, d2, hd⟩
    have hd0 := hd x (List.mem_cons_self ..)
    refine ⟨_, by rw [tn_of, hd0]; rfl, ?_⟩
    clear hN
    refine seq_of fun N hN => ?_
    simp
    refine words_W (many := 7) d2 (by decide) fun ws S3 d3 _ hl nd hw => ?_
    simp
    refine parts_W d3 hl nd hw fun h b u S4 d4 ok => ?_
    simp
    refine hN _ _ ?_
    clear hN
    have i0 : d_ix (.tup [h, .tup (b.map .str), .tup (u.map .str)]) (.int 0) = some h := rfl
    have i1 : d_ix (.tup [h, .tup (b.map .str), .tup (u.map .str)]) (.int 1) = some (.tup (b.map .str)) := rfl
    have i2 : d_ix (.tup [h, .tup (b.map .str), .tup (u.map .str)]) (.int 2) = some (.tup (u.map .str)) := rfl
    refine seq_of fun N hN => ?_
    rw [W_set]
    refine mkF_W ?_
    simp [i0, i1, i2, ok.hd.lo]
    refine init_W ok (.inl rfl) (.inl rfl) ?_
    refine ⟨rfl, _, rfl, okD_rule _ ok.hd, rfl, ?_⟩
    refine hN _ _ ?_
    clear hN
    refine seq_of fun N hN => ?_
    simp [cls_rule, nof_text]
    refine text_W ok ?_
    simp [cls_rule]
    refine str_W ok ?_
    simp
    refine hN _ _ ?_
    clear hN
    refine seq_of fun N hN => ?_
    simp
    refine ltext_W ok ?_
    have hr : d_rep (.lst [.str (ruleT h b u)]) (.int 2) = some (.lst [.str (ruleT h b u), .str (ruleT h b u)]) := rfl
    have hne : d_ne (.lst [.str (ruleT h b u), .str (ruleT h b u)]) (.lst [.str (ruleT h b u), .str (ruleT h b u)]) = some (.bl false) := by
      have hk : ∀ t ∈ [ruleT h b u, ruleT h b u], PyData.strOk t = true := by
        intro t ht
        have : t = ruleT h b u := by simpa using ht
        rw [this]; exact ruleT_ok ok
      have := ne_strs [ruleT h b u, ruleT h b u] [ruleT h b u, ruleT h b u] hk hk
      simpa using this
    simp [hr, hne]
    refine hN _ _ ?_
    clear hN
    refine seq_of fun N hN => ?_
    have hx : d_ix (.lst [.str (ruleT h b u), .str (ruleT h b u)]) (.int 0) = some (.str (ruleT h b u)) := rfl
    simp [hx]
    refine read_W ok ?_
    rintro S' ⟨X, rfl⟩
    simp
    refine hN _ _ ?_
    clear hN
    simp [isC_rule, cls_rule, nof_told]
    refine eq_W ok ?_
    simp [cls_rule, nof_told]
    refine told_W ok.hd ?_
    have lt : isLoc (toldD h b u) = false := rfl
    have de : ∀ (ρ : Ro) S, deref ρ S (toldD h b u) = some (toldD h b u) := fun _ _ => rfl
    simp [told_add, de, told_ne ok, -add4_tup]
    refine ⟨_, told_ne ok, ?_⟩
    simp
    exact ⟨_, _, _, _, _, _, rfl, d4.app X, fun x hx => hd x (List.mem_cons_of_mem _ hx)⟩
  · rintro ρ S2 ⟨a1, a2, a3, a4, a5, a6, rfl, d2, hd⟩
    refine hN _ _ ?_
    have ok1 : RuleOk .non [] [] := ⟨.inl rfl, (fun _ h => nomatch h), (fun _ h => nomatch h), .nil, .nil, by simp, by simp⟩
    have ok2 : RuleOk (.str (Str.ofString "a")) [] [] := ⟨.inr ⟨_, rfl, by decide +kernel⟩, (fun _ h => nomatch h), (fun _ h => nomatch h), .nil, .nil, by simp, by simp⟩
    have t1 : ruleT .non [] [] = Str.ofString "never" := rfl
    have t2 : ruleT (.str (Str.ofString "a")) [] [] = Str.ofString "a" := rfl
    have he : d_eq (.lst [.str (Str.ofString "never"), .str (Str.ofString "a")]) (.lst [.str (Str.ofString "never"), .str (Str.ofString "a")]) = some (.bl true) := by
      have hk : ∀ t ∈ [Str.ofString "never", Str.ofString "a"], PyData.strOk t = true := by decide +kernel
      have := eq_strs [Str.ofString "never", Str.ofString "a"] [Str.ofString "never", Str.ofString "a"] hk hk
      simpa using this
    rw [W_ret, W_op2, W_lst, W_acons, W_strO]
    refine mkF_W ?_
    simp
    refine init_W ok1 (.inr rfl) (.inr rfl) ?_
    refine ⟨rfl, _, rfl, okD_rule _ ok1.hd, ?_⟩
    simp [cls_rule]
    refine str_W ok1 ?_
    simp
    refine mkF_W ?_
    simp
    refine init_W ok2 (.inr rfl) (.inr rfl) ?_
    refine ⟨rfl, _, rfl, okD_rule _ ok2.hd, ?_⟩
    simp [cls_rule]
    refine str_W ok2 ?_
    simp [t1, t2, he]
end Nk04

namespace Nk04
open PySem L2 Gd PyProof.Rows
def top (i : Nat) : Stmt := PySem.Challenge.pw_groundlots_k04_texts_of_rules.main.body.getD i (.Pass ⟨0, 0, 0, 0⟩)
abbrev st__law_begin : Stmt := top 22
abbrev st__law_take : Stmt := top 23
abbrev st__law_parts : Stmt := top 27
abbrev st__law_pick : Stmt := top 24
abbrev st__law_word : Stmt := top 25
abbrev st__law_words : Stmt := top 26
abbrev st_is_name : Stmt := top 8
abbrev st_are_names : Stmt := top 9
abbrev st_Rule___init__ : Stmt := (L2.inClass (top 13) 0)
abbrev st_Rule_text : Stmt := (L2.inClass (top 13) 3)
abbrev st_Rule___str__ : Stmt := (L2.inClass (top 13) 5)
abbrev st__law_text : Stmt := top 28
abbrev st_taken_apart : Stmt := top 16
abbrev st_listed : Stmt := top 17
abbrev st_rule_by : Stmt := top 18
abbrev st_row_of : Stmt := top 19
abbrev st_read_rule : Stmt := top 20
abbrev st_Rule_told : Stmt := (L2.inClass (top 13) 1)
abbrev st_Rule___eq__ : Stmt := (L2.inClass (top 13) 4)
abbrev st_law : Stmt := top 29
structure Txt (K : Fg) (mg : Mg) where
  A_Rule : Addr
  C_Rule : ClsAt K mg "Rule" A_Rule
  fl_head : ∀ c ∈ (["Rule"] : List Str), FldOk K mg "head" c
  fl_body : ∀ c ∈ (["Rule"] : List Str), FldOk K mg "body" c
  fl_unless : ∀ c ∈ (["Rule"] : List Str), FldOk K mg "unless" c
  is_Rule : IsC K mg A_Rule [("NoneType", false), ("bool", false), ("int", false), ("str", false), ("list", false), ("tuple", false), ("dict", false)] [("Rule", true)]
  Ax_BadRule : Addr
  x_BadRule : mg "BadRule" = some (.ref Ax_BadRule)
  tc_BadRule : TryC K mg Ax_BadRule []
  f0 : Addr
  d0 : FuncData
  F0 : Fun K "_law_begin" "_law_begin" st__law_begin f0 d0
  g0 : mg "_law_begin" = some (.ref f0)
  b0 : Binds K d0 ["script"] []
  f1 : Addr
  d1 : FuncData
  F1 : Fun K "_law_take" "_law_take" st__law_take f1 d1
  g1 : mg "_law_take" = some (.ref f1)
  b1 : Binds K d1 ["draw", "size"] []
  f2 : Addr
  d2 : FuncData
  F2 : Fun K "_law_parts" "_law_parts" st__law_parts f2 d2
  g2 : mg "_law_parts" = some (.ref f2)
  b2 : Binds K d2 ["draw", "words"] []
  f3 : Addr
  d3 : FuncData
  F3 : Fun K "_law_pick" "_law_pick" st__law_pick f3 d3
  g3 : mg "_law_pick" = some (.ref f3)
  b3 : Binds K d3 ["draw", "some"] []
  f4 : Addr
  d4 : FuncData
  F4 : Fun K "_law_word" "_law_word" st__law_word f4 d4
  g4 : mg "_law_word" = some (.ref f4)
  b4 : Binds K d4 ["draw"] []
  f5 : Addr
  d5 : FuncData
  F5 : Fun K "_law_words" "_law_words" st__law_words f5 d5
  g5 : mg "_law_words" = some (.ref f5)
  b5 : Binds K d5 ["draw", "many"] []
  f6 : Addr
  d6 : FuncData
  F6 : Fun K "is_name" "is_name" st_is_name f6 d6
  g6 : mg "is_name" = some (.ref f6)
  b6 : Binds K d6 ["thing"] []
  f7 : Addr
  d7 : FuncData
  F7 : FunD K "are_names" "are_names" (defArgs st_are_names) (defBody st_are_names) (defScope st_are_names) ([.int 24] : List V) ([] : List (Str × V)) f7 d7
  g7 : mg "are_names" = some (.ref f7)
  b7 : Binds K d7 ["thing", "most"] []
  E8_0 : Addr
  p8_0 : ∀ G ad, Rep K mg G ad (.ref E8_0) (.tup [])
  E8_unless : Addr
  p8_unless : ∀ G ad, Rep K mg G ad (.ref E8_unless) (.tup [])
  f8 : Addr
  d8 : FuncData
  F8 : FunD K "__init__" "Rule.__init__" (defArgs st_Rule___init__) (defBody st_Rule___init__) (defScope st_Rule___init__) ([.ref E8_0] : List V) ([("unless", .ref E8_unless)] : List (Str × V)) f8 d8
  kg8_0 : List Value → List Value → List Value
  kb8_0 : KBn K d8 ["self", "head", "body", "unless"] 3 ["unless"] kg8_0 (fun vs zs => (vs ++ ((zs[0]?).toList ++ [])))
  kg8_1 : List Value → List Value → List Value
  kb8_1 : KBn K d8 ["self", "head", "body", "unless"] 2 [] kg8_1 (fun vs zs => (vs ++ ((([.ref E8_0] : List V)[0]?).toList ++ ((([.ref E8_unless] : List V)[0]?).toList ++ []))))
  M_Rule : Mk K A_Rule f8
  f9 : Addr
  d9 : FuncData
  F9 : Fun K "text" "Rule.text" st_Rule_text f9 d9
  b9 : Binds K d9 ["self"] []
  m_Rule_text : Meth K A_Rule "text" f9
  f10 : Addr
  d10 : FuncData
  F10 : Fun K "__str__" "Rule.__str__" st_Rule___str__ f10 d10
  b10 : Binds K d10 ["self"] []
  i_10 : PySem.W.isFn K (.ref f10) = true
  s_Rule___str__ : PySem.W.findIn K (.ref A_Rule) "__str__" = some (some (.ref f10))
  f11 : Addr
  d11 : FuncData
  F11 : Fun K "_law_text" "_law_text" st__law_text f11 d11
  g11 : mg "_law_text" = some (.ref f11)
  b11 : Binds K d11 ["parts"] []
  f12 : Addr
  d12 : FuncData
  F12 : Fun K "taken_apart" "taken_apart" st_taken_apart f12 d12
  g12 : mg "taken_apart" = some (.ref f12)
  b12 : Binds K d12 ["text"] []
  f13 : Addr
  d13 : FuncData
  F13 : Fun K "listed" "listed" st_listed f13 d13
  g13 : mg "listed" = some (.ref f13)
  b13 : Binds K d13 ["words"] []
  f14 : Addr
  d14 : FuncData
  F14 : Fun K "rule_by" "rule_by" st_rule_by f14 d14
  g14 : mg "rule_by" = some (.ref f14)
  b14 : Binds K d14 ["words"] []
  f15 : Addr
  d15 : FuncData
  F15 : Fun K "row_of" "row_of" st_row_of f15 d15
  g15 : mg "row_of" = some (.ref f15)
  b15 : Binds K d15 ["text"] []
  f16 : Addr
  d16 : FuncData
  F16 : Fun K "read_rule" "read_rule" st_read_rule f16 d16
  g16 : mg "read_rule" = some (.ref f16)
  b16 : Binds K d16 ["text"] []
  f17 : Addr
  d17 : FuncData
  F17 : Fun K "told" "Rule.told" st_Rule_told f17 d17
  b17 : Binds K d17 ["self"] []
  m_Rule_told : Meth K A_Rule "told" f17
  f18 : Addr
  d18 : FuncData
  F18 : Fun K "__eq__" "Rule.__eq__" st_Rule___eq__ f18 d18
  b18 : Binds K d18 ["self", "other"] []
  i_18 : PySem.W.isFn K (.ref f18) = true
  s_Rule___eq__ : PySem.W.findIn K (.ref A_Rule) "__eq__" = some (some (.ref f18))
  f19 : Addr
  d19 : FuncData
  F19 : Fun K "law" "law" st_law f19 d19
  g19 : mg "law" = some (.ref f19)
  b19 : Binds K d19 ["script"] []
  z_abs : mg "abs" = none
  z_range : mg "range" = none
  z_len : mg "len" = none
  z_tuple : mg "tuple" = none
  z_isinstance : mg "isinstance" = none
  z_str : mg "str" = none
  z_all : mg "all" = none
  z_list : mg "list" = none
  z_set : mg "set" = none
  v_LONGEST : V
  u_LONGEST : Value
  g_LONGEST : mg "LONGEST" = some u_LONGEST
  r_LONGEST : RelV v_LONGEST u_LONGEST
  p_LONGEST : ∀ G ad, Rep K mg G ad v_LONGEST (.int 8)
  v_KEPT : V
  u_KEPT : Value
  g_KEPT : mg "KEPT" = some u_KEPT
  r_KEPT : RelV v_KEPT u_KEPT
  p_KEPT : ∀ G ad, Rep K mg G ad v_KEPT (.tup [(.str "not"), (.str "never"), (.str "may")])
  v_MOST_BODY : V
  u_MOST_BODY : Value
  g_MOST_BODY : mg "MOST_BODY" = some u_MOST_BODY
  r_MOST_BODY : RelV v_MOST_BODY u_MOST_BODY
  p_MOST_BODY : ∀ G ad, Rep K mg G ad v_MOST_BODY (.int 6)
  v_MOST_UNLESS : V
  u_MOST_UNLESS : Value
  g_MOST_UNLESS : mg "MOST_UNLESS" = some u_MOST_UNLESS
  r_MOST_UNLESS : RelV v_MOST_UNLESS u_MOST_UNLESS
  p_MOST_UNLESS : ∀ G ad, Rep K mg G ad v_MOST_UNLESS (.int 4)
  v_LETTERS : V
  u_LETTERS : Value
  g_LETTERS : mg "LETTERS" = some u_LETTERS
  r_LETTERS : RelV v_LETTERS u_LETTERS
  p_LETTERS : ∀ G ad, Rep K mg G ad v_LETTERS (.str "abcdefghijklmnopqrstuvwxyz")
section
variable {P : Program} {w : World} {K : Fg} {mg : Mg} {base : Heap}
theorem sc__law_begin : FnScope ["script", "cells", "cell"] ["script"] (defScope st__law_begin) := ⟨rfl, rfl, rfl, by decide +kernel, rfl, by decide +kernel, by decide +kernel⟩
theorem ok__law_begin (T : Txt K mg) : FnOk P w K mg base (L2.CX P w) 1 T.f0 T.d0 ["script"] (SpM K mg 1 m__law_begin) :=
  def_ok' (k := 0) T.F0 sc__law_begin fun cdv A outer s H E hr =>
    (S_cons (S_shLc (own := [("cell", 2)]) (i := 1) rfl sc__law_begin.nd rfl rfl (sw_true rfl rfl rfl (by decide +kernel)) (I_seqC (E_slice3 (E_var (pv 0)) O_no (O_e E_int))) (blkOk_by (own := [("cell", 2)]) rfl) (tg_name (i := 2)) (fun _ _ _ _ _ => pg_name (i := 2) sc__law_begin.nd rfl (Or.inl rfl)) (fun _ _ _ _ _ => Ts_nil) (fun _ _ _ _ _ => (E_cb call_abs cp_abs rfl T.z_abs (by decide +kernel) (A_cons (E_var (pv 2)) A_nil))))
    (S_cons (S_if (T_cmp (or_eq hr.units) op_dEq (nomark _) (E_var (pv 1)) (E_fz (F_lst A_nil))) (S_one (S_set (i := 1) sc__law_begin.nd rfl (Or.inl rfl) (E_sh (F_lst (A_cons E_int A_nil))))) S_nil)
    (S_one (S_ret (E_sh (F_lst (A_cons (E_var (pv 1)) (A_cons E_int (A_cons E_int A_nil)))))))))
theorem sc__law_take : FnScope ["draw", "size", "cells", "at", "cell"] ["draw", "size"] (defScope st__law_take) := ⟨rfl, rfl, rfl, by decide +kernel, rfl, by decide +kernel, by decide +kernel⟩
theorem ok__law_take (T : Txt K mg) : FnOk P w K mg base (L2.CX P w) 1 T.f1 T.d1 ["draw", "size"] (SpM K mg 2 m__law_take) :=
  def_ok' (k := 0) T.F1 sc__law_take fun cdv A outer s H E hr =>
    (S_cons (S_set (i := 2) sc__law_take.nd rfl (Or.inl rfl) (E_index (E_var (pv 0)) E_int (fun _ _ => rfl)))
    (S_cons (S_set (i := 3) sc__law_take.nd rfl (Or.inl rfl) (E_mod (E_index (E_var (pv 0)) E_int (fun _ _ => rfl)) (E_cb cr_len2 cp_len rfl T.z_len (by decide +kernel) (A_cons (E_var (pv 2)) A_nil))))
    (S_cons (S_set (i := 4) sc__law_take.nd rfl (Or.inl rfl) (E_index (E_var (pv 2)) (E_var (pv 3)) (fun _ _ => rfl)))
    (S_cons (S_if (T_cmp op_ge op_intB (nomark _) (E_var (pv 4)) (E_pow E_int E_int)) (S_cons (S_seti (hu_of hr) (E_var (pv 2)) (E_var (pv 3)) (E_fdiv (E_var (pv 4)) (E_var (pv 1))))
    (S_one (S_ret (E_mod (E_var (pv 4)) (E_var (pv 1)))))) S_nil)
    (S_cons (S_seti (hu_of hr) (E_var (pv 0)) E_int (E_add4 (E_index (E_var (pv 0)) E_int (fun _ _ => rfl)) E_int))
    (S_cons (S_seti (hu_of hr) (E_var (pv 0)) E_int (E_mod (E_add4 (E_add4 (E_mul (E_index (E_var (pv 0)) E_int (fun _ _ => rfl)) E_int) (E_var (pv 4))) E_int) E_int))
    (S_one (S_ret (E_mod (E_fdiv (E_mod (E_mul (E_index (E_var (pv 0)) E_int (fun _ _ => rfl)) (E_index (E_var (pv 0)) E_int (fun _ _ => rfl))) E_int) E_int) (E_var (pv 1)))))))))))
theorem sc__law_parts : FnScope ["draw", "words", "head", "first", "second", "turned", "other"] ["draw", "words"] (defScope st__law_parts) := ⟨rfl, rfl, rfl, by decide +kernel, rfl, by decide +kernel, by decide +kernel⟩
theorem ok__law_parts (T : Txt K mg) : FnOk P w K mg base (L2.CX P w) 2 T.f2 T.d2 ["draw", "words"] (SpM K mg 2 m__law_parts) :=
  def_ok' (k := 1) T.F2 sc__law_parts fun cdv A outer s H E hr =>
    (S_cons (S_set (i := 2) sc__law_parts.nd rfl (Or.inl rfl) (E_index (E_fz (F_lst (A_cons E_non (A_cons (E_index (E_var (pv 1)) E_int (fun _ _ => rfl)) (A_cons (E_index (E_var (pv 1)) E_int (fun _ _ => rfl)) (A_cons (E_index (E_var (pv 1)) (E_neg E_int) (fun _ _ => rfl)) A_nil)))))) (E_call (ok__law_take T) (hr.mono (by decide)) rfl T.g1 T.F1.kp T.b1 (takes_of rfl rfl rfl rfl) (A_cons (E_var (pv 0)) (A_cons E_int A_nil))) (fun _ _ => rfl)))
    (S_cons (S_par (i := 3) (j := 4) rfl sc__law_parts.nd rfl rfl (by decide) rfl rfl (A_cons (E_call (ok__law_take T) (hr.mono (by decide)) rfl T.g1 T.F1.kp T.b1 (takes_of rfl rfl rfl rfl) (A_cons (E_var (pv 0)) (A_cons (E_cb cr_len2 cp_len rfl T.z_len (by decide +kernel) (A_cons (E_var (pv 1)) A_nil)) A_nil))) (A_cons (E_call (ok__law_take T) (hr.mono (by decide)) rfl T.g1 T.F1.kp T.b1 (takes_of rfl rfl rfl rfl) (A_cons (E_var (pv 0)) (A_cons (E_cb cr_len2 cp_len rfl T.z_len (by decide +kernel) (A_cons (E_var (pv 1)) A_nil)) A_nil))) A_nil)))
    (S_cons (S_set (i := 5) sc__law_parts.nd rfl (Or.inl rfl) (E_slice3 (E_add4 (E_var (pv 1)) (E_var (pv 1))) (O_e (E_var (pv 3))) (O_e (E_add4 (E_var (pv 3)) (E_cb cr_len2 cp_len rfl T.z_len (by decide +kernel) (A_cons (E_var (pv 1)) A_nil))))))
    (S_cons (S_set (i := 6) sc__law_parts.nd rfl (Or.inl rfl) (E_fz (F_rev (E_slice3 (E_add4 (E_var (pv 1)) (E_var (pv 1))) (O_e (E_var (pv 4))) (O_e (E_add4 (E_var (pv 4)) (E_cb cr_len2 cp_len rfl T.z_len (by decide +kernel) (A_cons (E_var (pv 1)) A_nil))))))))
    (S_one (S_ret (E_tup (A_cons (E_var (pv 2)) (A_cons (E_ct cr_tuple cp_tuple rfl T.z_tuple (by decide +kernel) (A_cons (E_slice3 (E_var (pv 5)) O_no (O_e (E_call (ok__law_take T) (hr.mono (by decide)) rfl T.g1 T.F1.kp T.b1 (takes_of rfl rfl rfl rfl) (A_cons (E_var (pv 0)) (A_cons E_int A_nil))))) A_nil)) (A_cons (E_ct cr_tuple cp_tuple rfl T.z_tuple (by decide +kernel) (A_cons (E_slice3 (E_var (pv 6)) O_no (O_e (E_call (ok__law_take T) (hr.mono (by decide)) rfl T.g1 T.F1.kp T.b1 (takes_of rfl rfl rfl rfl) (A_cons (E_var (pv 0)) (A_cons E_int A_nil))))) A_nil)) A_nil))))))))))
theorem sc__law_pick : FnScope ["draw", "some"] ["draw", "some"] (defScope st__law_pick) := ⟨rfl, rfl, rfl, by decide +kernel, rfl, by decide +kernel, by decide +kernel⟩
theorem ok__law_pick (T : Txt K mg) : FnOk P w K mg base (L2.CX P w) 2 T.f3 T.d3 ["draw", "some"] (SpM K mg 2 m__law_pick) :=
  def_ok' (k := 1) T.F3 sc__law_pick fun cdv A outer s H E hr =>
    (S_one (S_ret (E_index (E_var (pv 1)) (E_call (ok__law_take T) (hr.mono (by decide)) rfl T.g1 T.F1.kp T.b1 (takes_of rfl rfl rfl rfl) (A_cons (E_var (pv 0)) (A_cons (E_cb cr_len2 cp_len rfl T.z_len (by decide +kernel) (A_cons (E_var (pv 1)) A_nil)) A_nil))) (fun _ _ => rfl))))
theorem sc__law_word : FnScope ["draw", "own", "word", "k"] ["draw"] (defScope st__law_word) := ⟨rfl, rfl, rfl, by decide +kernel, rfl, by decide +kernel, by decide +kernel⟩
theorem ok__law_word (T : Txt K mg) : FnOk P w K mg base (L2.CX P w) 3 T.f4 T.d4 ["draw"] (SpM K mg 1 m__law_word) :=
  def_ok' (k := 2) T.F4 sc__law_word fun cdv A outer s H E hr =>
    (S_cons (S_set (i := 1) sc__law_word.nd rfl (Or.inl rfl) (E_fz (F_lst (A_cons E_str (A_cons E_str (A_cons E_str (A_cons E_str (A_cons E_str (A_cons E_str (A_cons E_str (A_cons E_str (A_cons E_str (A_cons E_str (A_cons E_str (A_cons E_str (A_cons E_str (A_cons E_str (A_cons E_str A_nil))))))))))))))))))
    (S_cons (S_if (T_cmp (or_eq hr.units) op_dEq (nomark _) (E_call (ok__law_take T) (hr.mono (by decide)) rfl T.g1 T.F1.kp T.b1 (takes_of rfl rfl rfl rfl) (A_cons (E_var (pv 0)) (A_cons E_int A_nil))) E_int) (S_one (S_ret (E_call (ok__law_pick T) (hr.mono (by decide)) rfl T.g3 T.F3.kp T.b3 (takes_of rfl rfl rfl rfl) (A_cons (E_var (pv 0)) (A_cons (E_var (pv 1)) A_nil))))) S_nil)
    (S_cons (S_set (i := 2) sc__law_word.nd rfl (Or.inl rfl) E_str)
    (S_cons (S_for (passes_of rfl) rfl (I_rng1 rfl T.z_range (E_add4 E_int (E_call (ok__law_take T) (hr.mono (by decide)) rfl T.g1 T.F1.kp T.b1 (takes_of rfl rfl rfl rfl) (A_cons (E_var (pv 0)) (A_cons E_int A_nil))))) (pg_name (i := 3) sc__law_word.nd rfl (Or.inl rfl)) (tg_name (i := 3)) (S_one (S_set (i := 2) sc__law_word.nd rfl (Or.inl rfl) (E_add4 (E_var (pv 2)) (E_index E_str (E_call (ok__law_take T) (hr.mono (by decide)) rfl T.g1 T.F1.kp T.b1 (takes_of rfl rfl rfl rfl) (A_cons (E_var (pv 0)) (A_cons E_int A_nil))) (fun _ _ => rfl))))))
    (S_cons (S_if (T_cmp or_in op_dIn (by rfl) (E_var (pv 2)) (E_fz (F_lst (A_cons E_str (A_cons E_str (A_cons E_str A_nil)))))) (S_one (S_ret (E_slice3 (E_var (pv 2)) O_no (O_e (E_neg E_int))))) S_nil)
    (S_one (S_ret (E_var (pv 2)))))))))
theorem sc__law_words : FnScope ["draw", "many", "found", "k", "word", "taken", "sign"] ["draw", "many"] (defScope st__law_words) := ⟨rfl, rfl, rfl, by decide +kernel, rfl, by decide +kernel, by decide +kernel⟩
theorem ok__law_words (T : Txt K mg) : FnOk P w K mg base (L2.CX P w) 4 T.f5 T.d5 ["draw", "many"] (SpM K mg 2 m__law_words) :=
  def_ok' (k := 3) T.F5 sc__law_words fun cdv A outer s H E hr =>
    (S_cons (S_own (i := 2) sc__law_words.nd rfl (Or.inl rfl) (F_lst A_nil))
    (S_cons (S_for (passes_of rfl) rfl (I_rng1 rfl T.z_range (E_var (pv 1))) (pg_name (i := 3) sc__law_words.nd rfl (Or.inl rfl)) (tg_name (i := 3)) (S_cons (S_set (i := 4) sc__law_words.nd rfl (Or.inr rfl) (E_call (ok__law_word T) (hr.mono (by decide)) rfl T.g4 T.F4.kp T.b4 (takes_of rfl rfl rfl rfl) (A_cons (E_var (pv 0)) A_nil)))
    (S_cons (S_if (T_cmp or_in op_dIn (by rfl) (E_var (pv 4)) (E_var (pv 2))) (S_cons (S_set (i := 5) sc__law_words.nd rfl (Or.inr rfl) (E_add4 (E_var (pv 2)) (E_fz (F_lst (A_cons E_str (A_cons E_str (A_cons E_str A_nil)))))))
    (S_one (S_set (i := 4) sc__law_words.nd rfl (Or.inr rfl) (E_index (E_fz (F_lc (own := [("sign", 6)]) rfl sc__law_words.nd (I_seqC E_str) (blkOk_by (own := [("sign", 6)]) rfl) (tg_name (i := 6)) (fun _ _ _ _ _ => pg_name (i := 6) sc__law_words.nd rfl (Or.inl rfl)) (fun _ _ _ _ _ => (Ts_one (T_cmp or_nin op_dIn (by rfl) (E_add4 (E_slice3 (E_var (pv 4)) O_no (O_e E_int)) (E_var (pv 6))) (E_var (pv 5))))) (fun _ _ _ _ _ => (E_add4 (E_slice3 (E_var (pv 4)) O_no (O_e E_int)) (E_var (pv 6)))))) E_int (fun _ _ => rfl))))) S_nil)
    (S_one (S_app (E_var (pv 2)) (E_var (pv 4)))))))
    (S_one (S_ret (E_var (pv 2))))))
theorem sc_is_name : FnScope ["thing", "sign"] ["thing"] (defScope st_is_name) := ⟨rfl, rfl, rfl, by decide +kernel, rfl, by decide +kernel, by decide +kernel⟩
theorem ok_is_name (T : Txt K mg) : FnOk P w K mg base (L2.CX P w) 1 T.f6 T.d6 ["thing"] (SpM K mg 1 m_is_name) :=
  def_ok' (k := 0) T.F6 sc_is_name fun cdv A outer s H E hr =>
    (S_cons (S_if (PW.pt (W_or (T_not (T_val (E_isi rfl T.z_isinstance (E_var (pv 0)) (pe_bltn (v := .ty "str") rfl T.z_str (by decide +kernel) rfl)))) (W_or (T_not (T_chain or_le of_le or_le of_le E_int (E_cb cr_len2 cp_len rfl T.z_len (by decide +kernel) (A_cons (E_var (pv 0)) A_nil)) (E_glob rfl T.g_LONGEST T.r_LONGEST T.p_LONGEST))) (pw_or1 (T_cmp or_in op_dIn (by rfl) (E_var (pv 0)) (E_glob rfl T.g_KEPT T.r_KEPT T.p_KEPT)))))) (S_one (S_ret E_bl)) S_nil)
    (S_one (S_ret (E_cb (cr_all rfl) cp_all rfl T.z_all (by decide +kernel) (A_cons (E_fz (F_lc (own := [("sign", 1)]) rfl sc_is_name.nd (I_seqC (E_var (pv 0))) (blkOk_by (own := [("sign", 1)]) rfl) (tg_name (i := 1)) (fun _ _ _ _ _ => pg_name (i := 1) sc_is_name.nd rfl (Or.inl rfl)) (fun _ _ _ _ _ => Ts_nil) (fun _ _ _ _ _ => (E_chain or_le of_le or_le of_le E_str (E_var (pv 1)) E_str)))) A_nil)))))
theorem sc_are_names : FnScope ["thing", "most", "name"] ["thing", "most"] (defScope st_are_names) := ⟨rfl, rfl, rfl, by decide +kernel, rfl, by decide +kernel, by decide +kernel⟩
theorem ok_are_names (T : Txt K mg) : FnOk P w K mg base (L2.CX P w) 2 T.f7 T.d7 ["thing", "most"] (SpM K mg 2 m_are_names) :=
  def_okD (k := 1) T.F7 sc_are_names fun cdv A outer s H E hr =>
    (S_cons (S_if (PW.pt (W_or (T_not (T_val (E_isiN rfl T.z_isinstance (E_var (pv 0)) (tys_cons (pe_bltn (v := .ty "list") rfl T.z_list (by decide +kernel) rfl) (tys_cons (pe_bltn (v := .ty "tuple") rfl T.z_tuple (by decide +kernel) rfl) tys_nil)) (by decide)))) (pw_or1 (T_cmp op_gt op_intB (nomark _) (E_cb cr_len2 cp_len rfl T.z_len (by decide +kernel) (A_cons (E_var (pv 0)) A_nil)) (E_var (pv 1)))))) (S_one (S_ret E_bl)) S_nil)
    (S_one (S_ret (E_and (E_cb (cr_all rfl) cp_all rfl T.z_all (by decide +kernel) (A_cons (E_fz (F_lc (own := [("name", 2)]) rfl sc_are_names.nd (I_seqC (E_var (pv 0))) (blkOk_by (own := [("name", 2)]) rfl) (tg_name (i := 2)) (fun _ _ _ _ _ => pg_name (i := 2) sc_are_names.nd rfl (Or.inl rfl)) (fun _ _ _ _ _ => Ts_nil) (fun _ _ _ _ _ => (E_call (ok_is_name T) (hr.mono (by decide)) rfl T.g6 T.F6.kp T.b6 takes0 (A_cons (E_var (pv 2)) A_nil))))) A_nil)) (pe_one (E_cmp (or_eq hr.units) op_dEq (nomark _) (E_lenK rfl T.z_len rfl T.z_set (E_var (pv 0))) (E_cb cr_len2 cp_len rfl T.z_len (by decide +kernel) (A_cons (E_var (pv 0)) A_nil))))))))
theorem sc_Rule___init__ : FnScope ["self", "head", "body", "unless"] ["self", "head", "body", "unless"] (defScope st_Rule___init__) := ⟨rfl, rfl, rfl, by decide +kernel, rfl, by decide +kernel, by decide +kernel⟩
theorem ok_Rule___init__ (T : Txt K mg) : FnOk P w K mg base (L2.CX P w) 3 T.f8 T.d8 ["self", "head", "body", "unless"] (SpM K mg 4 m_Rule___init__) :=
  def_okD (k := 2) T.F8 sc_Rule___init__ fun cdv A outer s H E hr =>
    (S_cons (S_if (PW.pt (W_and (T_cmp op_notN of_notN (nomark _) (E_var (pv 1)) E_non) (pw_and1 (T_not (T_val (E_call (ok_is_name T) (hr.mono (by decide)) rfl T.g6 T.F6.kp T.b6 (takes_of rfl rfl rfl rfl) (A_cons (E_var (pv 1)) A_nil))))))) (S_one S_never) S_nil)
    (S_cons (S_if (PW.pt (W_or (T_not (T_val (E_call (ok_are_names T) (hr.mono (by decide)) rfl T.g7 T.F7.kp T.b7 (takes_of rfl rfl rfl rfl) (A_cons (E_var (pv 2)) (A_cons (E_glob rfl T.g_MOST_BODY T.r_MOST_BODY T.p_MOST_BODY) A_nil))))) (pw_or1 (T_not (T_val (E_call (ok_are_names T) (hr.mono (by decide)) rfl T.g7 T.F7.kp T.b7 (takes_of rfl rfl rfl rfl) (A_cons (E_var (pv 3)) (A_cons (E_glob rfl T.g_MOST_UNLESS T.r_MOST_UNLESS T.p_MOST_UNLESS) A_nil)))))))) (S_one S_never) S_nil)
    (S_cons (S_fld T.fl_head (E_var (pv 0)) (E_var (pv 1)))
    (S_cons (S_fld T.fl_body (E_var (pv 0)) (E_ct cr_tuple cp_tuple rfl T.z_tuple (by decide +kernel) (A_cons (E_var (pv 2)) A_nil)))
    (S_one (S_fld T.fl_unless (E_var (pv 0)) (E_ct cr_tuple cp_tuple rfl T.z_tuple (by decide +kernel) (A_cons (E_var (pv 3)) A_nil))))))))
theorem sc_Rule_text : FnScope ["self", "behind", "name"] ["self"] (defScope st_Rule_text) := ⟨rfl, rfl, rfl, by decide +kernel, rfl, by decide +kernel, by decide +kernel⟩
theorem ok_Rule_text (T : Txt K mg) : FnOk P w K mg base (L2.CX P w) 1 T.f9 T.d9 ["self"] (SpM K mg 1 m_Rule_text) :=
  def_ok' (k := 0) T.F9 sc_Rule_text fun cdv A outer s H E hr =>
    (S_cons (S_set (i := 1) sc_Rule_text.nd rfl (Or.inl rfl) (E_add4 (E_fz (F_ct cr_list cpf_list rfl T.z_list (by decide +kernel) (A_cons (E_fld T.fl_body (E_var (pv 0))) A_nil))) (E_fz (F_lc (own := [("name", 2)]) rfl sc_Rule_text.nd (I_seqC (E_fld T.fl_unless (E_var (pv 0)))) (blkOk_by (own := [("name", 2)]) rfl) (tg_name (i := 2)) (fun _ _ _ _ _ => pg_name (i := 2) sc_Rule_text.nd rfl (Or.inl rfl)) (fun _ _ _ _ _ => Ts_nil) (fun _ _ _ _ _ => (E_fstr (.cons E_str (.cons (E_fmt (E_var (pv 2))) .nil))))))))
    (S_cons (S_if (T_cmp op_isN of_isN (nomark _) (E_fld T.fl_head (E_var (pv 0))) E_non) (S_one (S_ret (E_if (T_cmp (or_ne hr.units) op_dNe (nomark _) (E_var (pv 1)) (E_fz (F_lst A_nil))) (E_add4 E_str (E_join E_str (E_var (pv 1)))) E_str))) S_nil)
    (S_one (S_ret (E_if (T_cmp (or_ne hr.units) op_dNe (nomark _) (E_var (pv 1)) (E_fz (F_lst A_nil))) (E_add4 (E_add4 (E_fld T.fl_head (E_var (pv 0))) E_str) (E_join E_str (E_var (pv 1)))) (E_fld T.fl_head (E_var (pv 0))))))))
theorem sc_Rule___str__ : FnScope ["self"] ["self"] (defScope st_Rule___str__) := ⟨rfl, rfl, rfl, by decide +kernel, rfl, by decide +kernel, by decide +kernel⟩
theorem ok_Rule___str__ (T : Txt K mg) : FnOk P w K mg base (L2.CX P w) 2 T.f10 T.d10 ["self"] (SpM K mg 1 m_Rule___str__) :=
  def_ok' (k := 1) T.F10 sc_Rule___str__ fun cdv A outer s H E hr =>
    (S_one (S_ret (E_fstr1 (E_fmt (E_meth0 T.C_Rule T.m_Rule_text (ok_Rule_text T) (hr.mono (by decide)) T.b9 (takes_of rfl rfl rfl rfl) (E_var (pv 0)))))))
theorem sc__law_text : FnScope ["parts", "some", "name"] ["parts"] (defScope st__law_text) := ⟨rfl, rfl, rfl, by decide +kernel, rfl, by decide +kernel, by decide +kernel⟩
theorem ok__law_text (T : Txt K mg) : FnOk P w K mg base (L2.CX P w) 1 T.f11 T.d11 ["parts"] (SpM K mg 1 m__law_text) :=
  def_ok' (k := 0) T.F11 sc__law_text fun cdv A outer s H E hr =>
    (S_cons (S_set (i := 1) sc__law_text.nd rfl (Or.inl rfl) (E_add4 (E_fz (F_ct cr_list cpf_list rfl T.z_list (by decide +kernel) (A_cons (E_index (E_var (pv 0)) E_int (fun _ _ => rfl)) A_nil))) (E_fz (F_lc (own := [("name", 2)]) rfl sc__law_text.nd (I_seqC (E_index (E_var (pv 0)) E_int (fun _ _ => rfl))) (blkOk_by (own := [("name", 2)]) rfl) (tg_name (i := 2)) (fun _ _ _ _ _ => pg_name (i := 2) sc__law_text.nd rfl (Or.inl rfl)) (fun _ _ _ _ _ => Ts_nil) (fun _ _ _ _ _ => (E_add4 E_str (E_var (pv 2))))))))
    (S_cons (S_if (T_cmp op_isN of_isN (nomark _) (E_index (E_var (pv 0)) E_int (fun _ _ => rfl)) E_non) (S_one (S_ret (E_join E_str (E_add4 (E_fz (F_lst (A_cons E_str A_nil))) (E_slice3 (E_fz (F_lst (A_cons (E_join E_str (E_var (pv 1))) A_nil))) O_no (O_e (E_cb cr_len2 cp_len rfl T.z_len (by decide +kernel) (A_cons (E_var (pv 1)) A_nil)))))))) S_nil)
    (S_one (S_ret (E_join E_str (E_add4 (E_fz (F_lst (A_cons (E_index (E_var (pv 0)) E_int (fun _ _ => rfl)) A_nil))) (E_slice3 (E_fz (F_lst (A_cons (E_join E_str (E_var (pv 1))) A_nil))) O_no (O_e (E_cb cr_len2 cp_len rfl T.z_len (by decide +kernel) (A_cons (E_var (pv 1)) A_nil))))))))))
theorem sc_taken_apart : FnScope ["text", "found", "at", "end"] ["text"] (defScope st_taken_apart) := ⟨rfl, rfl, rfl, by decide +kernel, rfl, by decide +kernel, by decide +kernel⟩
theorem ok_taken_apart (T : Txt K mg) : FnOk P w K mg base (L2.CX P w) 1 T.f12 T.d12 ["text"] (SpM K mg 1 m_taken_apart) :=
  def_ok' (k := 0) T.F12 sc_taken_apart fun cdv A outer s H E hr =>
    (S_cons (S_own (i := 1) sc_taken_apart.nd rfl (Or.inl rfl) (F_lst A_nil))
    (S_cons (S_set (i := 2) sc_taken_apart.nd rfl (Or.inl rfl) E_int)
    (S_cons (S_while 100000 (passes_of rfl) (T_cmp or_lt of_lt (nomark _) (E_var (pv 2)) (E_cb cr_len2 cp_len rfl T.z_len (by decide +kernel) (A_cons (E_var (pv 0)) A_nil))) (S_cons (S_set (i := 3) sc_taken_apart.nd rfl (Or.inl rfl) (E_add4 (E_var (pv 2)) E_int))
    (S_cons (S_if (T_cmp or_in op_dIn (by rfl) (E_index (E_var (pv 0)) (E_var (pv 2)) (fun _ _ => rfl)) (E_glob rfl T.g_LETTERS T.r_LETTERS T.p_LETTERS)) (S_cons (S_while 100000 (passes_of rfl) (PW.pt (W_and (T_cmp or_lt of_lt (nomark _) (E_var (pv 3)) (E_cb cr_len2 cp_len rfl T.z_len (by decide +kernel) (A_cons (E_var (pv 0)) A_nil))) (pw_and1 (T_cmp or_in op_dIn (by rfl) (E_index (E_var (pv 0)) (E_var (pv 3)) (fun _ _ => rfl)) (E_glob rfl T.g_LETTERS T.r_LETTERS T.p_LETTERS))))) (S_one (S_aug (i := 3) ip_addI of_ipadd sc_taken_apart.nd rfl (Or.inl rfl) E_int)))
    (S_one (S_app (E_var (pv 1)) (E_slice3 (E_var (pv 0)) (O_e (E_var (pv 2))) (O_e (E_var (pv 3))))))) (S_one (S_if (T_cmp (or_eq hr.units) op_dEq (nomark _) (E_slice3 (E_var (pv 0)) (O_e (E_var (pv 2))) (O_e (E_add4 (E_var (pv 2)) E_int))) E_str) (S_cons (S_set (i := 3) sc_taken_apart.nd rfl (Or.inl rfl) (E_add4 (E_var (pv 2)) E_int))
    (S_one (S_app (E_var (pv 1)) E_str))) (S_one (S_if (T_cmp (or_eq hr.units) op_dEq (nomark _) (E_index (E_var (pv 0)) (E_var (pv 2)) (fun _ _ => rfl)) E_str) (S_one (S_app (E_var (pv 1)) E_str)) (S_one (S_if (T_cmp (or_ne hr.units) op_dNe (nomark _) (E_index (E_var (pv 0)) (E_var (pv 2)) (fun _ _ => rfl)) E_str) (S_one (S_ret E_non)) S_nil)))))))
    (S_one (S_set (i := 2) sc_taken_apart.nd rfl (Or.inl rfl) (E_var (pv 3)))))))
    (S_one (S_ret (E_var (pv 1)))))))
theorem sc_listed : FnScope ["words", "found", "word"] ["words"] (defScope st_listed) := ⟨rfl, rfl, rfl, by decide +kernel, rfl, by decide +kernel, by decide +kernel⟩
theorem ok_listed (T : Txt K mg) : FnOk P w K mg base (L2.CX P w) 1 T.f13 T.d13 ["words"] (SpM K mg 1 m_listed) :=
  def_ok' (k := 0) T.F13 sc_listed fun cdv A outer s H E hr =>
    (S_cons (S_own (i := 1) sc_listed.nd rfl (Or.inl rfl) (F_lst (A_cons (E_sh (F_lst A_nil)) A_nil)))
    (S_cons (S_for (passes_of rfl) rfl (I_seqG (E_var (pv 0))) (pg_name (i := 2) sc_listed.nd rfl (Or.inl rfl)) (tg_name (i := 2)) (S_one (S_if (T_cmp (or_eq hr.units) op_dEq (nomark _) (E_var (pv 2)) E_str) (S_one (S_app (E_var (pv 1)) (E_sh (F_lst A_nil)))) (S_one (S_app (E_index (E_var (pv 1)) (E_neg E_int) (fun _ _ => rfl)) (E_var (pv 2)))))))
    (S_one (S_ret (E_var (pv 1))))))
theorem sc_rule_by : FnScope ["words", "head", "rest", "parts", "body", "unless", "found", "part"] ["words"] (defScope st_rule_by) := ⟨rfl, rfl, rfl, by decide +kernel, rfl, by decide +kernel, by decide +kernel⟩
theorem ok_rule_by (T : Txt K mg) : FnOk P w K mg base (L2.CX P w) 5 T.f14 T.d14 ["words"] (SpM K mg 1 m_rule_by) :=
  def_ok' (k := 4) T.F14 sc_rule_by fun cdv A outer s H E hr =>
    (S_cons (S_star (i := 1) (j := 2) rfl sc_rule_by.nd rfl rfl (Or.inl rfl) (Or.inl rfl) (E_if (T_cmp (or_ne hr.units) op_dNe (nomark _) (E_var (pv 0)) (E_fz (F_lst A_nil))) (E_var (pv 0)) (E_fz (F_lst (A_cons E_str A_nil)))))
    (S_cons (S_set (i := 3) sc_rule_by.nd rfl (Or.inl rfl) (E_fz (F_lst A_nil)))
    (S_cons (S_if (PW.pt (W_and (T_cmp (or_eq hr.units) op_dEq (nomark _) (E_var (pv 1)) E_str) (pw_and1 (T_cmp (or_ne hr.units) op_dNe (nomark _) (E_var (pv 2)) (E_fz (F_lst A_nil)))))) (S_one (S_set (i := 3) sc_rule_by.nd rfl (Or.inl rfl) (E_call (ok_listed T) (hr.mono (by decide)) rfl T.g13 T.F13.kp T.b13 (takes_of rfl rfl rfl rfl) (A_cons (E_var (pv 2)) A_nil)))) (S_one (S_if (PW.pt (W_and (T_cmp (or_ne hr.units) op_dNe (nomark _) (E_var (pv 1)) E_str) (pw_and1 (T_cmp (or_ne hr.units) op_dNe (nomark _) (E_var (pv 2)) (E_fz (F_lst A_nil)))))) (S_cons (S_if (PW.pt (W_or (T_cmp (or_ne hr.units) op_dNe (nomark _) (E_index (E_var (pv 2)) E_int (fun _ _ => rfl)) E_str) (pw_or1 (T_cmp (or_eq hr.units) op_dEq (nomark _) (E_cb cr_len2 cp_len rfl T.z_len (by decide +kernel) (A_cons (E_var (pv 2)) A_nil)) E_int)))) (S_one (S_ret E_non)) S_nil)
    (S_one (S_set (i := 3) sc_rule_by.nd rfl (Or.inl rfl) (E_call (ok_listed T) (hr.mono (by decide)) rfl T.g13 T.F13.kp T.b13 (takes_of rfl rfl rfl rfl) (A_cons (E_slice3 (E_var (pv 2)) (O_e E_int) O_no) A_nil))))) S_nil)))
    (S_cons (S_setLc (own := [("part", 7)]) (i := 4) rfl sc_rule_by.nd rfl rfl (sw_true rfl rfl rfl (by decide +kernel)) (I_seqC (E_var (pv 3))) (blkOk_by (own := [("part", 7)]) rfl) (tg_name (i := 7)) (fun _ _ _ _ _ => pg_name (i := 7) sc_rule_by.nd rfl (Or.inl rfl)) (fun _ _ _ _ _ => (Ts_one (T_cmp (or_eq hr.units) op_dEq (nomark _) (E_cb cr_len2 cp_len rfl T.z_len (by decide +kernel) (A_cons (E_var (pv 7)) A_nil)) E_int))) (fun _ _ _ _ _ => (E_index (E_var (pv 7)) E_int (fun _ _ => rfl))))
    (S_cons (S_setLc (own := [("part", 7)]) (i := 5) rfl sc_rule_by.nd rfl rfl (sw_true rfl rfl rfl (by decide +kernel)) (I_seqC (E_var (pv 3))) (blkOk_by (own := [("part", 7)]) rfl) (tg_name (i := 7)) (fun _ _ _ _ _ => pg_name (i := 7) sc_rule_by.nd rfl (Or.inl rfl)) (fun _ _ _ _ _ => (Ts_one (PW.pt (W_and (T_cmp (or_eq hr.units) op_dEq (nomark _) (E_cb cr_len2 cp_len rfl T.z_len (by decide +kernel) (A_cons (E_var (pv 7)) A_nil)) E_int) (pw_and1 (T_cmp (or_eq hr.units) op_dEq (nomark _) (E_index (E_var (pv 7)) E_int (fun _ _ => rfl)) E_str)))))) (fun _ _ _ _ _ => (E_index (E_var (pv 7)) E_int (fun _ _ => rfl))))
    (S_cons (S_if (T_cmp (or_ne hr.units) op_dNe (nomark _) (E_add4 (E_cb cr_len2 cp_len rfl T.z_len (by decide +kernel) (A_cons (E_var (pv 4)) A_nil)) (E_cb cr_len2 cp_len rfl T.z_len (by decide +kernel) (A_cons (E_var (pv 5)) A_nil))) (E_cb cr_len2 cp_len rfl T.z_len (by decide +kernel) (A_cons (E_var (pv 3)) A_nil))) (S_one (S_ret E_non)) S_nil)
    (S_cons (S_set (i := 6) sc_rule_by.nd rfl (Or.inl rfl) E_non)
    (S_cons (S_try T.tc_BadRule rfl rfl ⟨rfl, by decide, .inl T.x_BadRule⟩ (takes_of rfl rfl rfl rfl) (fun _ _ _ tk1 => (S_one (S_set (i := 6) sc_rule_by.nd rfl (Or.inl rfl) (E_fz (F_mk (gD := (fun ds es => (ds ++ ((es[0]?).toList ++ [])))) T.M_Rule (ok_Rule___init__ T) (hr.mono (by decide)) rfl T.C_Rule.at_ T.kb8_0 tk1 (fun G ad vs ds zs es h1 h2 => Reps.app h1 (.app (reps_at h2 0) .nil)) (A_cons (E_if (T_cmp (or_eq hr.units) op_dEq (nomark _) (E_var (pv 1)) E_str) E_non (E_var (pv 1))) (A_cons (E_var (pv 4)) A_nil)) (K_cons (E_var (pv 5)) K_nil) (aLen_cons (aLen_cons aLen_nil)) (aLen_cons aLen_nil)))))) (fun _ _ _ => (S_one (S_set (i := 6) sc_rule_by.nd rfl (Or.inl rfl) E_non))))
    (S_one (S_ret (E_var (pv 6))))))))))))
theorem sc_row_of : FnScope ["text", "words"] ["text"] (defScope st_row_of) := ⟨rfl, rfl, rfl, by decide +kernel, rfl, by decide +kernel, by decide +kernel⟩
theorem ok_row_of (T : Txt K mg) : FnOk P w K mg base (L2.CX P w) 6 T.f15 T.d15 ["text"] (SpM K mg 1 m_row_of) :=
  def_ok' (k := 5) T.F15 sc_row_of fun cdv A outer s H E hr =>
    (S_cons (S_set (i := 1) sc_row_of.nd rfl (Or.inl rfl) (E_call (ok_taken_apart T) (hr.mono (by decide)) rfl T.g12 T.F12.kp T.b12 (takes_of rfl rfl rfl rfl) (A_cons (E_var (pv 0)) A_nil)))
    (S_one (S_ret (E_if (T_cmp op_isN of_isN (nomark _) (E_var (pv 1)) E_non) E_non (E_call (ok_rule_by T) (hr.mono (by decide)) rfl T.g14 T.F14.kp T.b14 (takes_of rfl rfl rfl rfl) (A_cons (E_var (pv 1)) A_nil))))))
theorem sc_read_rule : FnScope ["text", "rule"] ["text"] (defScope st_read_rule) := ⟨rfl, rfl, rfl, by decide +kernel, rfl, by decide +kernel, by decide +kernel⟩
theorem ok_read_rule (T : Txt K mg) : FnOk P w K mg base (L2.CX P w) 7 T.f16 T.d16 ["text"] (SpM K mg 1 m_read_rule) :=
  def_ok' (k := 6) T.F16 sc_read_rule fun cdv A outer s H E hr =>
    (S_cons (S_set (i := 1) sc_read_rule.nd rfl (Or.inl rfl) (E_if (T_val (E_isi rfl T.z_isinstance (E_var (pv 0)) (pe_bltn (v := .ty "str") rfl T.z_str (by decide +kernel) rfl))) (E_call (ok_row_of T) (hr.mono (by decide)) rfl T.g15 T.F15.kp T.b15 (takes_of rfl rfl rfl rfl) (A_cons (E_var (pv 0)) A_nil)) E_non))
    (S_cons (S_if (T_cmp op_isN of_isN (nomark _) (E_var (pv 1)) E_non) (S_one S_never) S_nil)
    (S_one (S_ret (E_var (pv 1))))))
theorem sc_Rule_told : FnScope ["self"] ["self"] (defScope st_Rule_told) := ⟨rfl, rfl, rfl, by decide +kernel, rfl, by decide +kernel, by decide +kernel⟩
theorem ok_Rule_told (T : Txt K mg) : FnOk P w K mg base (L2.CX P w) 1 T.f17 T.d17 ["self"] (SpM K mg 1 m_Rule_told) :=
  def_ok' (k := 0) T.F17 sc_Rule_told fun cdv A outer s H E hr =>
    (S_one (S_ret (E_tup (A_cons E_str (A_cons (E_fld T.fl_head (E_var (pv 0))) (A_cons (E_fld T.fl_body (E_var (pv 0))) (A_cons (E_fld T.fl_unless (E_var (pv 0))) A_nil)))))))
theorem sc_Rule___eq__ : FnScope ["self", "other"] ["self", "other"] (defScope st_Rule___eq__) := ⟨rfl, rfl, rfl, by decide +kernel, rfl, by decide +kernel, by decide +kernel⟩
theorem ok_Rule___eq__ (T : Txt K mg) : FnOk P w K mg base (L2.CX P w) 2 T.f18 T.d18 ["self", "other"] (SpM K mg 2 m_Rule___eq__) :=
  def_ok' (k := 1) T.F18 sc_Rule___eq__ fun cdv A outer s H E hr =>
    (S_one (S_ret (E_and (E_isC T.is_Rule rfl T.z_isinstance (E_var (pv 1)) (pe_glob rfl T.C_Rule.at_ rfl (by decide))) (pe_one (E_cmp (or_eq hr.units) op_dEq (nomark _) (E_meth0 T.C_Rule T.m_Rule_told (ok_Rule_told T) (hr.mono (by decide)) T.b17 (takes_of rfl rfl rfl rfl) (E_var (pv 0))) (E_meth0 T.C_Rule T.m_Rule_told (ok_Rule_told T) (hr.mono (by decide)) T.b17 (takes_of rfl rfl rfl rfl) (E_var (pv 1))))))))
theorem sc_law : FnScope ["script", "draw", "turn", "parts", "rule", "found", "again"] ["script"] (defScope st_law) := ⟨rfl, rfl, rfl, by decide +kernel, rfl, by decide +kernel, by decide +kernel⟩
theorem ok_law (T : Txt K mg) : FnOk P w K mg base (L2.CX P w) 8 T.f19 T.d19 ["script"] (SpM K mg 1 m_law) :=
  def_ok' (k := 7) T.F19 sc_law fun cdv A outer s H E hr =>
    (S_cons (S_set (i := 1) sc_law.nd rfl (Or.inl rfl) (E_call (ok__law_begin T) (hr.mono (by decide)) rfl T.g0 T.F0.kp T.b0 (takes_of rfl rfl rfl rfl) (A_cons (E_var (pv 0)) A_nil)))
    (S_cons (S_for (passes_of rfl) rfl (I_rng1 rfl T.z_range E_int) (pg_name (i := 2) sc_law.nd rfl (Or.inl rfl)) (tg_name (i := 2)) (S_cons (S_set (i := 3) sc_law.nd rfl (Or.inl rfl) (E_call (ok__law_parts T) (hr.mono (by decide)) rfl T.g2 T.F2.kp T.b2 (takes_of rfl rfl rfl rfl) (A_cons (E_var (pv 1)) (A_cons (E_call (ok__law_words T) (hr.mono (by decide)) rfl T.g5 T.F5.kp T.b5 (takes_of rfl rfl rfl rfl) (A_cons (E_var (pv 1)) (A_cons E_int A_nil))) A_nil))))
    (S_cons (S_set (i := 4) sc_law.nd rfl (Or.inl rfl) (E_fz (F_mk (gD := (fun ds es => (ds ++ ((es[0]?).toList ++ [])))) T.M_Rule (ok_Rule___init__ T) (hr.mono (by decide)) rfl T.C_Rule.at_ T.kb8_0 (takes_of rfl rfl rfl rfl) (fun G ad vs ds zs es h1 h2 => Reps.app h1 (.app (reps_at h2 0) .nil)) (A_cons (E_index (E_var (pv 3)) E_int (fun _ _ => rfl)) (A_cons (E_fz (F_ct cr_list cpf_list rfl T.z_list (by decide +kernel) (A_cons (E_index (E_var (pv 3)) E_int (fun _ _ => rfl)) A_nil))) A_nil)) (K_cons (E_fz (F_ct cr_list cpf_list rfl T.z_list (by decide +kernel) (A_cons (E_index (E_var (pv 3)) E_int (fun _ _ => rfl)) A_nil))) K_nil) (aLen_cons (aLen_cons aLen_nil)) (aLen_cons aLen_nil))))
    (S_cons (S_set (i := 5) sc_law.nd rfl (Or.inl rfl) (E_fz (F_lst (A_cons (E_meth0 T.C_Rule T.m_Rule_text (ok_Rule_text T) (hr.mono (by decide)) T.b9 (takes_of rfl rfl rfl rfl) (E_var (pv 4))) (A_cons (E_strO T.C_Rule T.s_Rule___str__ T.i_10 (ok_Rule___str__ T) T.b10 (hr.mono (by decide)) rfl T.z_str (E_var (pv 4))) A_nil)))))
    (S_cons (S_if (T_cmp (or_ne hr.units) op_dNe (nomark _) (E_var (pv 5)) (E_fz (F_rep (F_lst (A_cons (E_call (ok__law_text T) (hr.mono (by decide)) rfl T.g11 T.F11.kp T.b11 (takes_of rfl rfl rfl rfl) (A_cons (E_var (pv 3)) A_nil)) A_nil)) E_int))) (S_one (S_ret E_bl)) S_nil)
    (S_cons (S_set (i := 6) sc_law.nd rfl (Or.inl rfl) (E_call (ok_read_rule T) (hr.mono (by decide)) rfl T.g16 T.F16.kp T.b16 (takes_of rfl rfl rfl rfl) (A_cons (E_index (E_var (pv 5)) E_int (fun _ _ => rfl)) A_nil)))
    (S_one (S_if (PW.pt (W_or (T_not (T_val (E_isC T.is_Rule rfl T.z_isinstance (E_var (pv 6)) (pe_glob rfl T.C_Rule.at_ rfl (by decide))))) (W_or (T_not (T_eqO T.C_Rule T.s_Rule___eq__ T.i_18 (ok_Rule___eq__ T) T.b18 (hr.mono (by decide)) (E_var (pv 6)) (E_var (pv 4)))) (pw_or1 (T_cmp (or_ne hr.units) op_dNe (nomark _) (E_meth0 T.C_Rule T.m_Rule_told (ok_Rule_told T) (hr.mono (by decide)) T.b17 (takes_of rfl rfl rfl rfl) (E_var (pv 6))) (E_add4 (E_tup (A_cons E_str A_nil)) (E_var (pv 3)))))))) (S_one (S_ret E_bl)) S_nil))))))))
    (S_one (S_ret (E_cmp (or_eq hr.units) op_dEq (nomark _) (E_fz (F_lst (A_cons (E_strO T.C_Rule T.s_Rule___str__ T.i_10 (ok_Rule___str__ T) T.b10 (hr.mono (by decide)) rfl T.z_str (E_fz (F_mk (gD := (fun ds es => (ds ++ ((([.tup []] : List D)[0]?).toList ++ ((([.tup []] : List D)[0]?).toList ++ []))))) T.M_Rule (ok_Rule___init__ T) (hr.mono (by decide)) rfl T.C_Rule.at_ T.kb8_1 (takes_of rfl rfl rfl rfl) (fun G ad vs ds zs es h1 h2 => Reps.app h1 (.app (reps_at (.cons (T.p8_0 G ad) .nil) 0) (.app (reps_at (.cons (T.p8_unless G ad) .nil) 0) .nil))) (A_cons E_non A_nil) K_nil (aLen_cons aLen_nil) aLen_nil))) (A_cons (E_strO T.C_Rule T.s_Rule___str__ T.i_10 (ok_Rule___str__ T) T.b10 (hr.mono (by decide)) rfl T.z_str (E_fz (F_mk (gD := (fun ds es => (ds ++ ((([.tup []] : List D)[0]?).toList ++ ((([.tup []] : List D)[0]?).toList ++ []))))) T.M_Rule (ok_Rule___init__ T) (hr.mono (by decide)) rfl T.C_Rule.at_ T.kb8_1 (takes_of rfl rfl rfl rfl) (fun G ad vs ds zs es h1 h2 => Reps.app h1 (.app (reps_at (.cons (T.p8_0 G ad) .nil) 0) (.app (reps_at (.cons (T.p8_unless G ad) .nil) 0) .nil))) (A_cons E_str A_nil) K_nil (aLen_cons aLen_nil) aLen_nil))) A_nil)))) (E_fz (F_lst (A_cons E_str (A_cons E_str A_nil)))))))))
end
theorem all_mk {l : PySem.W.OpenLaw} {w : World} {K : Fg} {mg : Mg} {h : Heap} {fa : Addr} {A_Rule : Addr} {Ax_BadRule : Addr} {f0 : Addr} {oc0 kV0 dc0 pm0 cd0 ct0 : Value} {od0 an0 : Option Addr} {sl0 : Array (Option Value)} {f1 : Addr} {oc1 kV1 dc1 pm1 cd1 ct1 : Value} {od1 an1 : Option Addr} {sl1 : Array (Option Value)} {f2 : Addr} {oc2 kV2 dc2 pm2 cd2 ct2 : Value} {od2 an2 : Option Addr} {sl2 : Array (Option Value)} {f3 : Addr} {oc3 kV3 dc3 pm3 cd3 ct3 : Value} {od3 an3 : Option Addr} {sl3 : Array (Option Value)} {f4 : Addr} {oc4 kV4 dc4 pm4 cd4 ct4 : Value} {od4 an4 : Option Addr} {sl4 : Array (Option Value)} {f5 : Addr} {oc5 kV5 dc5 pm5 cd5 ct5 : Value} {od5 an5 : Option Addr} {sl5 : Array (Option Value)} {f6 : Addr} {oc6 kV6 dc6 pm6 cd6 ct6 : Value} {od6 an6 : Option Addr} {sl6 : Array (Option Value)} {f7 : Addr} {oc7 kV7 dc7 pm7 cd7 ct7 : Value} {od7 an7 : Option Addr} {sl7 : Array (Option Value)} {Td7 : Addr} {oT7 : Option Addr} {nT7 : Nat} {sT7 : Array (Option Value)} {tk7_0 : Tok} {f8 : Addr} {oc8 dc8 pm8 cd8 ct8 : Value} {od8 an8 : Option Addr} {sl8 : Array (Option Value)} {Td8 : Addr} {oT8 : Option Addr} {nT8 : Nat} {sT8 : Array (Option Value)} {E8_0 : Addr} {oE8_0 : Option Addr} {nE8_0 : Nat} {sE8_0 : Array (Option Value)} {Dk8 : Addr} {E8_unless : Addr} {oE8_unless : Option Addr} {nE8_unless : Nat} {sE8_unless : Array (Option Value)} {f9 : Addr} {oc9 kV9 dc9 pm9 cd9 ct9 : Value} {od9 an9 : Option Addr} {sl9 : Array (Option Value)} {f10 : Addr} {oc10 kV10 dc10 pm10 cd10 ct10 : Value} {od10 an10 : Option Addr} {sl10 : Array (Option Value)} {f11 : Addr} {oc11 kV11 dc11 pm11 cd11 ct11 : Value} {od11 an11 : Option Addr} {sl11 : Array (Option Value)} {f12 : Addr} {oc12 kV12 dc12 pm12 cd12 ct12 : Value} {od12 an12 : Option Addr} {sl12 : Array (Option Value)} {f13 : Addr} {oc13 kV13 dc13 pm13 cd13 ct13 : Value} {od13 an13 : Option Addr} {sl13 : Array (Option Value)} {f14 : Addr} {oc14 kV14 dc14 pm14 cd14 ct14 : Value} {od14 an14 : Option Addr} {sl14 : Array (Option Value)} {f15 : Addr} {oc15 kV15 dc15 pm15 cd15 ct15 : Value} {od15 an15 : Option Addr} {sl15 : Array (Option Value)} {f16 : Addr} {oc16 kV16 dc16 pm16 cd16 ct16 : Value} {od16 an16 : Option Addr} {sl16 : Array (Option Value)} {f17 : Addr} {oc17 kV17 dc17 pm17 cd17 ct17 : Value} {od17 an17 : Option Addr} {sl17 : Array (Option Value)} {f18 : Addr} {oc18 kV18 dc18 pm18 cd18 ct18 : Value} {od18 an18 : Option Addr} {sl18 : Array (Option Value)} {f19 : Addr} {oc19 kV19 dc19 pm19 cd19 ct19 : Value} {od19 an19 : Option Addr} {sl19 : Array (Option Value)} {t_LONGEST : Tok} {q_KEPT : Addr} {n_KEPT : Nat} {o_KEPT : Array (Option Value)} {e_KEPT : Option Addr} {t0_KEPT : Tok} {t1_KEPT : Tok} {t2_KEPT : Tok} {t_MOST_BODY : Tok} {t_MOST_UNLESS : Tok} {t_LETTERS : Tok} (X : K.In h) (G : h.Ns mainGlobals mg) (hfa : mg "law" = some (.ref fa))
    (a_Rule : PySem.W.nsIn K mainGlobals "Rule" = some (some (.ref A_Rule)))
    (pg_Rule : PySem.W.plainGet K A_Rule Str.empty = true)
    (hd_Rule : PySem.W.hasDictIn K A_Rule = true)
    (po_Rule : PySem.W.plainOver K A_Rule = true)
    (sa_Rule : PySem.W.findIn K (.ref A_Rule) "__setattr__" = some (some (.builtin "object.__setattr__")))
    (nf_Rule_head : PySem.W.findIn K (.ref A_Rule) "head" = some none)
    (nf_Rule_body : PySem.W.findIn K (.ref A_Rule) "body" = some none)
    (nf_Rule_unless : PySem.W.findIn K (.ref A_Rule) "unless" = some none)
    (su_Rule_NoneType : PySem.W.subIn K (.type "NoneType") (.ref A_Rule) = some false)
    (su_Rule_bool : PySem.W.subIn K (.type "bool") (.ref A_Rule) = some false)
    (su_Rule_int : PySem.W.subIn K (.type "int") (.ref A_Rule) = some false)
    (su_Rule_str : PySem.W.subIn K (.type "str") (.ref A_Rule) = some false)
    (su_Rule_list : PySem.W.subIn K (.type "list") (.ref A_Rule) = some false)
    (su_Rule_tuple : PySem.W.subIn K (.type "tuple") (.ref A_Rule) = some false)
    (su_Rule_dict : PySem.W.subIn K (.type "dict") (.ref A_Rule) = some false)
    (ik_Rule : PySem.W.isClsIn K A_Rule = true)
    (it_Rule : PySem.W.typeIn K (.ref A_Rule) = some (.type "type"))
    (ic_Rule : PySem.W.findIn K (.ref A_Rule) "__class__" = some (some (.builtin "object.__class__")))
    (im_Rule : PySem.W.mroIn K A_Rule (.type "object") = some true)
    (ocn : PySem.W.specialIn K (.builtin "object.__class__") "__get__" = some (some (.builtin "getset_descriptor.__get__")))
    (oct : PySem.W.takesIn K (.builtin "object.__class__") = some true)
    (x_BadRule : PySem.W.nsIn K mainGlobals "BadRule" = some (some (.ref Ax_BadRule)))
    (a0 : PySem.W.nsIn K mainGlobals "_law_begin" = some (some (.ref f0)))
    (l0 : K.lookup f0 = some ⟨oc0, od0, .func (PySem.W.fnOf "_law_begin" "_law_begin" (defArgs st__law_begin) (defBody st__law_begin) (defScope st__law_begin) .none kV0 dc0 pm0 an0 cd0 ct0), sl0⟩)
    (c0 : PySem.W.codeIn K cd0 "_law_begin" = true)
    (k0 : PySem.W.keepIn K (.ref f0) = true)
    (a1 : PySem.W.nsIn K mainGlobals "_law_take" = some (some (.ref f1)))
    (l1 : K.lookup f1 = some ⟨oc1, od1, .func (PySem.W.fnOf "_law_take" "_law_take" (defArgs st__law_take) (defBody st__law_take) (defScope st__law_take) .none kV1 dc1 pm1 an1 cd1 ct1), sl1⟩)
    (c1 : PySem.W.codeIn K cd1 "_law_take" = true)
    (k1 : PySem.W.keepIn K (.ref f1) = true)
    (a2 : PySem.W.nsIn K mainGlobals "_law_parts" = some (some (.ref f2)))
    (l2 : K.lookup f2 = some ⟨oc2, od2, .func (PySem.W.fnOf "_law_parts" "_law_parts" (defArgs st__law_parts) (defBody st__law_parts) (defScope st__law_parts) .none kV2 dc2 pm2 an2 cd2 ct2), sl2⟩)
    (c2 : PySem.W.codeIn K cd2 "_law_parts" = true)
    (k2 : PySem.W.keepIn K (.ref f2) = true)
    (a3 : PySem.W.nsIn K mainGlobals "_law_pick" = some (some (.ref f3)))
    (l3 : K.lookup f3 = some ⟨oc3, od3, .func (PySem.W.fnOf "_law_pick" "_law_pick" (defArgs st__law_pick) (defBody st__law_pick) (defScope st__law_pick) .none kV3 dc3 pm3 an3 cd3 ct3), sl3⟩)
    (c3 : PySem.W.codeIn K cd3 "_law_pick" = true)
    (k3 : PySem.W.keepIn K (.ref f3) = true)
    (a4 : PySem.W.nsIn K mainGlobals "_law_word" = some (some (.ref f4)))
    (l4 : K.lookup f4 = some ⟨oc4, od4, .func (PySem.W.fnOf "_law_word" "_law_word" (defArgs st__law_word) (defBody st__law_word) (defScope st__law_word) .none kV4 dc4 pm4 an4 cd4 ct4), sl4⟩)
    (c4 : PySem.W.codeIn K cd4 "_law_word" = true)
    (k4 : PySem.W.keepIn K (.ref f4) = true)
    (a5 : PySem.W.nsIn K mainGlobals "_law_words" = some (some (.ref f5)))
    (l5 : K.lookup f5 = some ⟨oc5, od5, .func (PySem.W.fnOf "_law_words" "_law_words" (defArgs st__law_words) (defBody st__law_words) (defScope st__law_words) .none kV5 dc5 pm5 an5 cd5 ct5), sl5⟩)
    (c5 : PySem.W.codeIn K cd5 "_law_words" = true)
    (k5 : PySem.W.keepIn K (.ref f5) = true)
    (a6 : PySem.W.nsIn K mainGlobals "is_name" = some (some (.ref f6)))
    (l6 : K.lookup f6 = some ⟨oc6, od6, .func (PySem.W.fnOf "is_name" "is_name" (defArgs st_is_name) (defBody st_is_name) (defScope st_is_name) .none kV6 dc6 pm6 an6 cd6 ct6), sl6⟩)
    (c6 : PySem.W.codeIn K cd6 "is_name" = true)
    (k6 : PySem.W.keepIn K (.ref f6) = true)
    (a7 : PySem.W.nsIn K mainGlobals "are_names" = some (some (.ref f7)))
    (l7 : K.lookup f7 = some ⟨oc7, od7, .func (PySem.W.fnOf "are_names" "are_names" (defArgs st_are_names) (defBody st_are_names) (defScope st_are_names) (.ref Td7) kV7 dc7 pm7 an7 cd7 ct7), sl7⟩)
    (c7 : PySem.W.codeIn K cd7 "are_names" = true)
    (k7 : PySem.W.keepIn K (.ref f7) = true)
    (lt7 : K.lookup Td7 = some ⟨.type "tuple", oT7, .seq #[.int 24 tk7_0] nT7, sT7⟩)
    (a8 : PySem.W.findIn K (.ref A_Rule) "__init__" = some (some (.ref f8)))
    (i8 : PySem.W.isFn K (.ref f8) = true)
    (l8 : K.lookup f8 = some ⟨oc8, od8, .func (PySem.W.fnOf "__init__" "Rule.__init__" (defArgs st_Rule___init__) (defBody st_Rule___init__) (defScope st_Rule___init__) (.ref Td8) (.ref Dk8) dc8 pm8 an8 cd8 ct8), sl8⟩)
    (c8 : PySem.W.codeIn K cd8 "Rule.__init__" = true)
    (k8 : PySem.W.keepIn K (.ref f8) = true)
    (lt8 : K.lookup Td8 = some ⟨.type "tuple", oT8, .seq #[.ref E8_0] nT8, sT8⟩)
    (lk8_unless : PySem.W.nsIn K Dk8 "unless" = some (some (.ref E8_unless)))
    (e8_0 : K.lookup E8_0 = some ⟨.type "tuple", oE8_0, .seq #[] nE8_0, sE8_0⟩)
    (e8_unless : K.lookup E8_unless = some ⟨.type "tuple", oE8_unless, .seq #[] nE8_unless, sE8_unless⟩)
    (mk_Rule : PySem.W.makesIn K A_Rule = true)
    (kc_Rule : PySem.W.keepIn K (.ref A_Rule) = true)
    (a9 : PySem.W.findIn K (.ref A_Rule) "text" = some (some (.ref f9)))
    (i9 : PySem.W.isFn K (.ref f9) = true)
    (l9 : K.lookup f9 = some ⟨oc9, od9, .func (PySem.W.fnOf "text" "Rule.text" (defArgs st_Rule_text) (defBody st_Rule_text) (defScope st_Rule_text) .none kV9 dc9 pm9 an9 cd9 ct9), sl9⟩)
    (c9 : PySem.W.codeIn K cd9 "Rule.text" = true)
    (k9 : PySem.W.keepIn K (.ref f9) = true)
    (a10 : PySem.W.findIn K (.ref A_Rule) "__str__" = some (some (.ref f10)))
    (i10 : PySem.W.isFn K (.ref f10) = true)
    (l10 : K.lookup f10 = some ⟨oc10, od10, .func (PySem.W.fnOf "__str__" "Rule.__str__" (defArgs st_Rule___str__) (defBody st_Rule___str__) (defScope st_Rule___str__) .none kV10 dc10 pm10 an10 cd10 ct10), sl10⟩)
    (c10 : PySem.W.codeIn K cd10 "Rule.__str__" = true)
    (k10 : PySem.W.keepIn K (.ref f10) = true)
    (a11 : PySem.W.nsIn K mainGlobals "_law_text" = some (some (.ref f11)))
    (l11 : K.lookup f11 = some ⟨oc11, od11, .func (PySem.W.fnOf "_law_text" "_law_text" (defArgs st__law_text) (defBody st__law_text) (defScope st__law_text) .none kV11 dc11 pm11 an11 cd11 ct11), sl11⟩)
    (c11 : PySem.W.codeIn K cd11 "_law_text" = true)
    (k11 : PySem.W.keepIn K (.ref f11) = true)
    (a12 : PySem.W.nsIn K mainGlobals "taken_apart" = some (some (.ref f12)))
    (l12 : K.lookup f12 = some ⟨oc12, od12, .func (PySem.W.fnOf "taken_apart" "taken_apart" (defArgs st_taken_apart) (defBody st_taken_apart) (defScope st_taken_apart) .none kV12 dc12 pm12 an12 cd12 ct12), sl12⟩)
    (c12 : PySem.W.codeIn K cd12 "taken_apart" = true)
    (k12 : PySem.W.keepIn K (.ref f12) = true)
    (a13 : PySem.W.nsIn K mainGlobals "listed" = some (some (.ref f13)))
    (l13 : K.lookup f13 = some ⟨oc13, od13, .func (PySem.W.fnOf "listed" "listed" (defArgs st_listed) (defBody st_listed) (defScope st_listed) .none kV13 dc13 pm13 an13 cd13 ct13), sl13⟩)
    (c13 : PySem.W.codeIn K cd13 "listed" = true)
    (k13 : PySem.W.keepIn K (.ref f13) = true)
    (a14 : PySem.W.nsIn K mainGlobals "rule_by" = some (some (.ref f14)))
    (l14 : K.lookup f14 = some ⟨oc14, od14, .func (PySem.W.fnOf "rule_by" "rule_by" (defArgs st_rule_by) (defBody st_rule_by) (defScope st_rule_by) .none kV14 dc14 pm14 an14 cd14 ct14), sl14⟩)
    (c14 : PySem.W.codeIn K cd14 "rule_by" = true)
    (k14 : PySem.W.keepIn K (.ref f14) = true)
    (a15 : PySem.W.nsIn K mainGlobals "row_of" = some (some (.ref f15)))
    (l15 : K.lookup f15 = some ⟨oc15, od15, .func (PySem.W.fnOf "row_of" "row_of" (defArgs st_row_of) (defBody st_row_of) (defScope st_row_of) .none kV15 dc15 pm15 an15 cd15 ct15), sl15⟩)
    (c15 : PySem.W.codeIn K cd15 "row_of" = true)
    (k15 : PySem.W.keepIn K (.ref f15) = true)
    (a16 : PySem.W.nsIn K mainGlobals "read_rule" = some (some (.ref f16)))
    (l16 : K.lookup f16 = some ⟨oc16, od16, .func (PySem.W.fnOf "read_rule" "read_rule" (defArgs st_read_rule) (defBody st_read_rule) (defScope st_read_rule) .none kV16 dc16 pm16 an16 cd16 ct16), sl16⟩)
    (c16 : PySem.W.codeIn K cd16 "read_rule" = true)
    (k16 : PySem.W.keepIn K (.ref f16) = true)
    (a17 : PySem.W.findIn K (.ref A_Rule) "told" = some (some (.ref f17)))
    (i17 : PySem.W.isFn K (.ref f17) = true)
    (l17 : K.lookup f17 = some ⟨oc17, od17, .func (PySem.W.fnOf "told" "Rule.told" (defArgs st_Rule_told) (defBody st_Rule_told) (defScope st_Rule_told) .none kV17 dc17 pm17 an17 cd17 ct17), sl17⟩)
    (c17 : PySem.W.codeIn K cd17 "Rule.told" = true)
    (k17 : PySem.W.keepIn K (.ref f17) = true)
    (a18 : PySem.W.findIn K (.ref A_Rule) "__eq__" = some (some (.ref f18)))
    (i18 : PySem.W.isFn K (.ref f18) = true)
    (l18 : K.lookup f18 = some ⟨oc18, od18, .func (PySem.W.fnOf "__eq__" "Rule.__eq__" (defArgs st_Rule___eq__) (defBody st_Rule___eq__) (defScope st_Rule___eq__) .none kV18 dc18 pm18 an18 cd18 ct18), sl18⟩)
    (c18 : PySem.W.codeIn K cd18 "Rule.__eq__" = true)
    (k18 : PySem.W.keepIn K (.ref f18) = true)
    (a19 : PySem.W.nsIn K mainGlobals "law" = some (some (.ref f19)))
    (l19 : K.lookup f19 = some ⟨oc19, od19, .func (PySem.W.fnOf "law" "law" (defArgs st_law) (defBody st_law) (defScope st_law) .none kV19 dc19 pm19 an19 cd19 ct19), sl19⟩)
    (c19 : PySem.W.codeIn K cd19 "law" = true)
    (k19 : PySem.W.keepIn K (.ref f19) = true)
    (z_abs : PySem.W.nsIn K mainGlobals "abs" = some none)
    (z_range : PySem.W.nsIn K mainGlobals "range" = some none)
    (z_len : PySem.W.nsIn K mainGlobals "len" = some none)
    (z_tuple : PySem.W.nsIn K mainGlobals "tuple" = some none)
    (z_isinstance : PySem.W.nsIn K mainGlobals "isinstance" = some none)
    (z_str : PySem.W.nsIn K mainGlobals "str" = some none)
    (z_all : PySem.W.nsIn K mainGlobals "all" = some none)
    (z_list : PySem.W.nsIn K mainGlobals "list" = some none)
    (z_set : PySem.W.nsIn K mainGlobals "set" = some none)
    (g_LONGEST : PySem.W.nsIn K mainGlobals "LONGEST" = some (some (.int 8 t_LONGEST)))
    (g_KEPT : PySem.W.nsIn K mainGlobals "KEPT" = some (some (.ref q_KEPT)))
    (q_KEPTl : K.lookup q_KEPT = some ⟨.type "tuple", e_KEPT, .seq #[.str "not" t0_KEPT, .str "never" t1_KEPT, .str "may" t2_KEPT] n_KEPT, o_KEPT⟩)
    (g_MOST_BODY : PySem.W.nsIn K mainGlobals "MOST_BODY" = some (some (.int 6 t_MOST_BODY)))
    (g_MOST_UNLESS : PySem.W.nsIn K mainGlobals "MOST_UNLESS" = some (some (.int 4 t_MOST_UNLESS)))
    (g_LETTERS : PySem.W.nsIn K mainGlobals "LETTERS" = some (some (.str "abcdefghijklmnopqrstuvwxyz" t_LETTERS)))
    : ∃ fd : FuncData, (∀ (s : Shared) (u : Value), BindsTo s fd ⟨[u], []⟩ [("script", u)]) ∧ ∀ base : Heap, K.In base → base.Ns mainGlobals mg → FnOk l.prog w K mg base (L2.CX l.prog w) 8 fa fd ["script"] (SpM K mg 1 m_law) := by
  have e : fa = f19 := by
    have e := hfa.symm.trans (PySem.W.mg_of X G a19)
    cases e
    rfl
  rw [e]
  have F7 := fund_mk (st := st_are_names) (dvs := ([.int 24] : List V)) (kws := ([] : List (Str × V))) l7 c7 k7 (.inr ⟨by simp, Td7, _, [.int 24 tk7_0], nT7, rfl, lt7, rfl, (.cons ⟨_, rfl⟩ .nil)⟩) (.inl rfl)
  have F8 := fund_mk (st := st_Rule___init__) (dvs := ([.ref E8_0] : List V)) (kws := ([("unless", .ref E8_unless)] : List (Str × V))) l8 c8 k8 (.inr ⟨by simp, Td8, _, [.ref E8_0], nT8, rfl, lt8, rfl, (.cons rfl .nil)⟩) (.inr ⟨Dk8, rfl, by
      simp only [List.mem_cons, List.not_mem_nil, or_false, forall_eq_or_imp, forall_eq]
      exact ⟨_, lk8_unless, rfl⟩⟩)
  obtain ⟨i8_0, K8_0⟩ := F8.kbindsD (ps := ["self", "head", "body", "unless"]) 3 ["unless"] (fun us its ws => (us ++ ((ws[0]?).toList ++ []))) (by simp) (fun h1 h2 h3 => (L2.Vals.append h1 (.append (vals_at h3 0) .nil))) (fun T kV doc pm an cdv ct us its ws h1 h2 h3 => match us, its, ws, h1, h2, h3 with | [_, _, _], [_], [_], _, _, _ => ⟨_, rfl, rfl⟩)
  obtain ⟨i8_1, m8_1, K8_1⟩ := F8.kbinds (ps := ["self", "head", "body", "unless"]) 2 [] ([("unless", .ref E8_unless)] : List (Str × V)) (fun us its mv ws => (us ++ ((its[0]?).toList ++ ((mv[0]?).toList ++ [])))) (by simp) (by simp) (by simp) (fun h1 h2 h3 h4 => (L2.Vals.append h1 (.append (vals_at h2 0) (.append (vals_at h3 0) .nil)))) (fun T D doc pm an cdv ct us its mv ws h1 h2 h3 h4 => match us, its, mv, ws, h1, h2, h3, h4 with | [_, _], [_], [_], [], _, _, _, _ => ⟨_, rfl, ⟨_, _, _, _, _, _, rfl, rfl, (show _ = pure _ from rfl)⟩⟩)
  obtain ⟨T, e1, e2⟩ : ∃ T : Txt K mg, T.f19 = f19 ∧ T.d19 = (PySem.W.fnOf "law" "law" (defArgs st_law) (defBody st_law) (defScope st_law) .none kV19 dc19 pm19 an19 cd19 ct19) := ⟨{
    A_Rule := A_Rule,
    C_Rule := ⟨PySem.W.mg_of X G a_Rule, ⟨pg_Rule, hd_Rule, po_Rule, sa_Rule⟩⟩,
    fl_head := by
      intro c hc
      simp only [List.mem_cons, List.not_mem_nil, or_false] at hc
      rcases hc with rfl
      · exact ⟨fun C hC => by
          rw [PySem.W.mg_of X G a_Rule] at hC
          cases hC
          exact ⟨⟨pg_Rule, hd_Rule, po_Rule, sa_Rule⟩, nf_Rule_head⟩⟩,
    fl_body := by
      intro c hc
      simp only [List.mem_cons, List.not_mem_nil, or_false] at hc
      rcases hc with rfl
      · exact ⟨fun C hC => by
          rw [PySem.W.mg_of X G a_Rule] at hC
          cases hC
          exact ⟨⟨pg_Rule, hd_Rule, po_Rule, sa_Rule⟩, nf_Rule_body⟩⟩,
    fl_unless := by
      intro c hc
      simp only [List.mem_cons, List.not_mem_nil, or_false] at hc
      rcases hc with rfl
      · exact ⟨fun C hC => by
          rw [PySem.W.mg_of X G a_Rule] at hC
          cases hC
          exact ⟨⟨pg_Rule, hd_Rule, po_Rule, sa_Rule⟩, nf_Rule_unless⟩⟩,
    is_Rule := ⟨fun n b h => tab_all (P := fun n b => PySem.W.kitOne K (.type n) (.ref A_Rule) = some b) (by
        simp only [List.mem_cons, List.not_mem_nil, or_false, forall_eq_or_imp, forall_eq]
        exact ⟨kit_sub ik_Rule it_Rule rfl su_Rule_NoneType, kit_sub ik_Rule it_Rule rfl su_Rule_bool, kit_sub ik_Rule it_Rule rfl su_Rule_int, kit_sub ik_Rule it_Rule rfl su_Rule_str, kit_sub ik_Rule it_Rule rfl su_Rule_list, kit_sub ik_Rule it_Rule rfl su_Rule_tuple, kit_sub ik_Rule it_Rule rfl su_Rule_dict⟩) n b h, fun x b h => tab_all (P := fun x b => ∃ C, mg x = some (.ref C) ∧ ClsTy K C ∧ PySem.W.kitOne K (.ref C) (.ref A_Rule) = some b) (by
        simp only [List.mem_cons, List.not_mem_nil, or_false, forall_eq]
        exact ⟨A_Rule, PySem.W.mg_of X G a_Rule, ⟨⟨pg_Rule, hd_Rule, po_Rule, sa_Rule⟩, ic_Rule, ocn, oct, im_Rule⟩, kit_self⟩) x b h⟩,
    Ax_BadRule := Ax_BadRule,
    x_BadRule := PySem.W.mg_of X G x_BadRule,
    tc_BadRule := ⟨fun _ _ _ h => nomatch h⟩,
    f0 := f0,
    d0 := (PySem.W.fnOf "_law_begin" "_law_begin" (defArgs st__law_begin) (defBody st__law_begin) (defScope st__law_begin) .none kV0 dc0 pm0 an0 cd0 ct0),
    F0 := fun_mk (st := st__law_begin) l0 c0 k0,
    b0 := (fun_mk (st := st__law_begin) l0 c0 k0).binds (ps := ["script"]) fun _ _ _ _ _ _ us hl => match us, hl with | [_], _ => rfl,
    g0 := PySem.W.mg_of X G a0,
    f1 := f1,
    d1 := (PySem.W.fnOf "_law_take" "_law_take" (defArgs st__law_take) (defBody st__law_take) (defScope st__law_take) .none kV1 dc1 pm1 an1 cd1 ct1),
    F1 := fun_mk (st := st__law_take) l1 c1 k1,
    b1 := (fun_mk (st := st__law_take) l1 c1 k1).binds (ps := ["draw", "size"]) fun _ _ _ _ _ _ us hl => match us, hl with | [_, _], _ => rfl,
    g1 := PySem.W.mg_of X G a1,
    f2 := f2,
    d2 := (PySem.W.fnOf "_law_parts" "_law_parts" (defArgs st__law_parts) (defBody st__law_parts) (defScope st__law_parts) .none kV2 dc2 pm2 an2 cd2 ct2),
    F2 := fun_mk (st := st__law_parts) l2 c2 k2,
    b2 := (fun_mk (st := st__law_parts) l2 c2 k2).binds (ps := ["draw", "words"]) fun _ _ _ _ _ _ us hl => match us, hl with | [_, _], _ => rfl,
    g2 := PySem.W.mg_of X G a2,
    f3 := f3,
    d3 := (PySem.W.fnOf "_law_pick" "_law_pick" (defArgs st__law_pick) (defBody st__law_pick) (defScope st__law_pick) .none kV3 dc3 pm3 an3 cd3 ct3),
    F3 := fun_mk (st := st__law_pick) l3 c3 k3,
    b3 := (fun_mk (st := st__law_pick) l3 c3 k3).binds (ps := ["draw", "some"]) fun _ _ _ _ _ _ us hl => match us, hl with | [_, _], _ => rfl,
    g3 := PySem.W.mg_of X G a3,
    f4 := f4,
    d4 := (PySem.W.fnOf "_law_word" "_law_word" (defArgs st__law_word) (defBody st__law_word) (defScope st__law_word) .none kV4 dc4 pm4 an4 cd4 ct4),
    F4 := fun_mk (st := st__law_word) l4 c4 k4,
    b4 := (fun_mk (st := st__law_word) l4 c4 k4).binds (ps := ["draw"]) fun _ _ _ _ _ _ us hl => match us, hl with | [_], _ => rfl,
    g4 := PySem.W.mg_of X G a4,
    f5 := f5,
    d5 := (PySem.W.fnOf "_law_words" "_law_words" (defArgs st__law_words) (defBody st__law_words) (defScope st__law_words) .none kV5 dc5 pm5 an5 cd5 ct5),
    F5 := fun_mk (st := st__law_words) l5 c5 k5,
    b5 := (fun_mk (st := st__law_words) l5 c5 k5).binds (ps := ["draw", "many"]) fun _ _ _ _ _ _ us hl => match us, hl with | [_, _], _ => rfl,
    g5 := PySem.W.mg_of X G a5,
    f6 := f6,
    d6 := (PySem.W.fnOf "is_name" "is_name" (defArgs st_is_name) (defBody st_is_name) (defScope st_is_name) .none kV6 dc6 pm6 an6 cd6 ct6),
    F6 := fun_mk (st := st_is_name) l6 c6 k6,
    b6 := (fun_mk (st := st_is_name) l6 c6 k6).binds (ps := ["thing"]) fun _ _ _ _ _ _ us hl => match us, hl with | [_], _ => rfl,
    g6 := PySem.W.mg_of X G a6,
    f7 := f7,
    d7 := (PySem.W.fnOf "are_names" "are_names" (defArgs st_are_names) (defBody st_are_names) (defScope st_are_names) (.ref Td7) kV7 dc7 pm7 an7 cd7 ct7),
    F7 := F7,
    b7 := binds_full F7 (by simp) fun _ _ _ _ _ _ _ us its h1 h2 => match us, its, h1, h2 with | [_, _], [_], _, _ => ⟨_, rfl, rfl⟩,
    g7 := PySem.W.mg_of X G a7,
    E8_0 := E8_0,
    p8_0 := rep_unit e8_0,
    E8_unless := E8_unless,
    p8_unless := rep_unit e8_unless,
    f8 := f8,
    d8 := (PySem.W.fnOf "__init__" "Rule.__init__" (defArgs st_Rule___init__) (defBody st_Rule___init__) (defScope st_Rule___init__) (.ref Td8) (.ref Dk8) dc8 pm8 an8 cd8 ct8),
    F8 := F8,
    kg8_0 := _,
    kb8_0 := K8_0,
    kg8_1 := _,
    kb8_1 := K8_1,
    M_Rule := ⟨mk_Rule, a8, i8, kc_Rule⟩,
    f9 := f9,
    d9 := (PySem.W.fnOf "text" "Rule.text" (defArgs st_Rule_text) (defBody st_Rule_text) (defScope st_Rule_text) .none kV9 dc9 pm9 an9 cd9 ct9),
    F9 := fun_mk (st := st_Rule_text) l9 c9 k9,
    b9 := (fun_mk (st := st_Rule_text) l9 c9 k9).binds (ps := ["self"]) fun _ _ _ _ _ _ us hl => match us, hl with | [_], _ => rfl,
    m_Rule_text := ⟨a9, i9, k9⟩,
    f10 := f10,
    d10 := (PySem.W.fnOf "__str__" "Rule.__str__" (defArgs st_Rule___str__) (defBody st_Rule___str__) (defScope st_Rule___str__) .none kV10 dc10 pm10 an10 cd10 ct10),
    F10 := fun_mk (st := st_Rule___str__) l10 c10 k10,
    b10 := (fun_mk (st := st_Rule___str__) l10 c10 k10).binds (ps := ["self"]) fun _ _ _ _ _ _ us hl => match us, hl with | [_], _ => rfl,
    i_10 := i10,
    s_Rule___str__ := a10,
    f11 := f11,
    d11 := (PySem.W.fnOf "_law_text" "_law_text" (defArgs st__law_text) (defBody st__law_text) (defScope st__law_text) .none kV11 dc11 pm11 an11 cd11 ct11),
    F11 := fun_mk (st := st__law_text) l11 c11 k11,
    b11 := (fun_mk (st := st__law_text) l11 c11 k11).binds (ps := ["parts"]) fun _ _ _ _ _ _ us hl => match us, hl with | [_], _ => rfl,
    g11 := PySem.W.mg_of X G a11,
    f12 := f12,
    d12 := (PySem.W.fnOf "taken_apart" "taken_apart" (defArgs st_taken_apart) (defBody st_taken_apart) (defScope st_taken_apart) .none kV12 dc12 pm12 an12 cd12 ct12),
    F12 := fun_mk (st := st_taken_apart) l12 c12 k12,
    b12 := (fun_mk (st := st_taken_apart) l12 c12 k12).binds (ps := ["text"]) fun _ _ _ _ _ _ us hl => match us, hl with | [_], _ => rfl,
    g12 := PySem.W.mg_of X G a12,
    f13 := f13,
    d13 := (PySem.W.fnOf "listed" "listed" (defArgs st_listed) (defBody st_listed) (defScope st_listed) .none kV13 dc13 pm13 an13 cd13 ct13),
    F13 := fun_mk (st := st_listed) l13 c13 k13,
    b13 := (fun_mk (st := st_listed) l13 c13 k13).binds (ps := ["words"]) fun _ _ _ _ _ _ us hl => match us, hl with | [_], _ => rfl,
    g13 := PySem.W.mg_of X G a13,
    f14 := f14,
    d14 := (PySem.W.fnOf "rule_by" "rule_by" (defArgs st_rule_by) (defBody st_rule_by) (defScope st_rule_by) .none kV14 dc14 pm14 an14 cd14 ct14),
    F14 := fun_mk (st := st_rule_by) l14 c14 k14,
    b14 := (fun_mk (st := st_rule_by) l14 c14 k14).binds (ps := ["words"]) fun _ _ _ _ _ _ us hl => match us, hl with | [_], _ => rfl,
    g14 := PySem.W.mg_of X G a14,
    f15 := f15,
    d15 := (PySem.W.fnOf "row_of" "row_of" (defArgs st_row_of) (defBody st_row_of) (defScope st_row_of) .none kV15 dc15 pm15 an15 cd15 ct15),
    F15 := fun_mk (st := st_row_of) l15 c15 k15,
    b15 := (fun_mk (st := st_row_of) l15 c15 k15).binds (ps := ["text"]) fun _ _ _ _ _ _ us hl => match us, hl with | [_], _ => rfl,
    g15 := PySem.W.mg_of X G a15,
    f16 := f16,
    d16 := (PySem.W.fnOf "read_rule" "read_rule" (defArgs st_read_rule) (defBody st_read_rule) (defScope st_read_rule) .none kV16 dc16 pm16 an16 cd16 ct16),
    F16 := fun_mk (st := st_read_rule) l16 c16 k16,
    b16 := (fun_mk (st := st_read_rule) l16 c16 k16).binds (ps := ["text"]) fun _ _ _ _ _ _ us hl => match us, hl with | [_], _ => rfl,
    g16 := PySem.W.mg_of X G a16,
    f17 := f17,
    d17 := (PySem.W.fnOf "told" "Rule.told" (defArgs st_Rule_told) (defBody st_Rule_told) (defScope st_Rule_told) .none kV17 dc17 pm17 an17 cd17 ct17),
    F17 := fun_mk (st := st_Rule_told) l17 c17 k17,
    b17 := (fun_mk (st := st_Rule_told) l17 c17 k17).binds (ps := ["self"]) fun _ _ _ _ _ _ us hl => match us, hl with | [_], _ => rfl,
    m_Rule_told := ⟨a17, i17, k17⟩,
    f18 := f18,
    d18 := (PySem.W.fnOf "__eq__" "Rule.__eq__" (defArgs st_Rule___eq__) (defBody st_Rule___eq__) (defScope st_Rule___eq__) .none kV18 dc18 pm18 an18 cd18 ct18),
    F18 := fun_mk (st := st_Rule___eq__) l18 c18 k18,
    b18 := (fun_mk (st := st_Rule___eq__) l18 c18 k18).binds (ps := ["self", "other"]) fun _ _ _ _ _ _ us hl => match us, hl with | [_, _], _ => rfl,
    i_18 := i18,
    s_Rule___eq__ := a18,
    f19 := f19,
    d19 := (PySem.W.fnOf "law" "law" (defArgs st_law) (defBody st_law) (defScope st_law) .none kV19 dc19 pm19 an19 cd19 ct19),
    F19 := fun_mk (st := st_law) l19 c19 k19,
    b19 := (fun_mk (st := st_law) l19 c19 k19).binds (ps := ["script"]) fun _ _ _ _ _ _ us hl => match us, hl with | [_], _ => rfl,
    g19 := PySem.W.mg_of X G a19,
    z_abs := PySem.W.mg_none_of X G z_abs,
    z_range := PySem.W.mg_none_of X G z_range,
    z_len := PySem.W.mg_none_of X G z_len,
    z_tuple := PySem.W.mg_none_of X G z_tuple,
    z_isinstance := PySem.W.mg_none_of X G z_isinstance,
    z_str := PySem.W.mg_none_of X G z_str,
    z_all := PySem.W.mg_none_of X G z_all,
    z_list := PySem.W.mg_none_of X G z_list,
    z_set := PySem.W.mg_none_of X G z_set,
    v_LONGEST := .int 8,
    u_LONGEST := (.int 8 t_LONGEST),
    g_LONGEST := PySem.W.mg_of X G g_LONGEST,
    r_LONGEST := ⟨_, rfl⟩,
    p_LONGEST := fun _ _ => .int _,
    v_KEPT := .ref q_KEPT,
    u_KEPT := .ref q_KEPT,
    g_KEPT := PySem.W.mg_of X G g_KEPT,
    r_KEPT := rfl,
    p_KEPT := rep_tup (xs := [.str "not", .str "never", .str "may"]) q_KEPTl (show 3 ≤ sizeLine by decide) (.cons ⟨_, rfl⟩ (.cons ⟨_, rfl⟩ (.cons ⟨_, rfl⟩ .nil))) fun _ _ => (.cons (.str _) (.cons (.str _) (.cons (.str _) .nil))),
    v_MOST_BODY := .int 6,
    u_MOST_BODY := (.int 6 t_MOST_BODY),
    g_MOST_BODY := PySem.W.mg_of X G g_MOST_BODY,
    r_MOST_BODY := ⟨_, rfl⟩,
    p_MOST_BODY := fun _ _ => .int _,
    v_MOST_UNLESS := .int 4,
    u_MOST_UNLESS := (.int 4 t_MOST_UNLESS),
    g_MOST_UNLESS := PySem.W.mg_of X G g_MOST_UNLESS,
    r_MOST_UNLESS := ⟨_, rfl⟩,
    p_MOST_UNLESS := fun _ _ => .int _,
    v_LETTERS := .str "abcdefghijklmnopqrstuvwxyz",
    u_LETTERS := (.str "abcdefghijklmnopqrstuvwxyz" t_LETTERS),
    g_LETTERS := PySem.W.mg_of X G g_LETTERS,
    r_LETTERS := ⟨_, rfl⟩,
    p_LETTERS := fun _ _ => .str _ }, rfl, rfl⟩
  have g := fun base => ok_law (P := l.prog) (w := w) (base := base) T
  rw [e1, e2] at g
  exact ⟨(PySem.W.fnOf "law" "law" (defArgs st_law) (defBody st_law) (defScope st_law) .none kV19 dc19 pm19 an19 cd19 ct19), fun s v => .of_eq rfl, fun base _ _ => g base⟩
end Nk04

open PySem PySem.W PyProof.Rows
set_option maxRecDepth 100000 in
set_option maxHeartbeats 0 in
theorem PySem.Challenge.cw_groundlots_k04_texts_of_rules_holds : PySem.Challenge.rw_groundlots_k04_texts_of_rules.Holds := by
  w_on; o_law; k_head; (case hw => w_witness2)
  k_fill
  refine Gd.walk (l := PySem.Challenge.rw_groundlots_k04_texts_of_rules) (n := 63) (k := 8) (m := Nk04.m_law) rfl (by decide) rfl ⟨rfl, by decide, by decide⟩ Nk04.law_true (fun w h Y => PySem.W.kIn_of Y) ?F
  case F =>
    intro w mg fa h KX G hmg
    refine' Nk04.all_mk KX G hmg ?a_Rule ?pg_Rule ?hd_Rule ?po_Rule ?sa_Rule ?nf_Rule_head ?nf_Rule_body ?nf_Rule_unless ?su_Rule_NoneType ?su_Rule_bool ?su_Rule_int ?su_Rule_str ?su_Rule_list ?su_Rule_tuple ?su_Rule_dict ?ik_Rule ?it_Rule ?ic_Rule ?im_Rule ?ocn ?oct ?x_BadRule ?a0 ?l0 ?c0 ?k0 ?a1 ?l1 ?c1 ?k1 ?a2 ?l2 ?c2 ?k2 ?a3 ?l3 ?c3 ?k3 ?a4 ?l4 ?c4 ?k4 ?a5 ?l5 ?c5 ?k5 ?a6 ?l6 ?c6 ?k6 ?a7 ?l7 ?c7 ?k7 ?lt7 ?a8 ?i8 ?l8 ?c8 ?k8 ?lt8 ?lk8_unless ?e8_0 ?e8_unless ?mk_Rule ?kc_Rule ?a9 ?i9 ?l9 ?c9 ?k9 ?a10 ?i10 ?l10 ?c10 ?k10 ?a11 ?l11 ?c11 ?k11 ?a12 ?l12 ?c12 ?k12 ?a13 ?l13 ?c13 ?k13 ?a14 ?l14 ?c14 ?k14 ?a15 ?l15 ?c15 ?k15 ?a16 ?l16 ?c16 ?k16 ?a17 ?i17 ?l17 ?c17 ?k17 ?a18 ?i18 ?l18 ?c18 ?k18 ?a19 ?l19 ?c19 ?k19 ?z_abs ?z_range ?z_len ?z_tuple ?z_isinstance ?z_str ?z_all ?z_list ?z_set ?g_LONGEST ?g_KEPT ?q_KEPTl ?g_MOST_BODY ?g_MOST_UNLESS ?g_LETTERS
    (case a_Rule => k_is); (case pg_Rule => k_is); (case hd_Rule => k_is); (case po_Rule => k_is); (case sa_Rule => k_is)
    (case nf_Rule_head => k_is); (case nf_Rule_body => k_is); (case nf_Rule_unless => k_is); (case su_Rule_NoneType => k_is); (case su_Rule_bool => k_is)
    (case su_Rule_int => k_is); (case su_Rule_str => k_is); (case su_Rule_list => k_is); (case su_Rule_tuple => k_is); (case su_Rule_dict => k_is)
    (case ik_Rule => k_is); (case it_Rule => k_is); (case ic_Rule => k_is); (case im_Rule => k_is); (case ocn => k_is)
    (case oct => k_is); (case x_BadRule => k_is); (case a0 => k_is); (case l0 => k_is); (case c0 => k_is)
    (case k0 => k_is); (case a1 => k_is); (case l1 => k_is); (case c1 => k_is); (case k1 => k_is)
    (case a2 => k_is); (case l2 => k_is); (case c2 => k_is); (case k2 => k_is); (case a3 => k_is)
    (case l3 => k_is); (case c3 => k_is); (case k3 => k_is); (case a4 => k_is); (case l4 => k_is)
    (case c4 => k_is); (case k4 => k_is); (case a5 => k_is); (case l5 => k_is); (case c5 => k_is)
    (case k5 => k_is); (case a6 => k_is); (case l6 => k_is); (case c6 => k_is); (case k6 => k_is)
    (case a7 => k_is); (case l7 => k_is); (case c7 => k_is); (case k7 => k_is); (case lt7 => k_is)
    (case a8 => k_is); (case i8 => k_is); (case l8 => k_is); (case c8 => k_is); (case k8 => k_is)
    (case lt8 => k_is); (case lk8_unless => k_is); (case e8_0 => k_is); (case e8_unless => k_is); (case mk_Rule => k_is)
    (case kc_Rule => k_is); (case a9 => k_is); (case i9 => k_is); (case l9 => k_is); (case c9 => k_is)
    (case k9 => k_is); (case a10 => k_is); (case i10 => k_is); (case l10 => k_is); (case c10 => k_is)
    (case k10 => k_is); (case a11 => k_is); (case l11 => k_is); (case c11 => k_is); (case k11 => k_is)
    (case a12 => k_is); (case l12 => k_is); (case c12 => k_is); (case k12 => k_is); (case a13 => k_is)
    (case l13 => k_is); (case c13 => k_is); (case k13 => k_is); (case a14 => k_is); (case l14 => k_is)
    (case c14 => k_is); (case k14 => k_is); (case a15 => k_is); (case l15 => k_is); (case c15 => k_is)
    (case k15 => k_is); (case a16 => k_is); (case l16 => k_is); (case c16 => k_is); (case k16 => k_is)
    (case a17 => k_is); (case i17 => k_is); (case l17 => k_is); (case c17 => k_is); (case k17 => k_is)
    (case a18 => k_is); (case i18 => k_is); (case l18 => k_is); (case c18 => k_is); (case k18 => k_is)
    (case a19 => k_is); (case l19 => k_is); (case c19 => k_is); (case k19 => k_is); (case z_abs => k_is)
    (case z_range => k_is); (case z_len => k_is); (case z_tuple => k_is); (case z_isinstance => k_is); (case z_str => k_is)
    (case z_all => k_is); (case z_list => k_is); (case z_set => k_is); (case g_LONGEST => k_is); (case g_KEPT => k_is)
    (case q_KEPTl => k_is); (case g_MOST_BODY => k_is); (case g_MOST_UNLESS => k_is); (case g_LETTERS => k_is)
#print axioms PySem.Challenge.cw_groundlots_k04_texts_of_rules_holds

