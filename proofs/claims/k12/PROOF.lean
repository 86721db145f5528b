import PyProof.Rows.All
import Wide.All
import OpenK.AllK
import Wide.FinOn
import PyProof.EqAt
import PyProof.EqKinds
import PyProof.TupleCall
import HandS.ForMost
import HandS.IsInst
import HandS.Exc
import HandS.ExcOwn
import HandS.WordsExc
import HandS.CallSlots
import HandS.Dict
import KE.KDictCopyH
import HandS.Walk
import HandS.Defaults
import HandS.EndBits
import HandS.MakeKw
import HandS.MakeKwOnly
import HandS.TryOnly
import HandS.FStr
import HandS.Strs
import HandS.SetKeys
import HandS.Zip
import HandS.TupAny
import HandS.Style
import HandS.SortInts
import KE.KUnpackStar
import HandS.ExcValue
import HandS.SlotsOwn
import HandS.More
import HandS.DictComp
import KE.KEqDict
import KE.GoesMore
import PyProof.EnumMake
import PyProof.Draws
import PyProof.DictCompW
import HandS.TupSets
import PyProof.SeqIndex
import PySem.Challenge.RW_groundlots_k12_levels
set_option Elab.async false
set_option linter.all false
set_option maxRecDepth 100000
set_option maxHeartbeats 8000000
/-! Gd: statements and expressions that run as their mirrors say. Part 1: data, heaps, states, judgements. -/
namespace Gd
open PySem L2

/-- the text's frame: what was read of it, the program, its world -/
structure Fg where
  F : PySem.W.Frag
  P : Program
  w : World
instance : Coe Fg PySem.W.Frag := ⟨Fg.F⟩
abbrev _root_.L2.Cx.g (X : L2.Cx) : Fg := ⟨X.K, X.prog, X.w⟩
abbrev Mg := Str → Option Value

/-- data: a value with all that it holds; `obj` a shared thing of the store, `loc` a thing that a slot owns -/
inductive D where
  | non | bl (b : Bool) | int (i : Int) | str (x : Str)
  | lst (l : List D) | tup (l : List D) | dct (l : List (Key × D))
  | ins (c : Str) (l : List (Str × D))
  | ty (n : String) | cls (c : Str)
  | obj (n : Nat) | loc (i : Nat)
  /-- a dict that is locked; one whose keys may be None, too -/
  | dcf (l : List (Key × D)) | dcl (l : List (Leaf × D))
instance : Inhabited D := ⟨.non⟩
inductive Slot where
  | un | va (d : D) | ow (d : D)
instance : Inhabited Slot := ⟨.un⟩
abbrev Ro := List Slot
abbrev Sg := List D

/-- the dict at a, its keys ints, texts and None -/
def dL (K : Fg) (a : Addr) (kvs : List (Leaf × V)) : HO := .ext fun h => kvs.length ≤ sizeLine ∧ (a == sysModules) = false ∧ ∃ vs, KV kvs vs ∧ h.DictOf (leafKind K.P K.w) a vs
section
variable (K : Fg) (mg : Mg) (G : Hp) (ad : List Addr)
mutual
inductive Rep : V → D → Prop
  | non : Rep .non .non
  | bl (b : Bool) : Rep (.bl b) (.bl b)
  | int (i : Int) : Rep (.int i) (.int i)
  | str (x : Str) : Rep (.str x) (.str x)
  | lst {a : Addr} {vs : List V} {ds : List D} : SqL K G a vs → Reps vs ds → Rep (.ref a) (.lst ds)
  | tup {a : Addr} {vs : List V} {ds : List D} : SqT K G a vs → Reps vs ds → Rep (.ref a) (.tup ds)
  | dct {a : Addr} {kvs : List (Key × V)} {ds : List (Key × D)} : Rd G a (.dK kvs) → RepK kvs ds → Rep (.ref a) (.dct ds)
  | ins {c : Str} {C a dx : Addr} {fs : List (Str × V)} {gs : List (Str × D)} : mg c = some (.ref C) → G a = some (.ins C dx fs) → RepF fs gs → Rep (.ref a) (.ins c gs)
  | ty (n : String) : Rep (.ty n) (.ty n)
  | cls {c : Str} {C : Addr} : mg c = some (.ref C) → Rep (.ref C) (.cls c)
  | obj {n : Nat} {a : Addr} : ad[n]? = some a → Rep (.ref a) (.obj n)
  | dcf {a : Addr} {ob : Obj} {kvs : List (Key × V)} {ds : List (Key × D)} : G a = some (.frz ob (.dK kvs)) → RepK kvs ds → Rep (.ref a) (.dcf ds)
  | dcl {a : Addr} {kvs : List (Leaf × V)} {ds : List (Leaf × D)} : Rd G a (dL K a kvs) → RepL kvs ds → Rep (.ref a) (.dcl ds)
inductive Reps : List V → List D → Prop
  | nil : Reps [] []
  | cons {v : V} {d : D} {vs : List V} {ds : List D} : Rep v d → Reps vs ds → Reps (v :: vs) (d :: ds)
inductive RepK : List (Key × V) → List (Key × D) → Prop
  | nil : RepK [] []
  | cons {k : Key} {v : V} {d : D} {vs : List (Key × V)} {ds : List (Key × D)} : Rep v d → RepK vs ds → RepK ((k, v) :: vs) ((k, d) :: ds)
inductive RepL : List (Leaf × V) → List (Leaf × D) → Prop
  | nil : RepL [] []
  | cons {k : Leaf} {v : V} {d : D} {vs : List (Leaf × V)} {ds : List (Leaf × D)} : Rep v d → RepL vs ds → RepL ((k, v) :: vs) ((k, d) :: ds)
inductive RepF : List (Str × V) → List (Str × D) → Prop
  | nil : RepF [] []
  | cons {k : Str} {v : V} {d : D} {vs : List (Str × V)} {ds : List (Str × D)} : Rep v d → RepF vs ds → RepF ((k, v) :: vs) ((k, d) :: ds)
end
end

theorem rd_mono {G G' : Hp} (e : ∀ b o, G b = some o → G' b = some o) {a : Addr} {u : HO} (h : Rd G a u) : Rd G' a u := by
  rcases h with h | ⟨o, h⟩
  · exact .inl (e _ _ h)
  · exact .inr ⟨o, e _ _ h⟩
theorem sql_mono {K : Fg} {G G' : Hp} (e : ∀ b o, G b = some o → G' b = some o) {a : Addr} {xs : List V} (h : SqL K G a xs) : SqL K G' a xs := by
  rcases h with h | h
  · exact .inl (rd_mono e h)
  · exact .inr h
theorem sqt_mono {K : Fg} {G G' : Hp} (e : ∀ b o, G b = some o → G' b = some o) {a : Addr} {xs : List V} (h : SqT K G a xs) : SqT K G' a xs := by
  rcases h with h | h
  · exact .inl (rd_mono e h)
  · exact .inr h

section
variable {K : Fg} {mg : Mg} {G G' : Hp} {ad ad' : List Addr}
theorem rep_mono_all (e : ∀ b o, G b = some o → G' b = some o) (p : ∀ (n : Nat) a, ad[n]? = some a → ad'[n]? = some a) :
    (∀ v d, Rep K mg G ad v d → Rep K mg G' ad' v d) ∧ (∀ v d, Reps K mg G ad v d → Reps K mg G' ad' v d) ∧ (∀ v d, RepK K mg G ad v d → RepK K mg G' ad' v d) ∧ (∀ v d, RepF K mg G ad v d → RepF K mg G' ad' v d) ∧ (∀ v d, RepL K mg G ad v d → RepL K mg G' ad' v d) := by
  have A : ∀ v d, Rep K mg G ad v d → Rep K mg G' ad' v d := fun v d h =>
    Rep.rec (K := K) (mg := mg) (G := G) (ad := ad) (motive_1 := fun v d _ => Rep K mg G' ad' v d) (motive_2 := fun v d _ => Reps K mg G' ad' v d) (motive_3 := fun v d _ => RepK K mg G' ad' v d) (motive_4 := fun v d _ => RepL K mg G' ad' v d) (motive_5 := fun v d _ => RepF K mg G' ad' v d)
      .non .bl .int .str (fun h _ r => .lst (sql_mono e h) r) (fun h _ r => .tup (sqt_mono e h) r) (fun h _ r => .dct (rd_mono e h) r) (fun h1 h2 _ r => .ins h1 (e _ _ h2) r) .ty (fun h => .cls h) (fun h => .obj (p _ _ h)) (fun h _ r => .dcf (e _ _ h) r) (fun h _ r => .dcl (rd_mono e h) r)
      .nil (fun _ _ a b => .cons a b) .nil (fun _ _ a b => .cons a b) .nil (fun _ _ a b => .cons a b) .nil (fun _ _ a b => .cons a b) h
  refine ⟨A, ?_, ?_, ?_, ?_⟩
  all_goals
    intro v d h
    induction v generalizing d with
    | nil => cases h; exact .nil
    | cons x xs ih => cases h with | cons a b => exact .cons (A _ _ a) (ih _ b)
variable (e : ∀ b o, G b = some o → G' b = some o) (p : ∀ (n : Nat) a, ad[n]? = some a → ad'[n]? = some a)
include e p
theorem Rep.mono {v : V} {d : D} (h : Rep K mg G ad v d) : Rep K mg G' ad' v d := (rep_mono_all e p).1 _ _ h
theorem Reps.mono {v : List V} {d : List D} (h : Reps K mg G ad v d) : Reps K mg G' ad' v d := (rep_mono_all e p).2.1 _ _ h
theorem RepK.mono {v : List (Key × V)} {d : List (Key × D)} (h : RepK K mg G ad v d) : RepK K mg G' ad' v d := (rep_mono_all e p).2.2.1 _ _ h
theorem RepF.mono {v : List (Str × V)} {d : List (Str × D)} (h : RepF K mg G ad v d) : RepF K mg G' ad' v d := (rep_mono_all e p).2.2.2.1 _ _ h
theorem RepL.mono {v : List (Leaf × V)} {d : List (Leaf × D)} (h : RepL K mg G ad v d) : RepL K mg G' ad' v d := (rep_mono_all e p).2.2.2.2 _ _ h
end
section
variable {K : Fg} {mg : Mg} {G : Hp} {ad : List Addr}
theorem Reps.length {vs : List V} {ds : List D} (h : Reps K mg G ad vs ds) : vs.length = ds.length := by
  induction vs generalizing ds with
  | nil => cases h; rfl
  | cons x xs ih => cases h with | cons a b => rw [List.length_cons, List.length_cons, ih b]
theorem Reps.get {vs : List V} {ds : List D} (h : Reps K mg G ad vs ds) {i : Nat} {d : D} (e : ds[i]? = some d) : ∃ v, vs[i]? = some v ∧ Rep K mg G ad v d := by
  induction vs generalizing ds i with
  | nil => cases h; simp at e
  | cons x xs ih =>
    cases h with
    | cons a b =>
      cases i with
      | zero => simp at e; subst e; exact ⟨x, rfl, a⟩
      | succ i => exact ih b (by simpa using e)
theorem Reps.getV {vs : List V} {ds : List D} (h : Reps K mg G ad vs ds) {i : Nat} {v : V} (e : vs[i]? = some v) : ∃ d, ds[i]? = some d ∧ Rep K mg G ad v d := by
  induction vs generalizing ds i with
  | nil => simp at e
  | cons x xs ih =>
    cases h with
    | cons a b =>
      cases i with
      | zero => simp at e; subst e; exact ⟨_, rfl, a⟩
      | succ i => exact ih b (by simpa using e)
theorem Reps.app {vs ws : List V} {ds es : List D} (h : Reps K mg G ad vs ds) (g : Reps K mg G ad ws es) : Reps K mg G ad (vs ++ ws) (ds ++ es) := by
  induction vs generalizing ds with
  | nil => cases h; exact g
  | cons x xs ih => cases h with | cons a b => exact .cons a (ih b)
theorem Reps.set {vs : List V} {ds : List D} (h : Reps K mg G ad vs ds) {i : Nat} {v : V} {d : D} (r : Rep K mg G ad v d) : Reps K mg G ad (vs.set i v) (ds.set i d) := by
  induction vs generalizing ds i with
  | nil => cases h; exact .nil
  | cons x xs ih =>
    cases h with
    | cons a b =>
      cases i with
      | zero => exact .cons r b
      | succ i => exact .cons a (ih b)
theorem Reps.drop {vs : List V} {ds : List D} (h : Reps K mg G ad vs ds) (n : Nat) : Reps K mg G ad (vs.drop n) (ds.drop n) := by
  induction vs generalizing ds n with
  | nil => cases h; simp; exact .nil
  | cons x xs ih =>
    cases h with
    | cons a b =>
      cases n with
      | zero => exact .cons a b
      | succ n => simpa using ih b n
theorem Reps.take {vs : List V} {ds : List D} (h : Reps K mg G ad vs ds) (n : Nat) : Reps K mg G ad (vs.take n) (ds.take n) := by
  induction vs generalizing ds n with
  | nil => cases h; simp; exact .nil
  | cons x xs ih =>
    cases h with
    | cons a b =>
      cases n with
      | zero => exact .nil
      | succ n => simpa using Reps.cons a (ih b n)
theorem Reps.ints {ns : List Int} {vs : List V} (h : Reps K mg G ad vs (ns.map D.int)) : vs = ns.map V.int := by
  induction ns generalizing vs with
  | nil => cases h; rfl
  | cons n ns ih =>
    cases h with
    | cons a b =>
      cases a
      rw [ih b]; rfl
theorem Reps.of_ints {ns : List Int} : Reps K mg G ad (ns.map V.int) (ns.map D.int) := by
  induction ns with
  | nil => exact .nil
  | cons n ns ih => exact .cons (.int n) ih
theorem Reps.strs {ns : List Str} {vs : List V} (h : Reps K mg G ad vs (ns.map D.str)) : vs = ns.map V.str := by
  induction ns generalizing vs with
  | nil => cases h; rfl
  | cons n ns ih =>
    cases h with
    | cons a b =>
      cases a
      rw [ih b]; rfl
theorem Reps.of_strs {ns : List Str} : Reps K mg G ad (ns.map V.str) (ns.map D.str) := by
  induction ns with
  | nil => exact .nil
  | cons n ns ih => exact .cons (.str n) ih
theorem Reps.bls {ns : List Bool} {vs : List V} (h : Reps K mg G ad vs (ns.map D.bl)) : vs = ns.map V.bl := by
  induction ns generalizing vs with
  | nil => cases h; rfl
  | cons n ns ih =>
    cases h with
    | cons a b =>
      cases a
      rw [ih b]; rfl
end

/-! ### heaps -/
open Classical in
noncomputable def hide (O : Addr → Prop) (H : Hp) : Hp := fun a => if O a then none else H a
theorem hide_of {O : Addr → Prop} {H : Hp} {a : Addr} {o : HO} (n : ¬ O a) (h : H a = some o) : hide O H a = some o := by
  unfold hide; rw [if_neg n]; exact h
theorem of_hide {O : Addr → Prop} {H : Hp} {a : Addr} {o : HO} (h : hide O H a = some o) : ¬ O a ∧ H a = some o := by
  unfold hide at h
  split at h
  · cases h
  · exact ⟨by assumption, h⟩
theorem un_hide {O : Addr → Prop} {H : Hp} : ∀ b o, hide O H b = some o → H b = some o := fun _ _ h => (of_hide h).2

/-- a thing at a whose object is read in H, what it holds in G -/
def MRep (K : Fg) (mg : Mg) (G : Hp) (ad : List Addr) (H : Hp) (a : Addr) : D → Prop
  | .lst ds => ∃ vs, H a = some (.lst vs) ∧ Reps K mg G ad vs ds
  | .dct ds => ∃ kvs, H a = some (.dK kvs) ∧ RepK K mg G ad kvs ds
  | .ins c gs => ∃ C dx fs, mg c = some (.ref C) ∧ H a = some (.ins C dx fs) ∧ RepF K mg G ad fs gs
  | .dcf ds => ∃ ob kvs, H a = some (.frz ob (.dK kvs)) ∧ RepK K mg G ad kvs ds
  | .dcl ds => ∃ kvs, H a = some (dL K a kvs) ∧ RepL K mg G ad kvs ds
  | _ => False
theorem MRep.mono {K : Fg} {mg : Mg} {G G' H H' : Hp} {ad ad' : List Addr} {a : Addr} {d : D} (h : MRep K mg G ad H a d) (e : ∀ b o, G b = some o → G' b = some o) (p : ∀ (n : Nat) a, ad[n]? = some a → ad'[n]? = some a)
    (k : ∀ o, H a = some o → H' a = some o) : MRep K mg G' ad' H' a d := by
  cases d with
  | lst ds => obtain ⟨vs, h1, h2⟩ := h; exact ⟨vs, k _ h1, h2.mono e p⟩
  | dct ds => obtain ⟨vs, h1, h2⟩ := h; exact ⟨vs, k _ h1, h2.mono e p⟩
  | ins c gs => obtain ⟨C, dx, fs, h0, h1, h2⟩ := h; exact ⟨C, dx, fs, h0, k _ h1, h2.mono e p⟩
  | dcf ds => obtain ⟨ob, vs, h1, h2⟩ := h; exact ⟨ob, vs, k _ h1, h2.mono e p⟩
  | dcl ds => obtain ⟨vs, h1, h2⟩ := h; exact ⟨vs, k _ h1, h2.mono e p⟩
  | _ => exact h.elim
theorem MRep.there {K : Fg} {mg : Mg} {G H : Hp} {ad : List Addr} {a : Addr} {d : D} (h : MRep K mg G ad H a d) : ∃ o, H a = some o := by
  cases d with
  | lst ds => obtain ⟨vs, h1, h2⟩ := h; exact ⟨_, h1⟩
  | dct ds => obtain ⟨vs, h1, h2⟩ := h; exact ⟨_, h1⟩
  | ins c gs => obtain ⟨C, dx, fs, h0, h1, h2⟩ := h; exact ⟨_, h1⟩
  | dcf ds => obtain ⟨ob, vs, h1, h2⟩ := h; exact ⟨_, h1⟩
  | dcl ds => obtain ⟨vs, h1, h2⟩ := h; exact ⟨_, h1⟩
  | _ => exact h.elim
/-- seen as a thing that stands still -/
theorem MRep.rep {K : Fg} {mg : Mg} {G H : Hp} {ad : List Addr} {a : Addr} {d : D} (h : MRep K mg G ad H a d) (k : ∀ o, H a = some o → G a = some o) : Rep K mg G ad (.ref a) d := by
  cases d with
  | lst ds => obtain ⟨vs, h1, h2⟩ := h; exact .lst (.of (k _ h1)) h2
  | dct ds => obtain ⟨vs, h1, h2⟩ := h; exact .dct (.of (k _ h1)) h2
  | ins c gs => obtain ⟨C, dx, fs, h0, h1, h2⟩ := h; exact .ins h0 (k _ h1) h2
  | dcf ds => obtain ⟨ob, vs, h1, h2⟩ := h; exact .dcf (k _ h1) h2
  | dcl ds => obtain ⟨vs, h1, h2⟩ := h; exact .dcl (.inl (k _ h1)) h2
  | _ => exact h.elim

/-- the store -/
structure Sto (K : Fg) (mg : Mg) (O : Addr → Prop) (ad : List Addr) (S : Sg) (H : Hp) : Prop where
  len : ad.length = S.length
  nd : ad.Nodup
  hid : ∀ a, a ∈ ad → O a
  dom : ∀ a, O a → ∃ o, H a = some o
  ob : ∀ (n : Nat) d, S[n]? = some d → ∃ a, ad[n]? = some a ∧ MRep K mg (hide O H) ad H a d
/-- the slots -/
structure Fre (K : Fg) (mg : Mg) (O : Addr → Prop) (ad : List Addr) (ρ : Ro) (σ : L2.St) (H : Hp) : Prop where
  len : σ.length = ρ.length
  va : ∀ (i : Nat) d, ρ[i]? = some (.va d) → ∃ v, σ[i]? = some (some v) ∧ Rep K mg (hide O H) ad v d
  ow : ∀ (i : Nat) d, ρ[i]? = some (.ow d) → ∃ a, σ[i]? = some (some (.ref a)) ∧ O a ∧ a ∉ ad ∧ MRep K mg (hide O H) ad H a d
  ap : ∀ (i j : Nat) d e a, i ≠ j → ρ[i]? = some (.ow d) → ρ[j]? = some (.ow e) → σ[i]? = some (some (.ref a)) → σ[j]? ≠ some (some (.ref a))
/-- the entry -/
structure Ctx where
  H0 : Hp
  ad0 : List Addr
  O0 : Addr → Prop
structure Cst (c : Ctx) (O : Addr → Prop) (ad : List Addr) (H : Hp) : Prop where
  fr : ∀ b o, c.H0 b = some o → b ∉ c.ad0 → H b = some o
  op : ∀ a, c.O0 a → O a
  oq : ∀ a, O a → c.O0 a ∨ c.H0 a = none
  ap : ∃ more, ad = c.ad0 ++ more ∧ ∀ a ∈ more, c.H0 a = none
  wf : ∀ a, a ∈ c.ad0 → c.O0 a
  wd : ∀ a, c.O0 a → ∃ o, c.H0 a = some o
structure Sta (K : Fg) (mg : Mg) (c : Ctx) (O : Addr → Prop) (ad : List Addr) (S : Sg) (ρ : Ro) (σ : L2.St) (H : Hp) : Prop where
  sto : Sto K mg O ad S H
  fre : Fre K mg O ad ρ σ H
  cst : Cst c O ad H
  owf : ∀ (i : Nat) d a, ρ[i]? = some (.ow d) → σ[i]? = some (some (.ref a)) → c.H0 a = none

/-- what an expression's run does -/
structure Stp (O : Addr → Prop) (ad : List Addr) (H : Hp) (O' : Addr → Prop) (ad' : List Addr) (H' : Hp) : Prop where
  fr : ∀ b o, H b = some o → b ∉ ad → H' b = some o
  op : ∀ a, O a → O' a
  oq : ∀ a, O' a → O a ∨ H a = none
  ap : ∃ more, ad' = ad ++ more ∧ ∀ a ∈ more, H a = none
theorem Stp.refl (O : Addr → Prop) (ad : List Addr) (H : Hp) : Stp O ad H O ad H := ⟨fun _ _ h _ => h, fun _ h => h, fun _ h => .inl h, [], by simp, fun _ h => nomatch h⟩
theorem pre_get {ad more : List Addr} : ∀ (n : Nat) a, ad[n]? = some a → (ad ++ more)[n]? = some a := fun n a h => by
  rw [List.getElem?_append_left (List.getElem?_eq_some_iff.mp h).1]; exact h
section
variable {K : Fg} {mg : Mg} {O O1 O2 : Addr → Prop} {ad ad1 ad2 : List Addr} {S S1 S2 : Sg} {H H1 H2 : Hp} {ρ : Ro} {σ : L2.St}
theorem Stp.get (s : Stp O ad H O1 ad1 H1) : ∀ (n : Nat) a, ad[n]? = some a → ad1[n]? = some a := by
  obtain ⟨m, rfl, _⟩ := s.ap
  exact pre_get
theorem Stp.mem (s : Stp O ad H O1 ad1 H1) {a : Addr} (h : a ∈ ad) : a ∈ ad1 := by
  obtain ⟨m, rfl, _⟩ := s.ap
  exact List.mem_append_left _ h
theorem Stp.nmem (s : Stp O ad H O1 ad1 H1) {a : Addr} {o : HO} (n : a ∉ ad) (h : H a = some o) : a ∉ ad1 := by
  obtain ⟨m, rfl, f⟩ := s.ap
  intro q
  rcases List.mem_append.mp q with q | q
  · exact n q
  · rw [f a q] at h; cases h
theorem Stp.hide (s : Stp O ad H O1 ad1 H1) (hid : ∀ a, a ∈ ad → O a) : ∀ b o, Gd.hide O H b = some o → Gd.hide O1 H1 b = some o := fun b o h => by
  obtain ⟨n, e⟩ := of_hide h
  refine hide_of (fun q => ?_) (s.fr b o e fun m => n (hid b m))
  rcases s.oq b q with z | z
  · exact n z
  · rw [z] at e; cases e
theorem Stp.trans (s : Stp O ad H O1 ad1 H1) (t : Stp O1 ad1 H1 O2 ad2 H2) (hid : ∀ a, a ∈ ad → O a) (dom : ∀ a, O1 a → ∃ o, H1 a = some o) : Stp O ad H O2 ad2 H2 := by
  have fre : ∀ a, H1 a = none → H a = none := fun a h => by
    cases e : H a with
    | none => rfl
    | some o =>
      by_cases m : a ∈ ad
      · obtain ⟨o', q⟩ := dom a (s.op a (hid a m))
        rw [h] at q; cases q
      · rw [s.fr a o e m] at h; cases h
  refine ⟨fun b o h m => t.fr b o (s.fr b o h m) (s.nmem m h), fun a h => t.op a (s.op a h), fun a h => ?_, ?_⟩
  · rcases t.oq a h with q | q
    · exact s.oq a q
    · exact .inr (fre a q)
  · obtain ⟨m1, e1, f1⟩ := s.ap
    obtain ⟨m2, e2, f2⟩ := t.ap
    refine ⟨m1 ++ m2, by rw [e2, e1, List.append_assoc], fun a h => ?_⟩
    rcases List.mem_append.mp h with q | q
    · exact f1 a q
    · exact fre a (f2 a q)
theorem Fre.step (f : Fre K mg O ad ρ σ H) (hid : ∀ a, a ∈ ad → O a) (s : Stp O ad H O1 ad1 H1) : Fre K mg O1 ad1 ρ σ H1 := by
  refine ⟨f.len, fun i d h => ?_, fun i d h => ?_, f.ap⟩
  · obtain ⟨v, h1, h2⟩ := f.va i d h
    exact ⟨v, h1, h2.mono (s.hide hid) s.get⟩
  · obtain ⟨a, h1, h2, h3, h4⟩ := f.ow i d h
    obtain ⟨o, ho⟩ := h4.there
    exact ⟨a, h1, s.op a h2, s.nmem h3 ho, h4.mono (s.hide hid) s.get fun o e => s.fr a o e h3⟩
theorem Cst.step {c : Ctx} (f : Cst c O ad H) (t : Sto K mg O ad S H) (s : Stp O ad H O1 ad1 H1) : Cst c O1 ad1 H1 := by
  have fre : ∀ a, H a = none → c.H0 a = none := fun a h => by
    cases e : c.H0 a with
    | none => rfl
    | some o =>
      by_cases m : a ∈ c.ad0
      · obtain ⟨o', q⟩ := t.dom a (f.op a (f.wf a m))
        rw [h] at q; cases q
      · rw [f.fr a o e m] at h; cases h
  refine ⟨fun b o h m => s.fr b o (f.fr b o h m) fun q => ?_, fun a h => s.op a (f.op a h), fun a h => ?_, ?_, f.wf, f.wd⟩
  · obtain ⟨more, e, g⟩ := f.ap
    rw [e] at q
    rcases List.mem_append.mp q with q | q
    · exact m q
    · rw [g b q] at h; cases h
  · rcases s.oq a h with q | q
    · exact f.oq a q
    · exact .inr (fre a q)
  · obtain ⟨m1, e1, f1⟩ := f.ap
    obtain ⟨m2, e2, f2⟩ := s.ap
    refine ⟨m1 ++ m2, by rw [e2, e1, List.append_assoc], fun a h => ?_⟩
    rcases List.mem_append.mp h with q | q
    · exact f1 a q
    · exact fre a (f2 a q)
theorem Cst.fresh {c : Ctx} (f : Cst c O ad H) (t : Sto K mg O ad S H) {a : Addr} (h : H a = none) : c.H0 a = none := by
  cases e : c.H0 a with
  | none => rfl
  | some o =>
    by_cases m : a ∈ c.ad0
    · obtain ⟨o', q⟩ := t.dom a (f.op a (f.wf a m))
      rw [h] at q; cases q
    · rw [f.fr a o e m] at h; cases h
theorem Sta.step {c : Ctx} (z : Sta K mg c O ad S ρ σ H) (s : Stp O ad H O1 ad1 H1) (t : Sto K mg O1 ad1 S1 H1) : Sta K mg c O1 ad1 S1 ρ σ H1 :=
  ⟨t, z.fre.step z.sto.hid s, z.cst.step z.sto s, z.owf⟩
end

/-! ### mirrors -/
inductive Out (α : Type) where
  | ok (a : α) (S : Sg)
  | er (x : Str) (fs : List (Str × D)) (S : Sg)
  | no
def Out.bind {α β : Type} : Out α → (α → Sg → Out β) → Out β
  | .ok a S, f => f a S
  | .er x fs S, _ => .er x fs S
  | .no, _ => .no
theorem bind_ok {α β : Type} (a : α) (S : Sg) (f : α → Sg → Out β) : (Out.ok a S).bind f = f a S := rfl
abbrev ME := Ro → Sg → Out D
abbrev MA := Ro → Sg → Out (List D)
abbrev MT := Ro → Sg → Out Bool
inductive OS where
  | nx (ρ : Ro) (S : Sg)
  | rt (d : D) (S : Sg)
  | bk (ρ : Ro) (S : Sg)
  | ct (ρ : Ro) (S : Sg)
  | ex (x : Str) (fs : List (Str × D)) (ρ : Ro) (S : Sg)
  | no
abbrev MS := Ro → Sg → OS

def isLoc : D → Bool
  | .loc _ => true
  | _ => false
/-- what is read at a value: a thing of the store, a slot's own thing, or the value -/
def deref (ρ : Ro) (S : Sg) : D → Option D
  | .obj n => S[n]?
  | .loc i => match ρ[i]? with
    | some (.ow d) => some d
    | _ => none
  | d => some d

/-! ### what holds behind -/
section
variable (K : Fg) (mg : Mg)
/-- a value as an expression hands it on: it may be a slot's own thing -/
def RepR (O : Addr → Prop) (ad : List Addr) (ρ : Ro) (σ : L2.St) (H : Hp) (v : V) : D → Prop
  | .loc i => (∃ d, ρ[i]? = some (.ow d)) ∧ σ[i]? = some (some v)
  | d => Rep K mg (hide O H) ad v d
/-- a value's own object, what it holds standing still -/
def RepS (O : Addr → Prop) (ad : List Addr) (H : Hp) (v : V) (d : D) : Prop := Rep K mg (hide O H) ad v d ∨ ∃ a, v = .ref a ∧ MRep K mg (hide O H) ad H a d
def XRep (O : Addr → Prop) (ad : List Addr) (H : Hp) (cls : Value) (dd : Option Addr) (x : Str) (fs : List (Str × D)) : Prop :=
  ∃ C, mg x = some (.ref C) ∧ cls = .ref C ∧ ((dd = none ∧ fs = []) ∨ ∃ a vs, dd = some a ∧ H a = some (.xd vs) ∧ RepF K mg (hide O H) ad vs fs)
def PostE (W : WX) (ρ : Ro) (σ : L2.St) (Q : VK) (O : Addr → Prop) (ad : List Addr) (H : Hp) : Out D → Prop
  | .ok d S' => ∀ v O' ad' H', Stp O ad H O' ad' H' → Sto K mg O' ad' S' H' → RepR K mg O' ad' ρ σ H' v d → Q v H'
  | .er x fs S' => ∀ cls dd O' ad' H', Stp O ad H O' ad' H' → Sto K mg O' ad' S' H' → XRep K mg O' ad' H' cls dd x fs → W cls dd σ H'
  | .no => False
def PostA (W : WX) (ρ : Ro) (σ : L2.St) (Q : List V → Hp → Prop) (O : Addr → Prop) (ad : List Addr) (H : Hp) : Out (List D) → Prop
  | .ok ds S' => ∀ vs O' ad' H', Stp O ad H O' ad' H' → Sto K mg O' ad' S' H' → Paired (RepR K mg O' ad' ρ σ H') vs ds → Q vs H'
  | .er x fs S' => ∀ cls dd O' ad' H', Stp O ad H O' ad' H' → Sto K mg O' ad' S' H' → XRep K mg O' ad' H' cls dd x fs → W cls dd σ H'
  | .no => False
def PostT (W : WX) (ρ : Ro) (σ : L2.St) (Q : Bool → Hp → Prop) (O : Addr → Prop) (ad : List Addr) (H : Hp) : Out Bool → Prop
  | .ok b S' => ∀ O' ad' H', Stp O ad H O' ad' H' → Sto K mg O' ad' S' H' → Q b H'
  | .er x fs S' => ∀ cls dd O' ad' H', Stp O ad H O' ad' H' → Sto K mg O' ad' S' H' → XRep K mg O' ad' H' cls dd x fs → W cls dd σ H'
  | .no => False
def Ee (W : WX) (m : ME) : TE := fun σ H Q => ∃ O ad S ρ, Sto K mg O ad S H ∧ Fre K mg O ad ρ σ H ∧ PostE K mg W ρ σ Q O ad H (m ρ S)
def Ea (W : WX) (m : MA) : TA := fun σ H Q => ∃ O ad S ρ, Sto K mg O ad S H ∧ Fre K mg O ad ρ σ H ∧ PostA K mg W ρ σ Q O ad H (m ρ S)
def Et (W : WX) (m : MT) : TT := fun σ H Q => ∃ O ad S ρ, Sto K mg O ad S H ∧ Fre K mg O ad ρ σ H ∧ PostT K mg W ρ σ Q O ad H (m ρ S)
/-- what stood still stands still -/
structure Grow (O : Addr → Prop) (ad : List Addr) (H : Hp) (O' : Addr → Prop) (ad' : List Addr) (H' : Hp) : Prop where
  ex : ∀ b o, hide O H b = some o → hide O' H' b = some o
  ap : ∀ (n : Nat) a, ad[n]? = some a → ad'[n]? = some a
def PostS (W : WX) (c : Ctx) (Dn : Ends) (O : Addr → Prop) (ad : List Addr) (H : Hp) : OS → Prop
  | .nx ρ' S' => ∀ σ' O' ad' H', Grow O ad H O' ad' H' → Sta K mg c O' ad' S' ρ' σ' H' → Dn.nx σ' H'
  | .bk ρ' S' => ∀ σ' O' ad' H', Grow O ad H O' ad' H' → Sta K mg c O' ad' S' ρ' σ' H' → Dn.bk σ' H'
  | .ct ρ' S' => ∀ σ' O' ad' H', Grow O ad H O' ad' H' → Sta K mg c O' ad' S' ρ' σ' H' → Dn.ct σ' H'
  | .rt d S' => ∀ v O' ad' H', Sto K mg O' ad' S' H' → Cst c O' ad' H' → Rep K mg (hide O' H') ad' v d → Dn.rt v H'
  | .ex x fs ρ' S' => ∀ cls dd σ' O' ad' H', Grow O ad H O' ad' H' → Sta K mg c O' ad' S' ρ' σ' H' → XRep K mg O' ad' H' cls dd x fs → W cls dd σ' H'
  | .no => False
def Ss (W : WX) (m : MS) : TS := fun Dn σ H => ∃ c O ad S ρ, Sta K mg c O ad S ρ σ H ∧ PostS K mg W c Dn O ad H (m ρ S)
end
theorem Grow.refl (O : Addr → Prop) (ad : List Addr) (H : Hp) : Grow O ad H O ad H := ⟨fun _ _ h => h, fun _ _ h => h⟩
theorem Grow.trans {O O1 O2 : Addr → Prop} {ad ad1 ad2 : List Addr} {H H1 H2 : Hp} (a : Grow O ad H O1 ad1 H1) (b : Grow O1 ad1 H1 O2 ad2 H2) : Grow O ad H O2 ad2 H2 := ⟨fun x o h => b.ex x o (a.ex x o h), fun n x h => b.ap n x (a.ap n x h)⟩
theorem Stp.grow {O O1 : Addr → Prop} {ad ad1 : List Addr} {H H1 : Hp} (s : Stp O ad H O1 ad1 H1) (hid : ∀ a, a ∈ ad → O a) : Grow O ad H O1 ad1 H1 := ⟨s.hide hid, s.get⟩

/-! ### a judgement's reading is weakened -/
section
variable {X : Cx}
theorem pe_of {e : Expr} {t t' : TE} (h : PE X e t) (w : ∀ σ H Q, t' σ H Q → t σ H Q) : PE X e t' := ⟨fun pins s σ H Q I q => h.run pins s σ H Q I (w _ _ _ q)⟩
theorem pt_of {e : Expr} {t t' : TT} (h : PT X e t) (w : ∀ σ H Q, t' σ H Q → t σ H Q) : PT X e t' := ⟨fun pins s σ H Q I q => h.run pins s σ H Q I (w _ _ _ q)⟩
theorem pw_of {e : Expr} {t t' : TT} (h : PW X e t) (w : ∀ σ H Q, t' σ H Q → t σ H Q) : PW X e t' := ⟨fun wh pins s σ H Q I q => h.run wh pins s σ H Q I (w _ _ _ q)⟩
theorem pa_of {es : List Expr} {t t' : TA} (h : PA X es t) (w : ∀ σ H Q, t' σ H Q → t σ H Q) : PA X es t' := ⟨fun pos pins s σ H Q I q => h.run pos pins s σ H Q I (w _ _ _ q)⟩
theorem ps_of {st : Stmt} {t t' : TS} (h : PS X st t) (w : ∀ Dn σ H, t' Dn σ H → t Dn σ H) : PS X st t' := ⟨fun pins s σ H Dn I q => h.run pins s σ H Dn I (w _ _ _ q)⟩
theorem pss_of {st : List Stmt} {t t' : TS} (h : PSs X st t) (w : ∀ Dn σ H, t' Dn σ H → t Dn σ H) : PSs X st t' := ⟨fun pins s σ H Dn I q => h.run pins s σ H Dn I (w _ _ _ q)⟩
end
end Gd

/-! Gd, part 2: expressions, tests, arguments, plain statements. -/
namespace Gd
open PySem L2

section
variable {K : Fg} {mg : Mg} {W : WX} {O O1 : Addr → Prop} {ad ad1 : List Addr} {S S1 : Sg} {ρ : Ro} {σ : L2.St} {H H1 : Hp}

theorem Sto.of_un (s : Sto K mg O ad S H) : ∀ a, a ∈ ad → O a := s.hid
theorem RepR.step {v : V} {d : D} (r : RepR K mg O ad ρ σ H v d) (hid : ∀ a, a ∈ ad → O a) (s : Stp O ad H O1 ad1 H1) : RepR K mg O1 ad1 ρ σ H1 v d := by
  cases d with
  | loc i => exact r
  | _ => exact Rep.mono (s.hide hid) s.get r
theorem repR_of {v : V} {d : D} (r : Rep K mg (hide O H) ad v d) : RepR K mg O ad ρ σ H v d := by
  cases d with
  | loc i => cases r
  | _ => exact r
theorem RepR.rep {v : V} {d : D} (r : RepR K mg O ad ρ σ H v d) (n : isLoc d = false) : Rep K mg (hide O H) ad v d := by
  cases d with
  | loc i => cases n
  | _ => exact r
theorem deref_rep {v : V} {d e : D} (f : Fre K mg O ad ρ σ H) (s : Sto K mg O ad S H) (r : RepR K mg O ad ρ σ H v d) (h : deref ρ S d = some e) : RepS K mg O ad H v e := by
  cases d with
  | loc i =>
    obtain ⟨⟨d, h1⟩, h2⟩ := r
    have q : (match ρ[i]? with | some (.ow d) => some d | _ => none) = some e := h
    rw [h1] at q
    cases q
    obtain ⟨a, h3, _, _, h4⟩ := f.ow i _ h1
    rw [h3] at h2
    cases h2
    exact .inr ⟨a, rfl, h4⟩
  | obj n =>
    have q : S[n]? = some e := h
    obtain ⟨a, h1, h2⟩ := s.ob n e q
    have r' : Rep K mg (hide O H) ad v (.obj n) := r
    cases r' with
    | obj h3 =>
      rw [h1] at h3; cases h3
      exact .inr ⟨a, rfl, h2⟩
  | _ => cases h; exact .inl r
theorem PostE.rebase {Q : VK} {o : Out D} (h : PostE K mg W ρ σ Q O ad H o) (s : Stp O ad H O1 ad1 H1) (hid : ∀ a, a ∈ ad → O a) (dom : ∀ a, O1 a → ∃ o, H1 a = some o) : PostE K mg W ρ σ Q O1 ad1 H1 o := by
  cases o with
  | ok d S' => exact fun v O' ad' H' t z r => h v O' ad' H' (s.trans t hid dom) z r
  | er x fs S' => exact fun cls dd O' ad' H' t z r => h cls dd O' ad' H' (s.trans t hid dom) z r
  | no => exact h
theorem PostA.rebase {Q : List V → Hp → Prop} {o : Out (List D)} (h : PostA K mg W ρ σ Q O ad H o) (s : Stp O ad H O1 ad1 H1) (hid : ∀ a, a ∈ ad → O a) (dom : ∀ a, O1 a → ∃ o, H1 a = some o) : PostA K mg W ρ σ Q O1 ad1 H1 o := by
  cases o with
  | ok d S' => exact fun v O' ad' H' t z r => h v O' ad' H' (s.trans t hid dom) z r
  | er x fs S' => exact fun cls dd O' ad' H' t z r => h cls dd O' ad' H' (s.trans t hid dom) z r
  | no => exact h
theorem PostT.rebase {Q : Bool → Hp → Prop} {o : Out Bool} (h : PostT K mg W ρ σ Q O ad H o) (s : Stp O ad H O1 ad1 H1) (hid : ∀ a, a ∈ ad → O a) (dom : ∀ a, O1 a → ∃ o, H1 a = some o) : PostT K mg W ρ σ Q O1 ad1 H1 o := by
  cases o with
  | ok d S' => exact fun O' ad' H' t z => h O' ad' H' (s.trans t hid dom) z
  | er x fs S' => exact fun cls dd O' ad' H' t z r => h cls dd O' ad' H' (s.trans t hid dom) z r
  | no => exact h

/-- the state behind a first part -/
def AtE (K : Fg) (mg : Mg) (σ : L2.St) (H : Hp) (v : V) (R : (Addr → Prop) → List Addr → Ro → Sg → D → Prop) : Prop :=
  ∃ O ad S ρ d, Sto K mg O ad S H ∧ Fre K mg O ad ρ σ H ∧ RepR K mg O ad ρ σ H v d ∧ R O ad ρ S d
theorem bindE {m : ME} {f : Ro → D → Sg → Out D} {Q : VK} (h : Ee K mg W (fun ρ S => (m ρ S).bind (f ρ)) σ H Q) :
    Ee K mg W m σ H fun v H1 => AtE K mg σ H1 v fun O ad ρ S d => PostE K mg W ρ σ Q O ad H1 (f ρ d S) := by
  obtain ⟨O, ad, S, ρ, s, fr, h⟩ := h
  refine ⟨O, ad, S, ρ, s, fr, ?_⟩
  cases e : m ρ S with
  | ok d S1 =>
    (dsimp only at h; rw [e] at h)
    exact fun v O' ad' H' t z r => ⟨O', ad', S1, ρ, d, z, fr.step s.hid t, r, h.rebase t s.hid z.dom⟩
  | er x fs S1 =>
    (dsimp only at h; rw [e] at h)
    exact h
  | no =>
    (dsimp only at h; rw [e] at h)
    exact h
theorem bindEA {m : ME} {f : Ro → D → Sg → Out (List D)} {Q : List V → Hp → Prop} (h : Ea K mg W (fun ρ S => (m ρ S).bind (f ρ)) σ H Q) :
    Ee K mg W m σ H fun v H1 => AtE K mg σ H1 v fun O ad ρ S d => PostA K mg W ρ σ Q O ad H1 (f ρ d S) := by
  obtain ⟨O, ad, S, ρ, s, fr, h⟩ := h
  refine ⟨O, ad, S, ρ, s, fr, ?_⟩
  cases e : m ρ S with
  | ok d S1 =>
    (dsimp only at h; rw [e] at h)
    exact fun v O' ad' H' t z r => ⟨O', ad', S1, ρ, d, z, fr.step s.hid t, r, h.rebase t s.hid z.dom⟩
  | er x fs S1 =>
    (dsimp only at h; rw [e] at h)
    exact h
  | no =>
    (dsimp only at h; rw [e] at h)
    exact h
theorem bindET {m : ME} {f : Ro → D → Sg → Out Bool} {Q : Bool → Hp → Prop} (h : Et K mg W (fun ρ S => (m ρ S).bind (f ρ)) σ H Q) :
    Ee K mg W m σ H fun v H1 => AtE K mg σ H1 v fun O ad ρ S d => PostT K mg W ρ σ Q O ad H1 (f ρ d S) := by
  obtain ⟨O, ad, S, ρ, s, fr, h⟩ := h
  refine ⟨O, ad, S, ρ, s, fr, ?_⟩
  cases e : m ρ S with
  | ok d S1 =>
    (dsimp only at h; rw [e] at h)
    exact fun v O' ad' H' t z r => ⟨O', ad', S1, ρ, d, z, fr.step s.hid t, r, h.rebase t s.hid z.dom⟩
  | er x fs S1 =>
    (dsimp only at h; rw [e] at h)
    exact h
  | no =>
    (dsimp only at h; rw [e] at h)
    exact h
theorem bindTE {m : MT} {f : Ro → Bool → Sg → Out D} {Q : VK} (h : Ee K mg W (fun ρ S => (m ρ S).bind (f ρ)) σ H Q) :
    Et K mg W m σ H fun b H1 => ∃ O ad S ρ, Sto K mg O ad S H1 ∧ Fre K mg O ad ρ σ H1 ∧ PostE K mg W ρ σ Q O ad H1 (f ρ b S) := by
  obtain ⟨O, ad, S, ρ, s, fr, h⟩ := h
  refine ⟨O, ad, S, ρ, s, fr, ?_⟩
  cases e : m ρ S with
  | ok d S1 =>
    (dsimp only at h; rw [e] at h)
    exact fun O' ad' H' t z => ⟨O', ad', S1, ρ, z, fr.step s.hid t, h.rebase t s.hid z.dom⟩
  | er x fs S1 =>
    (dsimp only at h; rw [e] at h)
    exact h
  | no =>
    (dsimp only at h; rw [e] at h)
    exact h
theorem bindTT {m : MT} {f : Ro → Bool → Sg → Out Bool} {Q : Bool → Hp → Prop} (h : Et K mg W (fun ρ S => (m ρ S).bind (f ρ)) σ H Q) :
    Et K mg W m σ H fun b H1 => ∃ O ad S ρ, Sto K mg O ad S H1 ∧ Fre K mg O ad ρ σ H1 ∧ PostT K mg W ρ σ Q O ad H1 (f ρ b S) := by
  obtain ⟨O, ad, S, ρ, s, fr, h⟩ := h
  refine ⟨O, ad, S, ρ, s, fr, ?_⟩
  cases e : m ρ S with
  | ok d S1 =>
    (dsimp only at h; rw [e] at h)
    exact fun O' ad' H' t z => ⟨O', ad', S1, ρ, z, fr.step s.hid t, h.rebase t s.hid z.dom⟩
  | er x fs S1 =>
    (dsimp only at h; rw [e] at h)
    exact h
  | no =>
    (dsimp only at h; rw [e] at h)
    exact h
/-- two parts -/
def AtE2 (K : Fg) (mg : Mg) (σ : L2.St) (H : Hp) (v w : V) (R : (Addr → Prop) → List Addr → Ro → Sg → D → D → Prop) : Prop :=
  ∃ O ad S ρ d e, Sto K mg O ad S H ∧ Fre K mg O ad ρ σ H ∧ RepR K mg O ad ρ σ H v d ∧ RepR K mg O ad ρ σ H w e ∧ R O ad ρ S d e
theorem bind2E {m n : ME} {f : Ro → D → D → Sg → Out D} {Q : VK} (h : Ee K mg W (fun ρ S => (m ρ S).bind fun d S1 => (n ρ S1).bind fun e S2 => f ρ d e S2) σ H Q) :
    Ee K mg W m σ H fun v H1 => Ee K mg W n σ H1 fun w H2 => AtE2 K mg σ H2 v w fun O ad ρ S d e => PostE K mg W ρ σ Q O ad H2 (f ρ d e S) := by
  obtain ⟨O, ad, S, ρ, s, fr, h⟩ := h
  refine ⟨O, ad, S, ρ, s, fr, ?_⟩
  cases e : m ρ S with
  | ok d S1 =>
    (dsimp only at h; rw [e] at h)
    intro v O1 ad1 H1 t z r
    have h1 : PostE K mg W ρ σ Q O1 ad1 H1 ((n ρ S1).bind fun e S2 => f ρ d e S2) := PostE.rebase h t s.hid z.dom
    have f1 := fr.step s.hid t
    refine ⟨O1, ad1, S1, ρ, z, f1, ?_⟩
    cases e2 : n ρ S1 with
    | ok d2 S2 =>
      rw [e2] at h1
      exact fun w O2 ad2 H2 t2 z2 r2 => ⟨O2, ad2, S2, ρ, d, d2, z2, f1.step z.hid t2, r.step z.hid t2, r2, h1.rebase t2 z.hid z2.dom⟩
    | er x fs S2 =>
      rw [e2] at h1
      exact h1
    | no =>
      rw [e2] at h1
      exact h1
  | er x fs S1 =>
    (dsimp only at h; rw [e] at h)
    exact h
  | no =>
    (dsimp only at h; rw [e] at h)
    exact h
end

/-! ### names, constants -/
def e_var (i : Nat) : ME := fun ρ S => match ρ[i]? with
  | some (.va d) => .ok d S
  | some (.ow _) => .ok (.loc i) S
  | _ => .no
def e_c (d : D) : ME := fun _ S => .ok d S
section
variable {X : Cx} {W : WX}
theorem E_var {i : Nat} {e : Expr} (h : PE X e (tVar i)) : PE X e (Ee X.g X.mg W (e_var i)) := pe_of h fun σ H Q q => by
  obtain ⟨O, ad, S, ρ, s, fr, h⟩ := q
  unfold e_var at h
  cases e : ρ[i]? with
  | none => rw [e] at h; exact h.elim
  | some z =>
    rw [e] at h
    cases z with
    | un => exact h.elim
    | va d =>
      obtain ⟨v, h1, h2⟩ := fr.va i d e
      exact ⟨v, h1, h v O ad H (.refl _ _ _) s (repR_of h2)⟩
    | ow d =>
      obtain ⟨a, h1, _⟩ := fr.ow i d e
      exact ⟨_, h1, h _ O ad H (.refl _ _ _) s ⟨⟨d, e⟩, h1⟩⟩
theorem E_c {v : V} {d : D} {e : Expr} (h : PE X e (tC v)) (r : ∀ G ad, Rep X.g X.mg G ad v d) : PE X e (Ee X.g X.mg W (e_c d)) := pe_of h fun σ H Q q => by
  obtain ⟨O, ad, S, ρ, s, fr, h⟩ := q
  exact h v O ad H (.refl _ _ _) s (repR_of (r _ _))
theorem E_int {i : Int} {j pos} : PE X (.Constant (.int i) j pos) (Ee X.g X.mg W (e_c (.int i))) := E_c pe_int fun _ _ => .int i
theorem E_bl {b : Bool} {j pos} : PE X (.Constant (.bool b) j pos) (Ee X.g X.mg W (e_c (.bl b))) := E_c pe_bl fun _ _ => .bl b
theorem E_non {j pos} : PE X (.Constant .none j pos) (Ee X.g X.mg W (e_c .non)) := E_c pe_non fun _ _ => .non
theorem E_str {x : Str} {j pos} : PE X (.Constant (.str x) j pos) (Ee X.g X.mg W (e_c (.str x))) := E_c pe_str fun _ _ => .str x
end

/-! ### operations on what is read -/
def liftO (S : Sg) : Option D → Out D
  | some z => .ok z S
  | none => .no
def e_op1 (f : D → Option D) (a : ME) : ME := fun ρ S => (a ρ S).bind fun d S1 => liftO S1 ((deref ρ S1 d).bind f)
def e_op2 (f : D → D → Option D) (a b : ME) : ME := fun ρ S => (a ρ S).bind fun d S1 => (b ρ S1).bind fun e S2 => liftO S2 ((deref ρ S2 d).bind fun d' => (deref ρ S2 e).bind fun e' => f d' e')
def isRefD : D → Bool
  | .lst _ => true
  | .tup _ => true
  | .dct _ => true
  | .ins _ _ => true
  | _ => false
/-- what an operation gives: a value that is there, or a new thing -/
def Res (K : Fg) (mg : Mg) (O : Addr → Prop) (ad : List Addr) (H : Hp) (z : D) (r : VK → Prop) : Prop :=
  (∃ v, Rep K mg (hide O H) ad v z ∧ ∀ Q : VK, Q v H → r Q) ∨
  (isRefD z = true ∧ ∃ o, (∀ p G, (∀ b o', hide O H b = some o' → G b = some o') → G p = some o → Rep K mg G ad (.ref p) z) ∧ ∀ Q : VK, (∀ p, H p = none → Q (.ref p) (upd H p o)) → r Q)
def OpP (K : Fg) (mg : Mg) (r : R2) (f : D → D → Option D) : Prop :=
  ∀ O ad H x y d e z, RepS K mg O ad H x d → RepS K mg O ad H y e → f d e = some z → Res K mg O ad H z (r x y H)
def UnP (K : Fg) (mg : Mg) (r : V → Hp → VK → Prop) (f : D → Option D) : Prop :=
  ∀ O ad H x d z, RepS K mg O ad H x d → f d = some z → Res K mg O ad H z (r x H)
theorem Res.imp {K : Fg} {mg : Mg} {O : Addr → Prop} {ad : List Addr} {H : Hp} {z : D} {r r' : VK → Prop} (h : Res K mg O ad H z r) (k : ∀ Q, r Q → r' Q) : Res K mg O ad H z r' := by
  rcases h with ⟨v, h1, h2⟩ | ⟨h0, o, h1, h2⟩
  · exact .inl ⟨v, h1, fun Q q => k Q (h2 Q q)⟩
  · exact .inr ⟨h0, o, h1, fun Q q => k Q (h2 Q q)⟩
theorem res_v {K : Fg} {mg : Mg} {O : Addr → Prop} {ad : List Addr} {H : Hp} {z : D} {r : VK → Prop} {v : V} (h : Rep K mg (hide O H) ad v z) (k : ∀ Q : VK, Q v H → r Q) : Res K mg O ad H z r := .inl ⟨v, h, k⟩
theorem Res.go {K : Fg} {mg : Mg} {W : WX} {ρ : Ro} {σ : L2.St} {O : Addr → Prop} {ad : List Addr} {H : Hp} {S : Sg} {z : D} {r : VK → Prop} {Q : VK} (h : Res K mg O ad H z r) (s : Sto K mg O ad S H) (k : PostE K mg W ρ σ Q O ad H (.ok z S)) : r Q := by
  rcases h with ⟨v, h1, h2⟩ | ⟨_, o, h1, h2⟩
  · exact h2 Q (k v O ad H (.refl _ _ _) s (repR_of h1))
  · refine h2 Q fun p hp => ?_
    have kk : ∀ b o', H b = some o' → upd H p o b = some o' := fun b o' e => by rw [upd_ne (ne_of_none e hp)]; exact e
    have hk : ∀ b o', hide O H b = some o' → hide O (upd H p o) b = some o' := fun b o' e => hide_of (of_hide e).1 (kk b o' (of_hide e).2)
    have np : ¬ O p := fun q => by
      obtain ⟨o', e⟩ := s.dom p q
      rw [hp] at e; cases e
    refine k (.ref p) O ad (upd H p o) ⟨fun b o' e _ => kk b o' e, fun _ h => h, fun _ h => .inl h, [], by simp, fun _ h => nomatch h⟩ ⟨s.len, s.nd, s.hid, fun a h => ?_, fun n d' h => ?_⟩ (repR_of (h1 p _ hk (hide_of np upd_same)))
    · obtain ⟨o', e⟩ := s.dom a h
      exact ⟨o', kk a o' e⟩
    · obtain ⟨a, h1, h2⟩ := s.ob n d' h
      exact ⟨a, h1, h2.mono hk (fun _ _ e => e) fun o' e => kk a o' e⟩
section
variable {K : Fg} {mg : Mg} {W : WX}
theorem OpP.or {r r' : R2} {f g : D → D → Option D} (h : OpP K mg r f) (h' : OpP K mg r' g) : OpP K mg (fun x y H Q => r x y H Q ∨ r' x y H Q) (fun d e => (f d e).or (g d e)) := by
  intro O ad H x y d e z rx ry q
  cases e1 : f d e with
  | some u =>
    have q' : (f d e).or (g d e) = some z := q
    rw [e1] at q'
    cases q'
    exact (h O ad H x y d e _ rx ry e1).imp fun Q k => .inl k
  | none =>
    have q' : (f d e).or (g d e) = some z := q
    rw [e1] at q'
    exact (h' O ad H x y d e _ rx ry q').imp fun Q k => .inr k
theorem UnP.or {r r' : V → Hp → VK → Prop} {f g : D → Option D} (h : UnP K mg r f) (h' : UnP K mg r' g) : UnP K mg (fun x H Q => r x H Q ∨ r' x H Q) (fun d => (f d).or (g d)) := by
  intro O ad H x d z rx q
  cases e1 : f d with
  | some u =>
    have q' : (f d).or (g d) = some z := q
    rw [e1] at q'
    cases q'
    exact (h O ad H x d _ rx e1).imp fun Q k => .inl k
  | none =>
    have q' : (f d).or (g d) = some z := q
    rw [e1] at q'
    exact (h' O ad H x d _ rx q').imp fun Q k => .inr k
theorem liftO_ok {ρ : Ro} {σ : L2.St} {O : Addr → Prop} {ad : List Addr} {H : Hp} {S : Sg} {o : Option D} {Q : VK} (h : PostE K mg W ρ σ Q O ad H (liftO S o)) : ∃ z, o = some z := by
  cases o with
  | some z => exact ⟨z, rfl⟩
  | none => exact h.elim
theorem w_op2 {r : R2} {f : D → D → Option D} {a b : ME} (hf : OpP K mg r f) : ∀ σ H Q, Ee K mg W (e_op2 f a b) σ H Q → tOp r (Ee K mg W a) (Ee K mg W b) σ H Q := by
  intro σ H Q q
  have q2 := bind2E (f := fun ρ d e S2 => liftO S2 ((deref ρ S2 d).bind fun d' => (deref ρ S2 e).bind fun e' => f d' e')) q
  obtain ⟨O, ad, S, ρ, s, fr, h⟩ := q2
  refine ⟨O, ad, S, ρ, s, fr, ?_⟩
  have imp : ∀ (x : V) (H1 : Hp), (Ee K mg W b σ H1 fun w H2 => AtE2 K mg σ H2 x w fun O ad ρ S d e => PostE K mg W ρ σ Q O ad H2 (liftO S ((deref ρ S d).bind fun d' => (deref ρ S e).bind fun e' => f d' e'))) → Ee K mg W b σ H1 fun y H2 => r x y H2 Q := by
    intro x H1 g
    obtain ⟨O, ad, S, ρ, s, fr, h⟩ := g
    refine ⟨O, ad, S, ρ, s, fr, ?_⟩
    have imp2 : ∀ (y : V) (H2 : Hp), (AtE2 K mg σ H2 x y fun O ad ρ S d e => PostE K mg W ρ σ Q O ad H2 (liftO S ((deref ρ S d).bind fun d' => (deref ρ S e).bind fun e' => f d' e'))) → r x y H2 Q := by
      rintro y H2 ⟨O, ad, S, ρ, d, e, s, fr, r1, r2, k⟩
      obtain ⟨z, ez⟩ := liftO_ok k
      obtain ⟨d', ed, ez⟩ := Option.bind_eq_some_iff.mp ez
      obtain ⟨e', ee, ez⟩ := Option.bind_eq_some_iff.mp ez
      have kv := hf O ad H2 x y d' e' z (deref_rep fr s r1 ed) (deref_rep fr s r2 ee) ez
      rw [ed] at k
      simp only [Option.bind_some, ee, ez, liftO] at k
      exact kv.go s k
    cases e : b ρ S with
    | ok d S1 => rw [e] at h; exact fun v O' ad' H' t z r => imp2 _ _ (h v O' ad' H' t z r)
    | er x fs S1 => rw [e] at h; exact h
    | no => rw [e] at h; exact h
  cases e : a ρ S with
  | ok d S1 => rw [e] at h; exact fun v O' ad' H' t z r => imp _ _ (h v O' ad' H' t z r)
  | er x fs S1 => rw [e] at h; exact h
  | no => rw [e] at h; exact h
/-- a reading's end is weakened -/
theorem Ee.imp {m : ME} {σ : L2.St} {H : Hp} {Q Q' : VK} (h : Ee K mg W m σ H Q) (k : ∀ v H, Q v H → Q' v H) : Ee K mg W m σ H Q' := by
  obtain ⟨O, ad, S, ρ, s, fr, h⟩ := h
  refine ⟨O, ad, S, ρ, s, fr, ?_⟩
  cases e : m ρ S with
  | ok d S1 => rw [e] at h; exact fun v O' ad' H' t z r => k _ _ (h v O' ad' H' t z r)
  | er x fs S1 => rw [e] at h; exact h
  | no => rw [e] at h; exact h
theorem Et.imp {m : MT} {σ : L2.St} {H : Hp} {Q Q' : Bool → Hp → Prop} (h : Et K mg W m σ H Q) (k : ∀ v H, Q v H → Q' v H) : Et K mg W m σ H Q' := by
  obtain ⟨O, ad, S, ρ, s, fr, h⟩ := h
  refine ⟨O, ad, S, ρ, s, fr, ?_⟩
  cases e : m ρ S with
  | ok d S1 => rw [e] at h; exact fun O' ad' H' t z => k _ _ (h O' ad' H' t z)
  | er x fs S1 => rw [e] at h; exact h
  | no => rw [e] at h; exact h
theorem Ea.imp {m : MA} {σ : L2.St} {H : Hp} {Q Q' : List V → Hp → Prop} (h : Ea K mg W m σ H Q) (k : ∀ v H, Q v H → Q' v H) : Ea K mg W m σ H Q' := by
  obtain ⟨O, ad, S, ρ, s, fr, h⟩ := h
  refine ⟨O, ad, S, ρ, s, fr, ?_⟩
  cases e : m ρ S with
  | ok d S1 => rw [e] at h; exact fun v O' ad' H' t z r => k _ _ (h v O' ad' H' t z r)
  | er x fs S1 => rw [e] at h; exact h
  | no => rw [e] at h; exact h
theorem w_op1 {r : V → Hp → VK → Prop} {f : D → Option D} {a : ME} (hf : UnP K mg r f) : ∀ σ H Q, Ee K mg W (e_op1 f a) σ H Q → tUn r (Ee K mg W a) σ H Q := by
  intro σ H Q q
  refine (bindE (f := fun ρ d S1 => liftO S1 ((deref ρ S1 d).bind f)) q).imp fun x H1 g => ?_
  obtain ⟨O, ad, S, ρ, d, s, fr, r1, k⟩ := g
  obtain ⟨z, ez⟩ := liftO_ok k
  obtain ⟨d', ed, ez⟩ := Option.bind_eq_some_iff.mp ez
  have kv := hf O ad H1 x d' z (deref_rep fr s r1 ed) ez
  rw [ed] at k
  simp only [Option.bind_some, ez, liftO] at k
  exact kv.go s k
end

/-! ### tests -/
def liftB (S : Sg) : D → Out Bool
  | .bl b => .ok b S
  | _ => .no
def t_e (m : ME) : MT := fun ρ S => (m ρ S).bind fun d S1 => liftB S1 d
def t_not (t : MT) : MT := fun ρ S => (t ρ S).bind fun b S1 => .ok (!b) S1
def t_and (t u : MT) : MT := fun ρ S => (t ρ S).bind fun b S1 => if b = true then u ρ S1 else .ok false S1
def t_or (t u : MT) : MT := fun ρ S => (t ρ S).bind fun b S1 => if b = true then .ok true S1 else u ρ S1
def e_if (t : MT) (a b : ME) : ME := fun ρ S => (t ρ S).bind fun c S1 => if c = true then a ρ S1 else b ρ S1
def e_not (m : ME) : ME := fun ρ S => (m ρ S).bind fun d S1 => (liftB S1 d).bind fun b S2 => .ok (.bl (!b)) S2
def e_and (a b : ME) : ME := fun ρ S => (a ρ S).bind fun d S1 => (liftB S1 d).bind fun c S2 => if c = true then b ρ S2 else .ok (.bl false) S2
def e_or (a b : ME) : ME := fun ρ S => (a ρ S).bind fun d S1 => (liftB S1 d).bind fun c S2 => if c = true then .ok (.bl true) S2 else b ρ S2
section
variable {K : Fg} {mg : Mg} {W : WX}
theorem liftB_of {ρ : Ro} {σ : L2.St} {O : Addr → Prop} {ad : List Addr} {H : Hp} {S : Sg} {d : D} {v : V} {Q : Bool → Hp → Prop} (r : RepR K mg O ad ρ σ H v d) (h : PostT K mg W ρ σ Q O ad H (liftB S d)) : ∃ b, d = .bl b ∧ v = .bl b := by
  cases d with
  | bl b =>
    have r' : Rep K mg (hide O H) ad v (.bl b) := r
    cases r'
    exact ⟨b, rfl, rfl⟩
  | _ => exact h.elim
theorem w_test {t : TE} {m : ME} (h : ∀ σ H Q, Ee K mg W m σ H Q → t σ H Q) : ∀ σ H Q, Et K mg W (t_e m) σ H Q → tTest t σ H Q := by
  intro σ H Q q
  refine h _ _ _ ((bindET (f := fun _ d S1 => liftB S1 d) q).imp fun v H1 g => ?_)
  obtain ⟨O, ad, S, ρ, d, s, fr, r1, k⟩ := g
  obtain ⟨b, rfl, rfl⟩ := liftB_of r1 k
  exact ⟨b, rfl, k O ad H1 (.refl _ _ _) s⟩
theorem w_testB {t : TE} {m : ME} (h : ∀ σ H Q, Ee K mg W m σ H Q → t σ H Q) : ∀ σ H Q, Et K mg W (t_e m) σ H Q → tB t σ H Q := w_test h
theorem w_not {t : MT} : ∀ σ H Q, Et K mg W (t_not t) σ H Q → tNot (Et K mg W t) σ H Q := by
  intro σ H Q q
  refine (bindTT (f := fun _ b S1 => .ok (!b) S1) q).imp fun b H1 g => ?_
  obtain ⟨O, ad, S, ρ, s, fr, k⟩ := g
  exact k O ad H1 (.refl _ _ _) s
theorem w_and {t u : MT} : ∀ σ H Q, Et K mg W (t_and t u) σ H Q → tAnd (Et K mg W t) (Et K mg W u) σ H Q := by
  intro σ H Q q
  refine (bindTT (f := fun ρ b S1 => if b = true then u ρ S1 else .ok false S1) q).imp fun b H1 g => ?_
  obtain ⟨O, ad, S, ρ, s, fr, k⟩ := g
  cases b with
  | true =>
    rw [if_pos rfl] at k ⊢
    exact ⟨O, ad, S, ρ, s, fr, k⟩
  | false =>
    rw [if_neg Bool.false_ne_true] at k ⊢
    exact k O ad H1 (.refl _ _ _) s
theorem w_or {t u : MT} : ∀ σ H Q, Et K mg W (t_or t u) σ H Q → tOr (Et K mg W t) (Et K mg W u) σ H Q := by
  intro σ H Q q
  refine (bindTT (f := fun ρ b S1 => if b = true then .ok true S1 else u ρ S1) q).imp fun b H1 g => ?_
  obtain ⟨O, ad, S, ρ, s, fr, k⟩ := g
  cases b with
  | true =>
    rw [if_pos rfl] at k ⊢
    exact k O ad H1 (.refl _ _ _) s
  | false =>
    rw [if_neg Bool.false_ne_true] at k ⊢
    exact ⟨O, ad, S, ρ, s, fr, k⟩
theorem w_ifE {t : MT} {a b : ME} : ∀ σ H Q, Ee K mg W (e_if t a b) σ H Q → tIf (Et K mg W t) (Ee K mg W a) (Ee K mg W b) σ H Q := by
  intro σ H Q q
  refine (bindTE (f := fun ρ c S1 => if c = true then a ρ S1 else b ρ S1) q).imp fun c H1 g => ?_
  obtain ⟨O, ad, S, ρ, s, fr, k⟩ := g
  cases c with
  | true =>
    rw [if_pos rfl] at k ⊢
    exact ⟨O, ad, S, ρ, s, fr, k⟩
  | false =>
    rw [if_neg Bool.false_ne_true] at k ⊢
    exact ⟨O, ad, S, ρ, s, fr, k⟩
theorem post_bl {ρ : Ro} {σ : L2.St} {O : Addr → Prop} {ad : List Addr} {H : Hp} {S : Sg} {Q : VK} {b : Bool} (s : Sto K mg O ad S H) (k : PostE K mg W ρ σ Q O ad H (.ok (.bl b) S)) : Q (.bl b) H :=
  k _ O ad H (.refl _ _ _) s (repR_of (d := .bl b) (.bl b))
theorem liftB_ofE {ρ : Ro} {σ : L2.St} {O : Addr → Prop} {ad : List Addr} {H : Hp} {S : Sg} {d : D} {v : V} {f : Bool → Sg → Out D} {Q : VK} (r : RepR K mg O ad ρ σ H v d) (h : PostE K mg W ρ σ Q O ad H ((liftB S d).bind f)) : ∃ b, d = .bl b ∧ v = .bl b := by
  cases d with
  | bl b =>
    have r' : Rep K mg (hide O H) ad v (.bl b) := r
    cases r'
    exact ⟨b, rfl, rfl⟩
  | _ => exact h.elim
theorem w_notE {m : ME} : ∀ σ H Q, Ee K mg W (e_not m) σ H Q → tNotV (Ee K mg W m) σ H Q := by
  intro σ H Q q
  refine (bindE (f := fun _ d S1 => (liftB S1 d).bind fun b S2 => .ok (.bl (!b)) S2) q).imp fun v H1 g => ?_
  obtain ⟨O, ad, S, ρ, d, s, fr, r1, k⟩ := g
  obtain ⟨b, rfl, rfl⟩ := liftB_ofE r1 k
  exact ⟨b, rfl, post_bl s k⟩
theorem w_andE {a b : ME} : ∀ σ H Q, Ee K mg W (e_and a b) σ H Q → tAndV (Ee K mg W a) (Ee K mg W b) σ H Q := by
  intro σ H Q q
  refine (bindE (f := fun ρ d S1 => (liftB S1 d).bind fun c S2 => if c = true then b ρ S2 else .ok (.bl false) S2) q).imp fun v H1 g => ?_
  obtain ⟨O, ad, S, ρ, d, s, fr, r1, k⟩ := g
  obtain ⟨c, rfl, rfl⟩ := liftB_ofE r1 k
  refine ⟨c, rfl, ?_⟩
  cases c with
  | true => exact ⟨O, ad, S, ρ, s, fr, k⟩
  | false => exact post_bl s k
theorem w_orE {a b : ME} : ∀ σ H Q, Ee K mg W (e_or a b) σ H Q → tOrV (Ee K mg W a) (Ee K mg W b) σ H Q := by
  intro σ H Q q
  refine (bindE (f := fun ρ d S1 => (liftB S1 d).bind fun c S2 => if c = true then .ok (.bl true) S2 else b ρ S2) q).imp fun v H1 g => ?_
  obtain ⟨O, ad, S, ρ, d, s, fr, r1, k⟩ := g
  obtain ⟨c, rfl, rfl⟩ := liftB_ofE r1 k
  refine ⟨c, rfl, ?_⟩
  cases c with
  | true => exact post_bl s k
  | false => exact ⟨O, ad, S, ρ, s, fr, k⟩
end
section
variable {X : Cx} {W : WX} {a b c e : Expr} {pos : Pos} {op : CmpOp} {ta tb : ME} {tm um : MT}
/-- a comparison by its rule -/
theorem E_cmp {r : R2} {f : D → D → Option D} (ho : OpR X (compareOp op) r) (hf : OpP X.g X.mg r f) (hm : behindInMarks op b = false) (ha : PE X a (Ee X.g X.mg W ta)) (hb : PE X b (Ee X.g X.mg W tb)) : PE X (.Compare a [op] [b] pos) (Ee X.g X.mg W (e_op2 f ta tb)) :=
  pe_of (pe_cmpR ho ha hb hm) (w_op2 hf)
theorem T_cmp {r : R2} {f : D → D → Option D} (ho : OpR X (compareOp op) r) (hf : OpP X.g X.mg r f) (hm : behindInMarks op b = false) (ha : PE X a (Ee X.g X.mg W ta)) (hb : PE X b (Ee X.g X.mg W tb)) : PT X (.Compare a [op] [b] pos) (Et X.g X.mg W (t_e (e_op2 f ta tb))) :=
  pt_of (pt_cmpR ho ha hb hm) (w_test (w_op2 hf))
theorem E_bin {o : Operator} {r : R2} {f : D → D → Option D} (ho : OpR X (binaryOp o) r) (hf : OpP X.g X.mg r f) (ha : PE X a (Ee X.g X.mg W ta)) (hb : PE X b (Ee X.g X.mg W tb)) : PE X (.BinOp a o b pos) (Ee X.g X.mg W (e_op2 f ta tb)) :=
  pe_of (pe_op ho ha hb) (w_op2 hf)
theorem E_ix {r : R2} {f : D → D → Option D} (hr : IxR X r) (hf : OpP X.g X.mg r f) (hs : PlainIx b) (ha : PE X a (Ee X.g X.mg W ta)) (hb : PE X b (Ee X.g X.mg W tb)) : PE X (.Subscript a b pos) (Ee X.g X.mg W (e_op2 f ta tb)) :=
  pe_of (pe_ix hr ha hb hs) (w_op2 hf)
theorem T_val {m : ME} (h : PE X e (Ee X.g X.mg W m)) (he : ∀ whole, isTrue e X.env whole = (do let v ← whole; standAt e.pos; holding [v] (truthy v)) := by intro _; rfl) : PT X e (Et X.g X.mg W (t_e m)) :=
  pt_of (pt_val h he) (w_testB fun _ _ _ q => q)
theorem T_not (h : PT X a (Et X.g X.mg W tm)) : PT X (.UnaryOp .Not a pos) (Et X.g X.mg W (t_not tm)) := pt_of (pt_not h) w_not
theorem W_and {rest : List Expr} (ha : PT X a (Et X.g X.mg W tm)) (hb : PW X (.BoolOp .And (b :: rest) pos) (Et X.g X.mg W um)) : PW X (.BoolOp .And (a :: b :: rest) pos) (Et X.g X.mg W (t_and tm um)) := pw_of (pw_and ha hb) w_and
theorem W_or {rest : List Expr} (ha : PT X a (Et X.g X.mg W tm)) (hb : PW X (.BoolOp .Or (b :: rest) pos) (Et X.g X.mg W um)) : PW X (.BoolOp .Or (a :: b :: rest) pos) (Et X.g X.mg W (t_or tm um)) := pw_of (pw_or ha hb) w_or
theorem E_if (hc : PT X c (Et X.g X.mg W tm)) (ha : PE X a (Ee X.g X.mg W ta)) (hb : PE X b (Ee X.g X.mg W tb)) : PE X (.IfExp c a b pos) (Ee X.g X.mg W (e_if tm ta tb)) := pe_of (pe_ifExp hc ha hb) w_ifE
theorem E_not (ha : PE X a (Ee X.g X.mg W ta)) : PE X (.UnaryOp .Not a pos) (Ee X.g X.mg W (e_not ta)) := pe_of (pe_not ha) w_notE
theorem E_and {rest : List Expr} (ha : PE X a (Ee X.g X.mg W ta)) (hb : PE X (.BoolOp .And (b :: rest) pos) (Ee X.g X.mg W tb)) : PE X (.BoolOp .And (a :: b :: rest) pos) (Ee X.g X.mg W (e_and ta tb)) := pe_of (pe_and ha hb) w_andE
theorem E_or {rest : List Expr} (ha : PE X a (Ee X.g X.mg W ta)) (hb : PE X (.BoolOp .Or (b :: rest) pos) (Ee X.g X.mg W tb)) : PE X (.BoolOp .Or (a :: b :: rest) pos) (Ee X.g X.mg W (e_or ta tb)) := pe_of (pe_or ha hb) w_orE
end

/-! ### arguments -/
def a_nil : MA := fun _ S => .ok [] S
def a_cons (m : ME) (r : MA) : MA := fun ρ S => (m ρ S).bind fun d S1 => (r ρ S1).bind fun ds S2 => .ok (d :: ds) S2
section
variable {K : Fg} {mg : Mg} {W : WX}
theorem PairedR.step {O O1 : Addr → Prop} {ad ad1 : List Addr} {ρ : Ro} {σ : L2.St} {H H1 : Hp} (hid : ∀ a, a ∈ ad → O a) (s : Stp O ad H O1 ad1 H1) : ∀ {vs : List V} {ds : List D}, Paired (RepR K mg O ad ρ σ H) vs ds → Paired (RepR K mg O1 ad1 ρ σ H1) vs ds
  | _, _, .nil => .nil
  | _, _, .cons r t => .cons (r.step hid s) (PairedR.step hid s t)
theorem w_acons {m : ME} {r : MA} : ∀ σ H Q, Ea K mg W (a_cons m r) σ H Q → tCons (Ee K mg W m) (Ea K mg W r) σ H Q := by
  intro σ H Q q
  refine (bindEA (f := fun ρ d S1 => (r ρ S1).bind fun ds S2 => .ok (d :: ds) S2) q).imp fun v H1 g => ?_
  obtain ⟨O, ad, S, ρ, d, s, fr, r1, k⟩ := g
  refine ⟨O, ad, S, ρ, s, fr, ?_⟩
  cases e : r ρ S with
  | ok ds S1 =>
    rw [e] at k
    exact fun vs O' ad' H' t z rs => k (v :: vs) O' ad' H' t z (.cons (r1.step s.hid t) rs)
  | er x fs S1 => rw [e] at k; exact k
  | no => rw [e] at k; exact k
end
section
variable {X : Cx} {W : WX}
theorem A_nil : PA X [] (Ea X.g X.mg W a_nil) := pa_of pa_nil fun σ H Q q => by
  obtain ⟨O, ad, S, ρ, s, fr, k⟩ := q
  exact k [] O ad H (.refl _ _ _) s .nil
theorem A_cons {e : Expr} {es : List Expr} {m : ME} {r : MA} (he : PE X e (Ee X.g X.mg W m)) (hr : PA X es (Ea X.g X.mg W r)) (hs : starEach (e :: es) X.env = (false, eval e X.env) :: starEach es X.env := by rfl) :
    PA X (e :: es) (Ea X.g X.mg W (a_cons m r)) := pa_of (pa_cons he hr hs) w_acons
theorem K_nil : PK X [] (Ea X.g X.mg W a_nil) := ⟨fun pos pins s σ H Q I q => pk_nil.run pos pins s σ H Q I (by
  obtain ⟨O, ad, S, ρ, s, fr, k⟩ := q
  exact k [] O ad H (.refl _ _ _) s .nil)⟩
theorem K_cons {e : Expr} {kws : List Keyword} {nm : Option Str} {kpos : Pos} {m : ME} {r : MA} (he : PE X e (Ee X.g X.mg W m)) (hr : PK X kws (Ea X.g X.mg W r)) : PK X (⟨nm, e, kpos⟩ :: kws) (Ea X.g X.mg W (a_cons m r)) :=
  ⟨fun pos pins s σ H Q I q => (pk_cons he hr).run pos pins s σ H Q I (w_acons _ _ _ q)⟩
end
end Gd

/-! Gd, part 3: new things, statements, defs, calls. -/
namespace Gd
open PySem L2

/-! ### a new thing -/
section
variable (K : Fg) (mg : Mg)
def PostF (W : WX) (ρ : Ro) (σ : L2.St) (Q : VK) (O : Addr → Prop) (ad : List Addr) (H : Hp) : Out D → Prop
  | .ok d S' => ∀ p O' ad' H', Stp O ad H O' ad' H' → Sto K mg O' ad' S' H' → O' p → p ∉ ad' → H p = none → MRep K mg (hide O' H') ad' H' p d → Q (.ref p) H'
  | .er x fs S' => ∀ cls dd O' ad' H', Stp O ad H O' ad' H' → Sto K mg O' ad' S' H' → XRep K mg O' ad' H' cls dd x fs → W cls dd σ H'
  | .no => False
def Ef (W : WX) (m : ME) : TE := fun σ H Q => ∃ O ad S ρ, Sto K mg O ad S H ∧ Fre K mg O ad ρ σ H ∧ PostF K mg W ρ σ Q O ad H (m ρ S)
end
def e_sh (m : ME) : ME := fun ρ S => (m ρ S).bind fun d S1 => .ok (.obj S1.length) (S1 ++ [d])
section
variable {K : Fg} {mg : Mg} {W : WX} {O O1 : Addr → Prop} {ad ad1 : List Addr} {S S1 : Sg} {ρ : Ro} {σ : L2.St} {H H1 : Hp}
theorem PostF.rebase {Q : VK} {o : Out D} (h : PostF K mg W ρ σ Q O ad H o) (s : Stp O ad H O1 ad1 H1) (hid : ∀ a, a ∈ ad → O a) (dom : ∀ a, O1 a → ∃ o, H1 a = some o) : PostF K mg W ρ σ Q O1 ad1 H1 o := by
  cases o with
  | ok d S' =>
    refine fun p O' ad' H' t z h1 h2 h3 r => h p O' ad' H' (s.trans t hid dom) z h1 h2 ?_ r
    cases e : H p with
    | none => rfl
    | some o =>
      by_cases m : p ∈ ad
      · exact absurd (t.mem (s.mem m)) h2
      · rw [s.fr p o e m] at h3; cases h3
  | er x fs S' => exact fun cls dd O' ad' H' t z r => h cls dd O' ad' H' (s.trans t hid dom) z r
  | no => exact h
/-- the store does not hang on a young thing being seen or not -/
theorem Sto.seen (s : Sto K mg O ad S H) {p : Addr} (hp : p ∉ ad) : Sto K mg (fun a => O a ∧ a ≠ p) ad S H :=
  ⟨s.len, s.nd, fun a h => ⟨s.hid a h, fun e => hp (e ▸ h)⟩, fun a h => s.dom a h.1, fun n d h => by
    obtain ⟨a, h1, h2⟩ := s.ob n d h
    exact ⟨a, h1, h2.mono (fun b o e => hide_of (fun q => (of_hide e).1 q.1) (of_hide e).2) (fun _ _ e => e) fun _ e => e⟩⟩
theorem hide_le {O O' : Addr → Prop} {H : Hp} (h : ∀ a, O' a → O a) : ∀ b o, hide O H b = some o → hide O' H b = some o := fun b o e => hide_of (fun q => (of_hide e).1 (h b q)) (of_hide e).2
theorem w_fz {m : ME} : ∀ σ H Q, Ee K mg W m σ H Q → Ef K mg W m σ H Q := by
  rintro σ H Q ⟨O, ad, S, ρ, s, fr, h⟩
  refine ⟨O, ad, S, ρ, s, fr, ?_⟩
  cases e : m ρ S with
  | ok d S1 =>
    rw [e] at h
    intro p O' ad' H' t z h1 h2 h3 r
    have np : ∀ a, O a → a ≠ p := fun a ha q => by
      obtain ⟨o, ho⟩ := s.dom a ha
      rw [q, h3] at ho; cases ho
    refine h (.ref p) (fun a => O' a ∧ a ≠ p) ad' H' ⟨t.fr, fun a ha => ⟨t.op a ha, np a ha⟩, fun a ha => t.oq a ha.1, t.ap⟩ (z.seen h2) (repR_of ?_)
    have r' : MRep K mg (hide (fun a => O' a ∧ a ≠ p) H') ad' H' p d := r.mono (hide_le fun a q => q.1) (fun _ _ e => e) fun _ e => e
    exact r'.rep fun o e => hide_of (fun q => q.2 rfl) e
  | er x fs S1 => rw [e] at h; exact h
  | no => rw [e] at h; exact h
theorem w_sh {m : ME} : ∀ σ H Q, Ee K mg W (e_sh m) σ H Q → Ef K mg W m σ H Q := by
  rintro σ H Q ⟨O, ad, S, ρ, s, fr, h⟩
  refine ⟨O, ad, S, ρ, s, fr, ?_⟩
  unfold e_sh at h
  cases e : m ρ S with
  | ok d S1 =>
    rw [e] at h
    intro p O' ad' H' t z h1 h2 h3 r
    refine h (.ref p) O' (ad' ++ [p]) H' ⟨t.fr, t.op, t.oq, ?_⟩ ⟨by rw [List.length_append, List.length_append, z.len] <;> rfl, ?_, ?_, z.dom, ?_⟩ (repR_of (.obj ?_))
    · obtain ⟨m1, e1, f1⟩ := t.ap
      refine ⟨m1 ++ [p], by rw [e1, List.append_assoc], fun a ha => ?_⟩
      rcases List.mem_append.mp ha with q | q
      · exact f1 a q
      · rw [List.mem_singleton.mp q]; exact h3
    · refine List.nodup_append.mpr ⟨z.nd, by simp, fun a ha b hb q => ?_⟩
      rw [List.mem_singleton.mp hb] at q
      exact h2 (q ▸ ha)
    · intro a ha
      rcases List.mem_append.mp ha with q | q
      · exact z.hid a q
      · rw [List.mem_singleton.mp q]; exact h1
    · intro n d' hn
      by_cases hl : n < S1.length
      · rw [List.getElem?_append_left hl] at hn
        obtain ⟨a, q1, q2⟩ := z.ob n d' hn
        exact ⟨a, pre_get n a q1, q2.mono (fun _ _ e => e) pre_get fun _ e => e⟩
      · have hb : n < (S1 ++ [d]).length := (List.getElem?_eq_some_iff.mp hn).1
        rw [List.length_append] at hb
        have hb' : n < S1.length + 1 := hb
        have en : n = S1.length := by omega
        subst en
        rw [List.getElem?_append_right (Nat.le_refl _), Nat.sub_self] at hn
        cases hn
        refine ⟨p, ?_, r.mono (fun _ _ e => e) pre_get fun _ e => e⟩
        rw [← z.len, List.getElem?_append_right (Nat.le_refl _), Nat.sub_self]
        rfl
    · show (ad' ++ [p])[S1.length]? = some p
      rw [← z.len, List.getElem?_append_right (Nat.le_refl _), Nat.sub_self]
      rfl
  | er x fs S1 => rw [e] at h; exact h
  | no => rw [e] at h; exact h
/-- what stands at p is new: owned by nobody yet -/
theorem new_own {o : HO} {d : D} {p : Addr} (s : Sto K mg O ad S H) (hp : H p = none) (r : MRep K mg (hide O H) ad (upd H p o) p d) :
    Stp O ad H (fun a => O a ∨ a = p) ad (upd H p o) ∧ Sto K mg (fun a => O a ∨ a = p) ad S (upd H p o) ∧ p ∉ ad ∧ MRep K mg (hide (fun a => O a ∨ a = p) (upd H p o)) ad (upd H p o) p d := by
  have np : p ∉ ad := fun m => by
    obtain ⟨o', e⟩ := s.dom p (s.hid p m)
    rw [hp] at e; cases e
  have k : ∀ b o', H b = some o' → upd H p o b = some o' := fun b o' e => by rw [upd_ne (ne_of_none e hp)]; exact e
  have hk : ∀ b o', hide O H b = some o' → hide (fun a => O a ∨ a = p) (upd H p o) b = some o' := fun b o' e => by
    obtain ⟨n, e⟩ := of_hide e
    exact hide_of (fun q => q.elim n (ne_of_none e hp)) (k b o' e)
  refine ⟨⟨fun b o' e _ => k b o' e, fun a h => .inl h, fun a h => h.elim .inl fun e => .inr (e ▸ hp), [], by simp, fun _ h => nomatch h⟩, ⟨s.len, s.nd, fun a h => .inl (s.hid a h), fun a h => ?_, fun n d' h => ?_⟩, np, r.mono hk (fun _ _ e => e) fun _ e => e⟩
  · rcases h with h | h
    · obtain ⟨o', e⟩ := s.dom a h
      exact ⟨o', k a o' e⟩
    · rw [h]; exact ⟨o, upd_same⟩
  · obtain ⟨a, h1, h2⟩ := s.ob n d' h
    exact ⟨a, h1, h2.mono hk (fun _ _ e => e) fun o' e => k a o' e⟩
/-- what stands at p is new and never changes -/
theorem new_still {o : HO} {p : Addr} (s : Sto K mg O ad S H) (hp : H p = none) : Stp O ad H O ad (upd H p o) ∧ Sto K mg O ad S (upd H p o) ∧ (∀ b o', hide O H b = some o' → hide O (upd H p o) b = some o') ∧ hide O (upd H p o) p = some o := by
  have k : ∀ b o', H b = some o' → upd H p o b = some o' := fun b o' e => by rw [upd_ne (ne_of_none e hp)]; exact e
  have hk : ∀ b o', hide O H b = some o' → hide O (upd H p o) b = some o' := fun b o' e => hide_of (of_hide e).1 (k b o' (of_hide e).2)
  have np : ¬ O p := fun q => by
    obtain ⟨o', e⟩ := s.dom p q
    rw [hp] at e; cases e
  refine ⟨⟨fun b o' e _ => k b o' e, fun _ h => h, fun _ h => .inl h, [], by simp, fun _ h => nomatch h⟩, ⟨s.len, s.nd, s.hid, fun a h => ?_, fun n d' h => ?_⟩, hk, hide_of np upd_same⟩
  · obtain ⟨o', e⟩ := s.dom a h
    exact ⟨o', k a o' e⟩
  · obtain ⟨a, h1, h2⟩ := s.ob n d' h
    exact ⟨a, h1, h2.mono hk (fun _ _ e => e) fun o' e => k a o' e⟩
theorem bindAE {m : MA} {f : Ro → List D → Sg → Out D} {Q : VK} (h : Ee K mg W (fun ρ S => (m ρ S).bind (f ρ)) σ H Q) :
    Ea K mg W m σ H fun vs H1 => ∃ O ad S ρ ds, Sto K mg O ad S H1 ∧ Fre K mg O ad ρ σ H1 ∧ Paired (RepR K mg O ad ρ σ H1) vs ds ∧ PostE K mg W ρ σ Q O ad H1 (f ρ ds S) := by
  obtain ⟨O, ad, S, ρ, s, fr, h⟩ := h
  refine ⟨O, ad, S, ρ, s, fr, ?_⟩
  dsimp only at h
  cases e : m ρ S with
  | ok d S1 =>
    rw [e] at h
    exact fun v O' ad' H' t z r => ⟨O', ad', S1, ρ, d, z, fr.step s.hid t, r, PostE.rebase h t s.hid z.dom⟩
  | er x fs S1 => rw [e] at h; exact h
  | no => rw [e] at h; exact h
theorem bindAF {m : MA} {f : Ro → List D → Sg → Out D} {Q : VK} (h : Ef K mg W (fun ρ S => (m ρ S).bind (f ρ)) σ H Q) :
    Ea K mg W m σ H fun vs H1 => ∃ O ad S ρ ds, Sto K mg O ad S H1 ∧ Fre K mg O ad ρ σ H1 ∧ Paired (RepR K mg O ad ρ σ H1) vs ds ∧ PostF K mg W ρ σ Q O ad H1 (f ρ ds S) := by
  obtain ⟨O, ad, S, ρ, s, fr, h⟩ := h
  refine ⟨O, ad, S, ρ, s, fr, ?_⟩
  dsimp only at h
  cases e : m ρ S with
  | ok d S1 =>
    rw [e] at h
    exact fun v O' ad' H' t z r => ⟨O', ad', S1, ρ, d, z, fr.step s.hid t, r, PostF.rebase h t s.hid z.dom⟩
  | er x fs S1 => rw [e] at h; exact h
  | no => rw [e] at h; exact h
theorem bindEF {m : ME} {f : Ro → D → Sg → Out D} {Q : VK} (h : Ef K mg W (fun ρ S => (m ρ S).bind (f ρ)) σ H Q) :
    Ee K mg W m σ H fun v H1 => AtE K mg σ H1 v fun O ad ρ S d => PostF K mg W ρ σ Q O ad H1 (f ρ d S) := by
  obtain ⟨O, ad, S, ρ, s, fr, h⟩ := h
  refine ⟨O, ad, S, ρ, s, fr, ?_⟩
  dsimp only at h
  cases e : m ρ S with
  | ok d S1 =>
    rw [e] at h
    exact fun v O' ad' H' t z r => ⟨O', ad', S1, ρ, d, z, fr.step s.hid t, r, PostF.rebase h t s.hid z.dom⟩
  | er x fs S1 => rw [e] at h; exact h
  | no => rw [e] at h; exact h
theorem bind2F {m n : ME} {f : Ro → D → D → Sg → Out D} {Q : VK} (h : Ef K mg W (fun ρ S => (m ρ S).bind fun d S1 => (n ρ S1).bind fun e S2 => f ρ d e S2) σ H Q) :
    Ee K mg W m σ H fun v H1 => Ee K mg W n σ H1 fun w H2 => AtE2 K mg σ H2 v w fun O ad ρ S d e => PostF K mg W ρ σ Q O ad H2 (f ρ d e S) := by
  obtain ⟨O, ad, S, ρ, s, fr, h⟩ := h
  refine ⟨O, ad, S, ρ, s, fr, ?_⟩
  dsimp only at h
  cases e : m ρ S with
  | ok d S1 =>
    rw [e] at h
    intro v O1 ad1 H1 t z r
    have h1 : PostF K mg W ρ σ Q O1 ad1 H1 ((n ρ S1).bind fun e S2 => f ρ d e S2) := PostF.rebase h t s.hid z.dom
    have f1 := fr.step s.hid t
    refine ⟨O1, ad1, S1, ρ, z, f1, ?_⟩
    cases e2 : n ρ S1 with
    | ok d2 S2 =>
      rw [e2] at h1
      exact fun w O2 ad2 H2 t2 z2 r2 => ⟨O2, ad2, S2, ρ, d, d2, z2, f1.step z.hid t2, r.step z.hid t2, r2, PostF.rebase h1 t2 z.hid z2.dom⟩
    | er x fs S2 => rw [e2] at h1; exact h1
    | no => rw [e2] at h1; exact h1
  | er x fs S1 => rw [e] at h; exact h
  | no => rw [e] at h; exact h
end

/-! ### displays -/
def noLoc (ds : List D) : Bool := ds.all fun d => !isLoc d
def f_lst (r : MA) : ME := fun ρ S => (r ρ S).bind fun ds S1 => if noLoc ds = true ∧ ds.length ≤ 100000 then .ok (.lst ds) S1 else .no
def e_tup (r : MA) : ME := fun ρ S => (r ρ S).bind fun ds S1 => if noLoc ds = true ∧ ds.length ≤ 100000 then .ok (.tup ds) S1 else .no
theorem sz5 {n : Nat} (h : n ≤ 100000) : n ≤ sizeLine := Nat.le_trans h (by decide)
section
variable {K : Fg} {mg : Mg} {W : WX} {O O1 : Addr → Prop} {ad ad1 : List Addr} {S S1 : Sg} {ρ : Ro} {σ : L2.St} {H H1 : Hp}
theorem reps_of : ∀ {vs : List V} {ds : List D}, Paired (RepR K mg O ad ρ σ H) vs ds → noLoc ds = true → Reps K mg (hide O H) ad vs ds
  | _, _, .nil, _ => .nil
  | _, _, .cons r t, n => by
    have n' := List.all_eq_true.mp n
    refine .cons (r.rep ?_) (reps_of t (List.all_eq_true.mpr fun x hx => n' x (List.mem_cons_of_mem _ hx)))
    have := n' _ List.mem_cons_self
    simpa using this
theorem post_if {α : Type} {c : Prop} [Decidable c] {a : Out α} {P : Out α → Prop} (hn : ¬ P .no) (h : P (if c then a else .no)) : c ∧ P a := by
  by_cases hc : c
  · rw [if_pos hc] at h; exact ⟨hc, h⟩
  · rw [if_neg hc] at h; exact (hn h).elim
theorem w_lst {r : MA} : ∀ σ H Q, Ef K mg W (f_lst r) σ H Q → tLst (Ea K mg W r) σ H Q := by
  intro σ H Q q
  refine (bindAF (f := fun _ ds S1 => if noLoc ds = true ∧ ds.length ≤ 100000 then .ok (.lst ds) S1 else .no) q).imp fun vs H1 g => ?_
  obtain ⟨O, ad, S, ρ, ds, s, fr, r1, k⟩ := g
  obtain ⟨⟨c1, c2⟩, k⟩ := post_if (P := PostF K mg W ρ σ Q O ad H1) (fun z => z) k
  have rs := reps_of r1 c1
  refine ⟨by rw [rs.length]; exact sz5 c2, fun p hp => ?_⟩
  obtain ⟨t, z, np, mr⟩ := new_own (o := .lst vs) (d := .lst ds) s hp ⟨vs, upd_same, rs⟩
  exact k p _ ad _ t z (.inr rfl) np hp mr
theorem w_tup {r : MA} : ∀ σ H Q, Ee K mg W (e_tup r) σ H Q → tTup (Ea K mg W r) σ H Q := by
  intro σ H Q q
  refine (bindAE (f := fun _ ds S1 => if noLoc ds = true ∧ ds.length ≤ 100000 then .ok (.tup ds) S1 else .no) q).imp fun vs H1 g => ?_
  obtain ⟨O, ad, S, ρ, ds, s, fr, r1, k⟩ := g
  obtain ⟨⟨c1, c2⟩, k⟩ := post_if (P := PostE K mg W ρ σ Q O ad H1) (fun z => z) k
  have rs := reps_of r1 c1
  refine ⟨by rw [rs.length]; exact sz5 c2, fun p hp => ?_⟩
  obtain ⟨t, z, hk, e⟩ := new_still (o := .tup vs) s hp
  exact k _ _ ad _ t z (repR_of (.tup (.of e) (rs.mono hk fun _ _ e => e)))
end
section
variable {X : Cx} {W : WX}
theorem E_fz {e : Expr} {m : ME} (h : PE X e (Ef X.g X.mg W m)) : PE X e (Ee X.g X.mg W m) := pe_of h w_fz
theorem E_sh {e : Expr} {m : ME} (h : PE X e (Ef X.g X.mg W m)) : PE X e (Ee X.g X.mg W (e_sh m)) := pe_of h w_sh
theorem F_lst {es : List Expr} {pos : Pos} {r : MA} (h : PA X es (Ea X.g X.mg W r)) : PE X (.List es pos) (Ef X.g X.mg W (f_lst r)) := pe_of (pe_lst h) w_lst
theorem E_tup {es : List Expr} {x1} {pos : Pos} {r : MA} (h : PA X es (Ea X.g X.mg W r)) : PE X (.Tuple es x1 pos) (Ee X.g X.mg W (e_tup r)) := pe_of (pe_tup h) w_tup
end

/-! ### statements -/
def s_e (m : ME) (f : D → MS) : MS := fun ρ S => match m ρ S with
  | .ok d S1 => f d ρ S1
  | .er x fs S1 => .ex x fs ρ S1
  | .no => .no
def s_t (t : MT) (f : Bool → MS) : MS := fun ρ S => match t ρ S with
  | .ok b S1 => f b ρ S1
  | .er x fs S1 => .ex x fs ρ S1
  | .no => .no
def s_nx : MS := fun ρ S => .nx ρ S
def s_seq (a b : MS) : MS := fun ρ S => match a ρ S with
  | .nx ρ1 S1 => b ρ1 S1
  | o => o
def s_if (t : MT) (a b : MS) : MS := s_t t fun c => if c = true then a else b
def s_set (i : Nat) (m : ME) : MS := s_e m fun d ρ S => if isLoc d = true then .no else .nx (ρ.set i (.va d)) S
def s_own (i : Nat) (m : ME) : MS := s_e m fun d ρ S => .nx (ρ.set i (.ow d)) S
def s_do (m : ME) : MS := s_e m fun _ ρ S => .nx ρ S
def s_ret (m : ME) : MS := s_e m fun d ρ S => match d with
  | .loc i => (match deref ρ S (.loc i) with
    | some e => .rt e S
    | none => .no)
  | d => .rt d S
def s_retN : MS := fun _ S => .rt .non S
def s_bk : MS := fun ρ S => .bk ρ S
def s_ct : MS := fun ρ S => .ct ρ S
section
variable {K : Fg} {mg : Mg} {W : WX} {c : Ctx} {O O1 : Addr → Prop} {ad ad1 : List Addr} {S S1 : Sg} {ρ : Ro} {σ : L2.St} {H H1 : Hp} {Dn : Ends}
theorem PostS.rebase {o : OS} (h : PostS K mg W c Dn O ad H o) (g : Grow O ad H O1 ad1 H1) : PostS K mg W c Dn O1 ad1 H1 o := by
  cases o with
  | nx ρ S => exact fun σ' O' ad' H' t z => h σ' O' ad' H' (g.trans t) z
  | bk ρ S => exact fun σ' O' ad' H' t z => h σ' O' ad' H' (g.trans t) z
  | ct ρ S => exact fun σ' O' ad' H' t z => h σ' O' ad' H' (g.trans t) z
  | rt d S => exact h
  | ex x fs ρ S => exact fun cls dd σ' O' ad' H' t z r => h cls dd σ' O' ad' H' (g.trans t) z r
  | no => exact h
/-- the state behind an expression -/
def AtS (K : Fg) (mg : Mg) (σ : L2.St) (H : Hp) (R : Ctx → (Addr → Prop) → List Addr → Sg → Ro → Prop) : Prop := ∃ c O ad S ρ, Sta K mg c O ad S ρ σ H ∧ R c O ad S ρ
theorem bindS {m : ME} {f : D → MS} (h : Ss K mg W (s_e m f) Dn σ H) :
    Ee K mg W m σ H fun v H1 => AtS K mg σ H1 fun c O ad S ρ => ∃ d, RepR K mg O ad ρ σ H1 v d ∧ PostS K mg W c Dn O ad H1 (f d ρ S) := by
  obtain ⟨c, O, ad, S, ρ, z, h⟩ := h
  refine ⟨O, ad, S, ρ, z.sto, z.fre, ?_⟩
  unfold s_e at h
  cases e : m ρ S with
  | ok d S1 =>
    simp only [e] at h
    exact fun v O' ad' H' t z' r => ⟨c, O', ad', S1, ρ, z.step t z', d, r, h.rebase (t.grow z.sto.hid)⟩
  | er x fs S1 =>
    simp only [e] at h
    exact fun cls dd O' ad' H' t z' r => h cls dd σ O' ad' H' (t.grow z.sto.hid) (z.step t z') r
  | no => simp only [e] at h; exact h
theorem bindST {m : MT} {f : Bool → MS} (h : Ss K mg W (s_t m f) Dn σ H) :
    Et K mg W m σ H fun b H1 => AtS K mg σ H1 fun c O ad S ρ => PostS K mg W c Dn O ad H1 (f b ρ S) := by
  obtain ⟨c, O, ad, S, ρ, z, h⟩ := h
  refine ⟨O, ad, S, ρ, z.sto, z.fre, ?_⟩
  unfold s_t at h
  cases e : m ρ S with
  | ok d S1 =>
    simp only [e] at h
    exact fun O' ad' H' t z' => ⟨c, O', ad', S1, ρ, z.step t z', h.rebase (t.grow z.sto.hid)⟩
  | er x fs S1 =>
    simp only [e] at h
    exact fun cls dd O' ad' H' t z' r => h cls dd σ O' ad' H' (t.grow z.sto.hid) (z.step t z') r
  | no => simp only [e] at h; exact h
/-- a slot is given a value -/
theorem get_set {α : Type} {l : List α} {i j : Nat} {x y : α} (h : (l.set i x)[j]? = some y) : (i = j ∧ y = x ∧ j < l.length) ∨ (i ≠ j ∧ l[j]? = some y) := by
  by_cases e : i = j
  · subst e
    by_cases hl : i < l.length
    · rw [List.getElem?_set_self hl] at h
      cases h
      exact .inl ⟨rfl, rfl, hl⟩
    · rw [List.getElem?_eq_none (by rw [List.length_set]; omega)] at h; cases h
  · rw [List.getElem?_set_ne e] at h
    exact .inr ⟨e, h⟩
theorem Fre.set_va (f : Fre K mg O ad ρ σ H) {i : Nat} {v : V} {d : D} (r : Rep K mg (hide O H) ad v d) : Fre K mg O ad (ρ.set i (.va d)) (σ.set i (some v)) H := by
  refine ⟨by rw [List.length_set, List.length_set, f.len], fun j e h => ?_, fun j e h => ?_, fun j k e e' a n h1 h2 h3 => ?_⟩
  · rcases get_set h with ⟨rfl, e1, hl⟩ | ⟨n, h⟩
    · cases e1
      exact ⟨v, List.getElem?_set_self (by rw [f.len]; exact hl), r⟩
    · rw [List.getElem?_set_ne n]
      exact f.va j e h
  · rcases get_set h with ⟨rfl, e1, hl⟩ | ⟨n, h⟩
    · cases e1
    · rw [List.getElem?_set_ne n]
      exact f.ow j e h
  · rcases get_set h1 with ⟨rfl, e1, _⟩ | ⟨n1, h1⟩
    · cases e1
    · rcases get_set h2 with ⟨rfl, e1, _⟩ | ⟨n2, h2⟩
      · cases e1
      · rw [List.getElem?_set_ne n1] at h3
        rw [List.getElem?_set_ne n2]
        exact f.ap j k e e' a n h1 h2 h3
theorem Sta.set_va (z : Sta K mg c O ad S ρ σ H) {i : Nat} {v : V} {d : D} (r : Rep K mg (hide O H) ad v d) : Sta K mg c O ad S (ρ.set i (.va d)) (σ.set i (some v)) H :=
  ⟨z.sto, z.fre.set_va r, z.cst, fun j e a h1 h2 => by
    rcases get_set h1 with ⟨rfl, e1, _⟩ | ⟨n1, h1⟩
    · cases e1
    · rw [List.getElem?_set_ne n1] at h2
      exact z.owf j e a h1 h2⟩
theorem Sta.set_ow (z : Sta K mg c O ad S ρ σ H) {i : Nat} {p : Addr} {d : D} (h0 : c.H0 p = none) (hO : O p) (np : p ∉ ad) (r : MRep K mg (hide O H) ad H p d) (un : ∀ (j : Nat) e, ρ[j]? = some (.ow e) → j ≠ i → σ[j]? ≠ some (some (.ref p))) :
    Sta K mg c O ad S (ρ.set i (.ow d)) (σ.set i (some (.ref p))) H := by
  have f := z.fre
  refine ⟨z.sto, ⟨by rw [List.length_set, List.length_set, f.len], fun j e h => ?_, fun j e h => ?_, fun j k e e' a n h1 h2 h3 => ?_⟩, z.cst, fun j e a h1 h2 => ?_⟩
  · rcases get_set h with ⟨rfl, e1, hl⟩ | ⟨n, h⟩
    · cases e1
    · rw [List.getElem?_set_ne n]
      exact f.va j e h
  · rcases get_set h with ⟨rfl, e1, hl⟩ | ⟨n, h⟩
    · cases e1
      exact ⟨p, List.getElem?_set_self (by rw [f.len]; exact hl), hO, np, r⟩
    · rw [List.getElem?_set_ne n]
      exact f.ow j e h
  · rcases get_set h1 with ⟨rfl, e1, hl⟩ | ⟨n1, h1⟩
    · rw [List.getElem?_set_self (by rw [f.len]; exact hl)] at h3
      cases h3
      rcases get_set h2 with ⟨rfl, e2, _⟩ | ⟨n2, h2⟩
      · exact absurd rfl n
      · rw [List.getElem?_set_ne n2]
        exact un k _ h2 (Ne.symm n2)
    · rw [List.getElem?_set_ne n1] at h3
      rcases get_set h2 with ⟨rfl, e2, hl⟩ | ⟨n2, h2⟩
      · rw [List.getElem?_set_self (by rw [f.len]; exact hl)]
        intro q
        cases q
        exact un j _ h1 (Ne.symm n1) h3
      · rw [List.getElem?_set_ne n2]
        exact f.ap j k e e' a n h1 h2 h3
  · rcases get_set h1 with ⟨rfl, e1, hl⟩ | ⟨n1, h1⟩
    · rw [List.getElem?_set_self (by rw [f.len]; exact hl)] at h2
      cases h2
      exact h0
    · rw [List.getElem?_set_ne n1] at h2
      exact z.owf j e a h1 h2
theorem w_set {i : Nat} {m : ME} : ∀ Dn σ H, Ss K mg W (s_set i m) Dn σ H → tAsg (Ee K mg W m) (gName i) Dn σ H := by
  intro Dn σ H q
  refine (bindS (f := fun d ρ S => if isLoc d = true then .no else .nx (ρ.set i (.va d)) S) q).imp fun v H1 g => ?_
  obtain ⟨c, O, ad, S, ρ, z, d, r, k⟩ := g
  cases e : isLoc d with
  | true => rw [if_pos e] at k; exact k.elim
  | false =>
    rw [if_neg (by rw [e]; exact Bool.false_ne_true)] at k
    exact k _ O ad H1 (.refl _ _ _) (z.set_va (r.rep e))
theorem w_own {i : Nat} {m : ME} : ∀ Dn σ H, Ss K mg W (s_own i m) Dn σ H → tAsg (Ef K mg W m) (gName i) Dn σ H := by
  rintro Dn σ H ⟨c, O, ad, S, ρ, z, h⟩
  refine ⟨O, ad, S, ρ, z.sto, z.fre, ?_⟩
  unfold s_own s_e at h
  cases e : m ρ S with
  | ok d S1 =>
    simp only [e] at h
    intro p O' ad' H' t z' h1 h2 h3 r
    refine h _ O' ad' H' (t.grow z.sto.hid) ((z.step t z').set_ow (z.cst.fresh z.sto h3) h1 h2 r fun j e' hj _ q => ?_)
    obtain ⟨a, q1, q2, q3, q4⟩ := z.fre.ow j e' hj
    rw [q1] at q
    cases q
    obtain ⟨o, ho⟩ := q4.there
    rw [h3] at ho; cases ho
  | er x fs S1 =>
    simp only [e] at h
    exact fun cls dd O' ad' H' t z' r => h cls dd σ O' ad' H' (t.grow z.sto.hid) (z.step t z') r
  | no => simp only [e] at h; exact h
theorem w_do {m : ME} : ∀ Dn σ H, Ss K mg W (s_do m) Dn σ H → tDrop (Ee K mg W m) Dn σ H := by
  intro Dn σ H q
  refine (bindS (f := fun d ρ S => .nx ρ S) q).imp fun v H1 g => ?_
  obtain ⟨c, O, ad, S, ρ, z, d, r, k⟩ := g
  exact k σ O ad H1 (.refl _ _ _) z
theorem w_if {t : MT} {a b : MS} : ∀ Dn σ H, Ss K mg W (s_if t a b) Dn σ H → tIfS (Et K mg W t) (Ss K mg W a) (Ss K mg W b) Dn σ H := by
  intro Dn σ H q
  refine (bindST (f := fun c => if c = true then a else b) q).imp fun v H1 g => ?_
  obtain ⟨c, O, ad, S, ρ, z, k⟩ := g
  cases v with
  | true =>
    rw [if_pos rfl] at k ⊢
    exact ⟨c, O, ad, S, ρ, z, k⟩
  | false =>
    rw [if_neg Bool.false_ne_true] at k ⊢
    exact ⟨c, O, ad, S, ρ, z, k⟩
theorem w_seq {a b : MS} : ∀ Dn σ H, Ss K mg W (s_seq a b) Dn σ H → tSeq (Ss K mg W a) (Ss K mg W b) Dn σ H := by
  rintro Dn σ H ⟨c, O, ad, S, ρ, z, h⟩
  refine ⟨c, O, ad, S, ρ, z, ?_⟩
  unfold s_seq at h
  cases e : a ρ S with
  | nx ρ1 S1 =>
    simp only [e] at h
    exact fun σ' O' ad' H' g z' => ⟨c, O', ad', S1, ρ1, z', h.rebase g⟩
  | bk ρ1 S1 => simp only [e] at h; exact h
  | ct ρ1 S1 => simp only [e] at h; exact h
  | rt d S1 => simp only [e] at h; exact h
  | ex x fs ρ1 S1 => simp only [e] at h; exact h
  | no => simp only [e] at h; exact h
theorem w_nx : ∀ Dn σ H, Ss K mg W s_nx Dn σ H → tNext Dn σ H := by
  rintro Dn σ H ⟨c, O, ad, S, ρ, z, h⟩
  exact h σ O ad H (.refl _ _ _) z
theorem w_bk : ∀ Dn σ H, Ss K mg W s_bk Dn σ H → tBreak Dn σ H := by
  rintro Dn σ H ⟨c, O, ad, S, ρ, z, h⟩
  exact h σ O ad H (.refl _ _ _) z
theorem w_ct : ∀ Dn σ H, Ss K mg W s_ct Dn σ H → tCont Dn σ H := by
  rintro Dn σ H ⟨c, O, ad, S, ρ, z, h⟩
  exact h σ O ad H (.refl _ _ _) z
theorem w_retN : ∀ Dn σ H, Ss K mg W s_retN Dn σ H → tRetN Dn σ H := by
  rintro Dn σ H ⟨c, O, ad, S, ρ, z, h⟩
  exact h .non O ad H z.sto z.cst .non
theorem w_ret {m : ME} : ∀ Dn σ H, Ss K mg W (s_ret m) Dn σ H → tRet (Ee K mg W m) Dn σ H := by
  intro Dn σ H q
  refine (bindS (f := fun d ρ S => match d with | .loc i => (match deref ρ S (.loc i) with | some e => .rt e S | none => .no) | d => .rt d S) q).imp fun v H1 g => ?_
  obtain ⟨c, O, ad, S, ρ, z, d, r, k⟩ := g
  cases d with
  | loc i =>
    obtain ⟨⟨e, h1⟩, h2⟩ := r
    have dr : deref ρ S (.loc i) = some e := by show (match ρ[i]? with | some (.ow d) => some d | _ => none) = some e; rw [h1]
    simp only [dr] at k
    obtain ⟨a, h3, h4, h5, h6⟩ := z.fre.ow i e h1
    rw [h3] at h2
    cases h2
    have h0 := z.owf i e a h1 h3
    refine k (.ref a) (fun b => O b ∧ b ≠ a) ad H1 (z.sto.seen h5) ⟨z.cst.fr, fun b hb => ⟨z.cst.op b hb, fun q => ?_⟩, fun b hb => z.cst.oq b hb.1, z.cst.ap, z.cst.wf, z.cst.wd⟩ ?_
    · obtain ⟨o, ho⟩ := z.cst.wd b hb
      rw [q, h0] at ho; cases ho
    · have r' : MRep K mg (hide (fun b => O b ∧ b ≠ a) H1) ad H1 a e := h6.mono (hide_le fun a q => q.1) (fun _ _ e => e) fun _ e => e
      exact r'.rep fun o e => hide_of (fun q => q.2 rfl) e
  | _ => exact k v O ad H1 z.sto z.cst r
end
section
variable {X : Cx} {W : WX} {pos : Pos}
theorem S_nil : PSs X [] (Ss X.g X.mg W s_nx) := pss_of pss_nil w_nx
theorem S_cons {st : Stmt} {rest : List Stmt} {a b : MS} (h1 : PS X st (Ss X.g X.mg W a)) (h2 : PSs X rest (Ss X.g X.mg W b)) : PSs X (st :: rest) (Ss X.g X.mg W (s_seq a b)) := pss_of (pss_cons h1 h2) w_seq
theorem S_one {st : Stmt} {a : MS} (h1 : PS X st (Ss X.g X.mg W a)) : PSs X [st] (Ss X.g X.mg W a) := pss_one h1
theorem S_pass : PS X (.Pass pos) (Ss X.g X.mg W s_nx) := ps_of ps_pass w_nx
theorem S_bk : PS X (.Break pos) (Ss X.g X.mg W s_bk) := ps_of ps_break w_bk
theorem S_ct : PS X (.Continue pos) (Ss X.g X.mg W s_ct) := ps_of ps_continue w_ct
theorem S_set {i : Nat} {x : Str} {e : Expr} {m : ME} {pos' : Pos} (hN : X.N.Nodup) (hi : X.N[i]? = some x) (hx : Loc X.env.scope x) (he : PE X e (Ee X.g X.mg W m)) (hs : swapsWith e (some (.Name x pos')) pos.line X.env = pure false := by rfl) (hf : X.fn x = true ∨ X.env.scope.names.lookup x = some .local := by first | exact .inl rfl | exact .inr rfl | assumption) :
    PS X (.Assign [.Name x pos'] e pos) (Ss X.g X.mg W (s_set i m)) := ps_of (ps_set hN hi hx he hs hf) w_set
theorem S_own {i : Nat} {x : Str} {e : Expr} {m : ME} {pos' : Pos} (hN : X.N.Nodup) (hi : X.N[i]? = some x) (hx : Loc X.env.scope x) (he : PE X e (Ef X.g X.mg W m)) (hs : swapsWith e (some (.Name x pos')) pos.line X.env = pure false := by rfl) (hf : X.fn x = true ∨ X.env.scope.names.lookup x = some .local := by first | exact .inl rfl | exact .inr rfl | assumption) :
    PS X (.Assign [.Name x pos'] e pos) (Ss X.g X.mg W (s_own i m)) := ps_of (ps_set hN hi hx he hs hf) w_own
theorem S_do {e : Expr} {m : ME} (he : PE X e (Ee X.g X.mg W m)) (hs : swapsWith e none pos.line X.env = pure false := by rfl) : PS X (.Expr e pos) (Ss X.g X.mg W (s_do m)) := ps_of (ps_expr he hs) w_do
theorem S_ret {e : Expr} {m : ME} (he : PE X e (Ee X.g X.mg W m)) : PS X (.Return (some e) pos) (Ss X.g X.mg W (s_ret m)) := ps_of (ps_ret he) w_ret
theorem S_retN : PS X (.Return none pos) (Ss X.g X.mg W s_retN) := ps_of ps_retN w_retN
theorem S_if {c : Expr} {a b : List Stmt} {t : MT} {ma mb : MS} (hc : PT X c (Et X.g X.mg W t)) (ha : PSs X a (Ss X.g X.mg W ma)) (hb : PSs X b (Ss X.g X.mg W mb)) : PS X (.If c a b pos) (Ss X.g X.mg W (s_if t ma mb)) := ps_of (ps_if hc ha hb) w_if
end

/-! ### defs -/
def SpM (K : Fg) (mg : Mg) (n : Nat) (m : List D → Sg → Out D) : Sp := fun vs H Q E => ∃ O ad S ds, Sto K mg O ad S H ∧ Reps K mg (hide O H) ad vs ds ∧ ds.length = n ∧
  match m ds S with
  | .ok r S' => ∀ v O' ad' H', Stp O ad H O' ad' H' → Sto K mg O' ad' S' H' → Rep K mg (hide O' H') ad' v r → Q v H'
  | .er x fs S' => ∀ cls dd O' ad' H', Stp O ad H O' ad' H' → Sto K mg O' ad' S' H' → XRep K mg O' ad' H' cls dd x fs → E cls dd H'
  | .no => False
def fnM (n : Nat) (b : MS) : List D → Sg → Out D := fun ds S => match b (ds.map .va ++ List.replicate (n - ds.length) .un) S with
  | .nx _ S' => .ok .non S'
  | .rt d S' => .ok d S'
  | .ex x fs _ S' => .er x fs S'
  | _ => .no
theorem start_va {K : Fg} {mg : Mg} {G : Hp} {ad : List Addr} {n : Nat} : ∀ {vs : List V} {ds : List D}, Reps K mg G ad vs ds → ∀ (i : Nat) (z : Slot), (ds.map Slot.va ++ List.replicate n .un)[i]? = some z →
    z = .un ∨ ∃ d v, z = .va d ∧ (vs.map some ++ List.replicate n (none : Option V))[i]? = some (some v) ∧ Rep K mg G ad v d := by
  intro vs
  induction vs with
  | nil =>
    intro ds r i z h
    cases r
    have h' : (List.replicate n Slot.un)[i]? = some z := h
    rw [List.getElem?_replicate] at h'
    split at h'
    · cases h'; exact .inl rfl
    · cases h'
  | cons v vs ih =>
    intro ds r i z h
    cases r with
    | cons a b =>
      cases i with
      | zero =>
        cases h
        exact .inr ⟨_, v, rfl, rfl, a⟩
      | succ i => exact ih b i z h
theorem Cst.back {K : Fg} {mg : Mg} {H H' : Hp} {O O' : Addr → Prop} {ad ad' : List Addr} {S' : Sg} (z : Sto K mg O' ad' S' H') (c : Cst ⟨H, ad, O⟩ O' ad' H') :
    Stp O ad H (fun a => O a ∨ a ∈ ad') ad' H' ∧ Sto K mg (fun a => O a ∨ a ∈ ad') ad' S' H' ∧ ∀ b o, hide O' H' b = some o → hide (fun a => O a ∨ a ∈ ad') H' b = some o := by
  have le : ∀ a, (O a ∨ a ∈ ad') → O' a := fun a h => h.elim (c.op a) (z.hid a)
  refine ⟨⟨c.fr, fun a h => .inl h, fun a h => ?_, c.ap⟩, ⟨z.len, z.nd, fun a h => .inr h, fun a h => z.dom a (le a h), fun n d h => ?_⟩, hide_le le⟩
  · rcases h with h | h
    · exact .inl h
    · obtain ⟨m, e, f⟩ := c.ap
      rw [e] at h
      rcases List.mem_append.mp h with q | q
      · exact .inl (c.wf a q)
      · exact .inr (f a q)
  · obtain ⟨a, h1, h2⟩ := z.ob n d h
    exact ⟨a, h1, h2.mono (hide_le le) (fun _ _ e => e) fun _ e => e⟩
theorem def_ok {K : Fg} {mg : Mg} {base : Heap} {x qual : Str} {st : Stmt} {f : Addr} {fd : FuncData} {N ps : List Str} {k : Nat} {m : MS} (F : Fun K x qual st f fd) (S : FnScope N ps (defScope st))
    (hb : ∀ (cdv : Value) (A : Around) (outer : List Env) (s : Shared) (H : Hp) (E : XK), Room k (A.deeper (PyProof.Rows.envOfC qual (defScope st) s.heap.objs.size f cdv)) →
      PSs (cxOf (L2.CX K.P K.w) K.P K.w K.F mg base N qual (defScope st) f cdv A outer s H E) (defBody st) (Ss K mg (fun cls d _ H' => E cls d H') m)) :
    FnOk K.P K.w K.F mg base (L2.CX K.P K.w) (k + 1) f fd ps (SpM K mg ps.length (fnM N.length m)) := by
  refine F.okX S (fun vs H Q E h => ?_) (fun cdv A outer s H vs Q E hr h => ?_)
  · obtain ⟨O, ad, S0, ds, z, r, hl, _⟩ := h
    rw [r.length, hl]
  · refine ⟨_, hb cdv A outer s H E hr, ?_⟩
    obtain ⟨O, ad, S0, ds, z, r, hl, h⟩ := h
    have hvl : vs.length = ds.length := r.length
    refine ⟨⟨H, ad, O⟩, O, ad, S0, ds.map .va ++ List.replicate (N.length - ds.length) .un, ⟨z, ⟨?_, fun i d e => ?_, fun i d e => ?_, fun i j d e a n h1 => ?_⟩, ⟨fun b o e _ => e, fun _ h => h, fun _ h => .inl h, ⟨[], by simp, fun _ h => nomatch h⟩, z.hid, z.dom⟩, fun i d a e => ?_⟩, ?_⟩
    · unfold L2.start
      simp [hvl]
    · unfold L2.start
      rw [hvl]
      rcases start_va r i _ e with q | ⟨d', v, q, h1, h2⟩
      · cases q
      · cases q; exact ⟨v, h1, h2⟩
    · rcases start_va r i _ e with q | ⟨d', v, q, h1, h2⟩
      · cases q
      · cases q
    · rcases start_va r i _ h1 with q | ⟨d', v, q, h1, h2⟩
      · cases q
      · cases q
    · rcases start_va r i _ e with q | ⟨d', v, q, h1, h2⟩
      · cases q
      · cases q
    · unfold fnM at h
      cases e : m (ds.map .va ++ List.replicate (N.length - ds.length) .un) S0 with
      | nx ρ' S' =>
        simp only [e] at h
        intro σ' O' ad' H' g z'
        obtain ⟨b1, b2, b3⟩ := Cst.back z'.sto z'.cst
        exact h .non _ ad' H' b1 b2 .non
      | rt d S' =>
        simp only [e] at h
        intro v O' ad' H' z' c' r'
        obtain ⟨b1, b2, b3⟩ := Cst.back z' c'
        exact h v _ ad' H' b1 b2 (r'.mono b3 fun _ _ e => e)
      | ex x fs ρ' S' =>
        simp only [e] at h
        intro cls dd σ' O' ad' H' g z' r'
        obtain ⟨b1, b2, b3⟩ := Cst.back z'.sto z'.cst
        obtain ⟨C, q1, q2, q3⟩ := r'
        refine h cls dd _ ad' H' b1 b2 ⟨C, q1, q2, q3.imp id fun ⟨a, vs, q4, q5, q6⟩ => ⟨a, vs, q4, q5, q6.mono b3 fun _ _ e => e⟩⟩
      | bk ρ' S' => simp only [e] at h
      | ct ρ' S' => simp only [e] at h
      | no => simp only [e] at h

/-! ### calls -/
def e_call (m : List D → Sg → Out D) (r : MA) : ME := fun ρ S => (r ρ S).bind fun ds S1 => if noLoc ds = true then m ds S1 else .no
section
variable {K : Fg} {mg : Mg} {W : WX}
theorem w_call {n : Nat} {m : List D → Sg → Out D} {r : MA} (len : ∀ ds S, ds.length ≠ n → m ds S = .no) : ∀ σ H Q, Ee K mg W (e_call m r) σ H Q → tCallS (SpM K mg n m) (WE W) (Ea K mg W r) σ H Q := by
  intro σ H Q q
  refine (bindAE (f := fun _ ds S1 => if noLoc ds = true then m ds S1 else .no) q).imp fun vs H1 g => ?_
  obtain ⟨O, ad, S, ρ, ds, s, fr, r1, k⟩ := g
  obtain ⟨c1, k⟩ := post_if (P := PostE K mg W ρ σ Q O ad H1) (fun z => z) k
  have rs := reps_of r1 c1
  refine ⟨O, ad, S, ds, s, rs, ?_, ?_⟩
  · by_cases e : ds.length = n
    · exact e
    · rw [len ds S e] at k; exact k.elim
  · cases e : m ds S with
    | ok d S' => rw [e] at k; exact fun v O' ad' H' t z r => k v O' ad' H' t z (repR_of r)
    | er x fs S' => rw [e] at k; exact k
    | no => rw [e] at k; exact k
end
def fn (n : Nat) (b : MS) (k : Nat) : List D → Sg → Out D := fun ds S => if ds.length = k then fnM n b ds S else .no
theorem fn_len {n k : Nat} {b : MS} : ∀ ds S, ds.length ≠ k → fn n b k ds S = .no := fun ds S h => by unfold fn; rw [if_neg h]
theorem SpM.fn {K : Fg} {mg : Mg} {n k : Nat} {b : MS} : ∀ vs H Q E, SpM K mg k (Gd.fn n b k) vs H Q E → SpM K mg k (fnM n b) vs H Q E := by
  rintro vs H Q E ⟨O, ad, S, ds, z, r, hl, h⟩
  refine ⟨O, ad, S, ds, z, r, hl, ?_⟩
  unfold Gd.fn at h
  rw [if_pos hl] at h
  exact h
theorem def_ok' {K : Fg} {mg : Mg} {base : Heap} {x qual : Str} {st : Stmt} {f : Addr} {fd : FuncData} {N ps : List Str} {k : Nat} {m : MS} (F : Fun K x qual st f fd) (S : FnScope N ps (defScope st))
    (hb : ∀ (cdv : Value) (A : Around) (outer : List Env) (s : Shared) (H : Hp) (E : XK), Room k (A.deeper (PyProof.Rows.envOfC qual (defScope st) s.heap.objs.size f cdv)) →
      PSs (cxOf (L2.CX K.P K.w) K.P K.w K.F mg base N qual (defScope st) f cdv A outer s H E) (defBody st) (Ss K mg (fun cls d _ H' => E cls d H') m)) :
    FnOk K.P K.w K.F mg base (L2.CX K.P K.w) (k + 1) f fd ps (SpM K mg ps.length (Gd.fn N.length m ps.length)) := (def_ok F S hb).imp SpM.fn
section
variable {X : Cx} {W : WX} {k : Nat} {f : Addr} {fd : FuncData} {ps : List Str} {x : Str} {p pos : Pos} {e : Expr} {es : List Expr} {r : MA} {m : List D → Sg → Out D}
theorem E_call {n b : Nat} {mb : MS} (F : FnOk X.prog X.w X.g X.mg X.base (L2.CX X.prog X.w) k f fd ps (SpM X.g X.mg b (Gd.fn n mb b))) (hr : Room k X.A) (hg : Gl X x) (hm : X.mg x = some (.ref f)) (hk : PySem.W.keepIn X.g (.ref f) = true) (hb : Binds X.g fd ps []) (tk : Takes X W)
    (ha : PA X (e :: es) (Ea X.g X.mg W r)) (hdb : (x == ("__debug__" : Str)) = false := by decide) (he : starEach (e :: es) X.env = (false, eval e X.env) :: starEach es X.env := by rfl) (hpl : (backTo pos (starEach es X.env)).any (·.1) = false := by rfl) :
    PE X (.Call (.Name x p) (e :: es) [] pos) (Ee X.g X.mg W (e_call (Gd.fn n mb b) r)) :=
  pe_of (pe_callS F hr hg hm hk hb (fun σ => passAt tk σ) ha hdb he hpl) (w_call fn_len)
end
end Gd

/-! Gd, part 4: what is walked, loops, comprehensions. -/
namespace Gd
open PySem L2 PyProof.Rows

abbrev MI := Ro → Sg → Out (List D)
abbrev Rel := (Addr → Prop) → List Addr → Hp → (Addr → Prop) → List Addr → Hp → Prop
/-- a walk whose items are ds, as long as ok holds of the state -/
def Src (K : Fg) (mg : Mg) (ok : (Addr → Prop) → List Addr → Hp → Prop) (J : It) (ds : List D) : Prop :=
  ∃ G Y, Walk J ds.length G Y ∧ (∀ O2 ad2 H2, ok O2 ad2 H2 → G H2) ∧ ∀ (i : Nat) H2 x H3 O2 ad2 S2, ok O2 ad2 H2 → Sto K mg O2 ad2 S2 H2 → i < ds.length → Y i H2 x H3 →
    ∃ d, ds[i]? = some d ∧ Stp O2 ad2 H2 O2 ad2 H3 ∧ Sto K mg O2 ad2 S2 H3 ∧ Rep K mg (hide O2 H3) ad2 x d
section
variable (K : Fg) (mg : Mg) (rel : Rel)
def PostI (W : WX) (ρ : Ro) (σ : L2.St) (R : It → Hp → Prop) (O : Addr → Prop) (ad : List Addr) (H : Hp) : Out (List D) → Prop
  | .ok ds S' => ∀ O' ad' H' J, Stp O ad H O' ad' H' → Sto K mg O' ad' S' H' → Src K mg (rel O' ad' H') J ds → R J H'
  | .er x fs S' => ∀ cls dd O' ad' H', Stp O ad H O' ad' H' → Sto K mg O' ad' S' H' → XRep K mg O' ad' H' cls dd x fs → W cls dd σ H'
  | .no => False
def Ei (W : WX) (m : MI) : TI := fun σ H R => ∃ O ad S ρ, Sto K mg O ad S H ∧ Fre K mg O ad ρ σ H ∧ PostI K mg rel W ρ σ R O ad H (m ρ S)
end
/-- a target: the slots ts are given values -/
def TgOk (K : Fg) (mg : Mg) (ts : List Nat) (g : TG) (tgt : D → Ro → Option Ro) : Prop :=
  ∀ O ad ρ σ H x d ρ1, Fre K mg O ad ρ σ H → Rep K mg (hide O H) ad x d → tgt d ρ = some ρ1 →
    ∃ σ1, Fre K mg O ad ρ1 σ1 H ∧ (∀ (j : Nat) e a, ρ1[j]? = some (.ow e) → σ1[j]? = some (some (.ref a)) → ρ[j]? = some (.ow e) ∧ σ[j]? = some (some (.ref a))) ∧ wipe σ1 ts = wipe σ ts ∧ ∀ Q : L2.St → Hp → Prop, Q σ1 H → g x σ H Q
def t_name (i : Nat) : D → Ro → Option Ro := fun d ρ => if isLoc d = true then none else some (ρ.set i (.va d))
theorem wipe_set1 (σ : L2.St) (i : Nat) (v : Option V) : wipe (σ.set i v) [i] = wipe σ [i] := by
  show (σ.set i v).set i none = σ.set i none
  exact List.set_set ..
section
variable {K : Fg} {mg : Mg} {W : WX} {c : Ctx} {O O1 : Addr → Prop} {ad ad1 : List Addr} {S S1 : Sg} {ρ : Ro} {σ : L2.St} {H H1 : Hp} {Dn : Ends}
theorem tg_name {i : Nat} : TgOk K mg [i] (gName i) (t_name i) := by
  intro O ad ρ σ H x d ρ1 f r e
  unfold t_name at e
  split at e
  · cases e
  · cases e
    refine ⟨σ.set i (some x), f.set_va r, fun j e a h1 h2 => ?_, wipe_set1 _ _ _, fun Q q => q⟩
    rcases get_set h1 with ⟨rfl, e1, _⟩ | ⟨n1, h1⟩
    · cases e1
    · rw [List.getElem?_set_ne n1] at h2
      exact ⟨h1, h2⟩
/-- a target that is a pair -/
def t_pair (i j : Nat) : D → Ro → Option Ro := fun d ρ => match d with
  | .tup [a, b] => if isLoc a = true ∨ isLoc b = true then none else some ((ρ.set i (.va a)).set j (.va b))
  | _ => none
theorem wipe_set2 (σ : L2.St) (i j : Nat) (v w : Option V) : wipe ((σ.set i v).set j w) [i, j] = wipe σ [i, j] := by
  show (((σ.set i v).set j w).set j none).set i none = (σ.set j none).set i none
  by_cases e : i = j
  · subst e; simp only [List.set_set]
  · rw [List.set_set, List.set_comm _ _ e, List.set_set]
theorem tg_pair {i j : Nat} : TgOk K mg [i, j] (gTup K 2 (gCons (gName i) (gCons (gName j) gNil))) (t_pair i j) := by
  intro O ad ρ σ H x d ρ1 f r e
  unfold t_pair at e
  split at e
  · rename_i a b
    split at e
    · cases e
    · cases e
      cases r with
      | tup h1 h2 =>
        rename_i p vs
        cases h2 with
        | cons ra h2 =>
          cases h2 with
          | cons rb h2 =>
            cases h2
            rename_i va vb
            refine ⟨(σ.set i (some va)).set j (some vb), (f.set_va ra).set_va rb, fun k e a h1 h2 => ?_, wipe_set2 _ _ _ _ _, fun Q q => ?_⟩
            · rcases get_set h1 with ⟨rfl, e1, _⟩ | ⟨n1, h1⟩
              · cases e1
              · rw [List.getElem?_set_ne n1] at h2
                rcases get_set h1 with ⟨rfl, e1, _⟩ | ⟨n2, h1⟩
                · cases e1
                · rw [List.getElem?_set_ne n2] at h2
                  exact ⟨h1, h2⟩
            · exact ⟨p, [va, vb], rfl, sqt_mono un_hide h1, rfl, va, [vb], rfl, vb, [], rfl, rfl, q⟩
  · cases e

/-! ### for -/
def s_loop (tgt : D → Ro → Option Ro) (b : MS) : List D → MS
  | [] => s_nx
  | d :: ds => fun ρ S => match tgt d ρ with
    | none => .no
    | some ρ1 => match b ρ1 S with
      | .nx ρ2 S2 => s_loop tgt b ds ρ2 S2
      | .ct ρ2 S2 => s_loop tgt b ds ρ2 S2
      | .bk ρ2 S2 => .nx ρ2 S2
      | o => o
def s_for (mi : MI) (tgt : D → Ro → Option Ro) (b : MS) : MS := fun ρ S => match mi ρ S with
  | .ok ds S1 => s_loop tgt b ds ρ S1
  | .er x fs S1 => .ex x fs ρ S1
  | .no => .no
theorem Sta.still {O' : Addr → Prop} {ad' : List Addr} {H' : Hp} {S' : Sg} (z : Sta K mg c O ad S ρ σ H) (s : Stp O ad H O' ad' H') (t : Sto K mg O' ad' S' H') : Sta K mg c O' ad' S' ρ σ H' := z.step s t
theorem w_for {mi : MI} {ts : List Nat} {g : TG} {tgt : D → Ro → Option Ro} {b : MS} (hg : TgOk K mg ts g tgt) : ∀ Dn σ H, Ss K mg W (s_for mi tgt b) Dn σ H → tFor (Ei K mg Grow W mi) g (Ss K mg W b) Dn σ H := by
  rintro Dn σ H ⟨c, O, ad, S, ρ, z, h⟩
  refine ⟨O, ad, S, ρ, z.sto, z.fre, ?_⟩
  unfold s_for at h
  cases e : mi ρ S with
  | no => simp only [e] at h; exact h
  | er x fs S1 =>
    simp only [e] at h
    exact fun cls dd O' ad' H' t z' r => h cls dd σ O' ad' H' (t.grow z.sto.hid) (z.step t z') r
  | ok ds S1 =>
    simp only [e] at h
    intro O1 ad1 H1 J t s1 src
    obtain ⟨G, Y, wk, hG, hY⟩ := src
    have z1 := z.step t s1
    have h1 := h.rebase (t.grow z.sto.hid)
    refine for_it wk (fun i σ' H' => ∃ O' ad' S' ρ', Grow O1 ad1 H1 O' ad' H' ∧ Sta K mg c O' ad' S' ρ' σ' H' ∧ PostS K mg W c Dn O' ad' H' (s_loop tgt b (ds.drop i) ρ' S')) ⟨O1, ad1, S1, ρ, .refl _ _ _, z1, by simpa using h1⟩ ?_ ?_ ?_
    · rintro i σ' H' hi ⟨O', ad', S', ρ', gr, _, _⟩
      exact hG O' ad' H' gr
    · rintro i x σ' H' H2 hi ⟨O', ad', S', ρ', gr, zz, hp⟩ y
      obtain ⟨d, hd, t2, s2, rx⟩ := hY i H' x H2 O' ad' S' gr zz.sto hi y
      have zz2 := zz.step t2 s2
      have hp2 := hp.rebase (t2.grow zz.sto.hid)
      have ed : ds.drop i = d :: ds.drop (i + 1) := by
        obtain ⟨hl, hd'⟩ := List.getElem?_eq_some_iff.mp hd
        rw [List.drop_eq_getElem_cons hl, hd']
      rw [ed] at hp2
      unfold s_loop at hp2
      cases et : tgt d ρ' with
      | none => simp only [et] at hp2; exact hp2.elim
      | some ρ1 =>
        simp only [et] at hp2
        obtain ⟨σ1, f1, ow1, _, kg⟩ := hg O' ad' ρ' σ' H2 x d ρ1 zz2.fre rx et
        refine kg _ ?_
        have z3 : Sta K mg c O' ad' S' ρ1 σ1 H2 := ⟨s2, f1, zz2.cst, fun j e a q1 q2 => let q := ow1 j e a q1 q2; zz2.owf j e a q.1 q.2⟩
        refine ⟨c, O', ad', S', ρ1, z3, ?_⟩
        have gr2 := gr.trans (t2.grow zz.sto.hid)
        cases eb : b ρ1 S' with
        | nx ρ2 S2 =>
          simp only [eb] at hp2
          exact fun σ'' O'' ad'' H3 g3 z4 => ⟨O'', ad'', S2, ρ2, gr2.trans g3, z4, PostS.rebase hp2 g3⟩
        | ct ρ2 S2 =>
          simp only [eb] at hp2
          exact fun σ'' O'' ad'' H3 g3 z4 => ⟨O'', ad'', S2, ρ2, gr2.trans g3, z4, PostS.rebase hp2 g3⟩
        | bk ρ2 S2 => simp only [eb] at hp2; exact hp2
        | rt d2 S2 => simp only [eb] at hp2; exact hp2
        | ex x2 fs2 ρ2 S2 => simp only [eb] at hp2; exact hp2
        | no => simp only [eb] at hp2; exact hp2
    · rintro σ' H' ⟨O', ad', S', ρ', gr, zz, hp⟩
      rw [List.drop_length] at hp
      exact hp σ' O' ad' H' (.refl _ _ _) zz

/-! ### while -/
def s_wh (t : MT) (b : MS) : Nat → MS
  | 0 => fun _ _ => .no
  | n + 1 => fun ρ S => match t ρ S with
    | .ok c S1 => if c = true then (match b ρ S1 with
        | .nx ρ2 S2 => s_wh t b n ρ2 S2
        | .ct ρ2 S2 => s_wh t b n ρ2 S2
        | .bk ρ2 S2 => .nx ρ2 S2
        | o => o) else .nx ρ S1
    | .er x fs S1 => .ex x fs ρ S1
    | .no => .no
theorem w_while {t : MT} {b : MS} {n : Nat} : ∀ Dn σ H, Ss K mg W (s_wh t b n) Dn σ H → tWhile (Et K mg W t) (Ss K mg W b) Dn σ H := by
  rintro Dn σ H ⟨c, O, ad, S, ρ, z, h⟩
  refine ⟨fun m σ' H' => ∃ O' ad' S' ρ', Grow O ad H O' ad' H' ∧ Sta K mg c O' ad' S' ρ' σ' H' ∧ PostS K mg W c Dn O' ad' H' (s_wh t b m ρ' S'), ⟨n, O, ad, S, ρ, .refl _ _ _, z, h⟩, ?_⟩
  rintro m σ' H' ⟨O', ad', S', ρ', gr, zz, hp⟩
  refine ⟨O', ad', S', ρ', zz.sto, zz.fre, ?_⟩
  cases m with
  | zero => exact hp.elim
  | succ m =>
    unfold s_wh at hp
    cases e : t ρ' S' with
    | no => simp only [e] at hp; exact hp
    | er x fs S1 =>
      simp only [e] at hp
      exact fun cls dd O2 ad2 H2 t2 z2 r => hp cls dd σ' O2 ad2 H2 (t2.grow zz.sto.hid) (zz.step t2 z2) r
    | ok k S1 =>
      simp only [e] at hp
      intro O2 ad2 H2 t2 s2
      have z2 := zz.step t2 s2
      have hp2 := PostS.rebase hp (t2.grow zz.sto.hid)
      have gr2 := gr.trans (t2.grow zz.sto.hid)
      cases k with
      | false =>
        rw [if_neg Bool.false_ne_true] at hp2 ⊢
        exact hp2 σ' O2 ad2 H2 (.refl _ _ _) z2
      | true =>
        rw [if_pos rfl] at hp2 ⊢
        refine ⟨fun σ3 H3 => ∃ O' ad' S' ρ', Grow O ad H O' ad' H3 ∧ Sta K mg c O' ad' S' ρ' σ3 H3 ∧ PostS K mg W c Dn O' ad' H3 (s_wh t b m ρ' S'), fun σ3 H3 q => ⟨m, Nat.lt_succ_self m, q⟩, ?_⟩
        refine ⟨c, O2, ad2, S1, ρ', z2, ?_⟩
        cases eb : b ρ' S1 with
        | nx ρ2 S2 =>
          simp only [eb] at hp2
          exact fun σ'' O'' ad'' H3 g3 z4 => ⟨O'', ad'', S2, ρ2, gr2.trans g3, z4, PostS.rebase hp2 g3⟩
        | ct ρ2 S2 =>
          simp only [eb] at hp2
          exact fun σ'' O'' ad'' H3 g3 z4 => ⟨O'', ad'', S2, ρ2, gr2.trans g3, z4, PostS.rebase hp2 g3⟩
        | bk ρ2 S2 => simp only [eb] at hp2; exact hp2
        | rt d2 S2 => simp only [eb] at hp2; exact hp2
        | ex x2 fs2 ρ2 S2 => simp only [eb] at hp2; exact hp2
        | no => simp only [eb] at hp2; exact hp2

/-! ### comprehensions -/
def noEr {α : Type} : Out α → Out α
  | .er _ _ _ => .no
  | o => o
def lcL (tgt : D → Ro → Option Ro) (t : MT) (e : ME) (ρ : Ro) : List D → Sg → Out (List D)
  | [], S => .ok [] S
  | d :: ds, S => match tgt d ρ with
    | none => .no
    | some ρ1 => (noEr (t ρ1 S)).bind fun b S1 => if b = true then (noEr (e ρ1 S1)).bind fun y S2 => if isLoc y = true then .no else (lcL tgt t e ρ ds S2).bind fun ys S3 => .ok (y :: ys) S3 else lcL tgt t e ρ ds S1
def wipeR (ρ : Ro) : List Nat → Ro
  | [] => ρ
  | i :: r => (wipeR ρ r).set i .un
def f_lc (vs : List Nat) (mi : MI) (tgt : D → Ro → Option Ro) (t : MT) (e : ME) : ME := fun ρ S => (mi ρ S).bind fun ds S1 => (lcL tgt t e (wipeR ρ vs) ds S1).bind fun ys S2 => if ys.length ≤ 100000 then .ok (.lst ys) S2 else .no
theorem Fre.set_un (f : Fre K mg O ad ρ σ H) (i : Nat) : Fre K mg O ad (ρ.set i .un) (σ.set i none) H := by
  refine ⟨by rw [List.length_set, List.length_set, f.len], fun j e h => ?_, fun j e h => ?_, fun j k e e' a n h1 h2 h3 => ?_⟩
  · rcases get_set h with ⟨rfl, e1, hl⟩ | ⟨n, h⟩
    · cases e1
    · rw [List.getElem?_set_ne n]
      exact f.va j e h
  · rcases get_set h with ⟨rfl, e1, hl⟩ | ⟨n, h⟩
    · cases e1
    · rw [List.getElem?_set_ne n]
      exact f.ow j e h
  · rcases get_set h1 with ⟨rfl, e1, _⟩ | ⟨n1, h1⟩
    · cases e1
    · rcases get_set h2 with ⟨rfl, e1, _⟩ | ⟨n2, h2⟩
      · cases e1
      · rw [List.getElem?_set_ne n1] at h3
        rw [List.getElem?_set_ne n2]
        exact f.ap j k e e' a n h1 h2 h3
theorem Fre.wipe : ∀ (vs : List Nat) {ρ : Ro} {σ : L2.St}, Fre K mg O ad ρ σ H → Fre K mg O ad (wipeR ρ vs) (L2.wipe σ vs) H
  | [], _, _, f => f
  | i :: r, _, _, f => (Fre.wipe r f).set_un i
abbrev W0 : WX := fun _ _ _ _ => False
theorem lc_len {tgt : D → Ro → Option Ro} {t : MT} {e : ME} {ρ : Ro} : True := trivial
theorem w_lc {vs : List Nat} {mi : MI} {g : TG} {tgt : D → Ro → Option Ro} {t : MT} {e : ME} (hg : TgOk K mg vs g tgt) :
    ∀ σ H Q, Ef K mg W (f_lc vs mi tgt t e) σ H Q → tLc (Ei K mg Stp W mi) g (Et K mg W0 t) (Ee K mg W0 e) vs σ H Q := by
  rintro σ H Q ⟨O, ad, S, ρ, s, fr, h⟩
  refine ⟨O, ad, S, ρ, s, fr, ?_⟩
  unfold f_lc at h
  cases em : mi ρ S with
  | no => rw [em] at h; exact h
  | er x fs S1 => rw [em] at h; exact h
  | ok ds S1 =>
    rw [em] at h
    intro O1 ad1 H1 J t1 s1 src Dl hD
    obtain ⟨G, Y, wk, hG, hY⟩ := src
    have f1 : Fre K mg O1 ad1 ρ σ H1 := fr.step s.hid t1
    have h1 : PostF K mg W ρ σ Q O1 ad1 H1 ((lcL tgt t e (wipeR ρ vs) ds S1).bind fun ys S2 => if ys.length ≤ 100000 then .ok (.lst ys) S2 else .no) := PostF.rebase h t1 s.hid s1.dom
    have fw : Fre K mg O1 ad1 (wipeR ρ vs) (L2.wipe σ vs) H1 := f1.wipe vs
    refine lc_it wk (fun i H' => ∃ O2 ad2 S2 acc ys, Stp O1 ad1 H1 O2 ad2 H' ∧ Sto K mg O2 ad2 S2 H' ∧ O2 Dl ∧ Dl ∉ ad2 ∧ H' Dl = some (.lst acc) ∧ Reps K mg (hide O2 H') ad2 acc ys ∧
      PostF K mg W ρ σ Q O1 ad1 H1 ((lcL tgt t e (wipeR ρ vs) (ds.drop i) S2).bind fun zs S3 => if (ys ++ zs).length ≤ 100000 then .ok (.lst (ys ++ zs)) S3 else .no)) ?_ ?_ ?_ ?_
    · obtain ⟨t2, z2, np, mr⟩ := new_own (K := K) (mg := mg) (o := .lst []) (d := .lst []) s1 hD ⟨[], upd_same, .nil⟩
      exact ⟨_, ad1, S1, [], [], t2, z2, .inr rfl, np, upd_same, .nil, by simpa using h1⟩
    · rintro i H' hi ⟨O2, ad2, S2, acc, ys, t2, _⟩
      exact hG O2 ad2 H' t2
    · rintro i x H' H2 hi ⟨O2, ad2, S2, acc, ys, t2, z2, oD, nD, hDl, rs, hp⟩ y
      obtain ⟨d, hd, t3, z3, rx⟩ := hY i H' x H2 O2 ad2 S2 t2 z2 hi y
      have ed : ds.drop i = d :: ds.drop (i + 1) := by
        obtain ⟨hl, hd'⟩ := List.getElem?_eq_some_iff.mp hd
        rw [List.drop_eq_getElem_cons hl, hd']
      rw [ed] at hp
      have t23 := t2.trans t3 s1.hid z2.dom
      have f3 : Fre K mg O2 ad2 (wipeR ρ vs) (L2.wipe σ vs) H2 := fw.step s1.hid t23
      have hDl3 := t3.fr Dl _ hDl nD
      have rs3 : Reps K mg (hide O2 H2) ad2 acc ys := rs.mono (t3.hide z2.hid) t3.get
      unfold lcL at hp
      cases et : tgt d (wipeR ρ vs) with
      | none => simp only [et] at hp; exact hp.elim
      | some ρ1 =>
        simp only [et] at hp
        obtain ⟨σ1, g1, _, wp, kg⟩ := hg O2 ad2 _ _ H2 x d ρ1 f3 rx et
        refine kg _ ⟨?_, ?_⟩
        · rw [wp]
          have ww : ∀ (l : List Nat) (τ : L2.St), (∀ j ∈ l, j < τ.length → τ[j]? = some none) → L2.wipe τ l = τ := by
            intro l
            induction l with
            | nil => intro τ _; rfl
            | cons a l ih =>
              intro τ hτ
              have e0 : τ.set a none = τ := by
                by_cases hl : a < τ.length
                · have := hτ a List.mem_cons_self hl
                  rw [List.getElem?_eq_getElem hl] at this
                  have e1 : τ[a] = none := Option.some.inj this
                  rw [← e1]; exact List.set_getElem_self hl
                · exact List.set_eq_of_length_le (by omega)
              show (L2.wipe τ l).set a none = τ
              rw [ih τ fun j hj hl => hτ j (List.mem_cons_of_mem _ hj) hl]
              exact e0
          refine ww vs _ fun j hj hl => ?_
          have hc : ∀ o, (L2.wipe σ vs)[j]? = some o → o = none := fun o ho => by
            cases o with
            | none => rfl
            | some v => exact absurd hj (wipe_some ho).2
          rw [List.getElem?_eq_getElem hl]
          exact congrArg some (hc _ (List.getElem?_eq_getElem hl))
        · refine ⟨O2, ad2, S2, ρ1, z3, g1, ?_⟩
          cases et2 : t ρ1 S2 with
          | no => simp only [et2] at hp; exact hp.elim
          | er x2 fs2 S3 => simp only [et2] at hp; exact hp.elim
          | ok b S3 =>
            simp only [et2, noEr, Out.bind] at hp
            intro O3 ad3 H3 t4 z4
            have t24 := t23.trans t4 s1.hid z3.dom
            have oD4 := t4.op Dl oD
            have nD4 := t4.nmem nD hDl3
            have hDl4 := t4.fr Dl _ hDl3 nD
            have rs4 : Reps K mg (hide O3 H3) ad3 acc ys := rs3.mono (t4.hide z3.hid) t4.get
            cases b with
            | false =>
              rw [if_neg Bool.false_ne_true] at hp ⊢
              exact ⟨O3, ad3, S3, acc, ys, t24, z4, oD4, nD4, hDl4, rs4, hp⟩
            | true =>
              rw [if_pos rfl] at hp ⊢
              refine ⟨O3, ad3, S3, ρ1, z4, g1.step z3.hid t4, ?_⟩
              cases ee : e ρ1 S3 with
              | no => simp only [ee] at hp; exact hp.elim
              | er x2 fs2 S4 => simp only [ee] at hp; exact hp.elim
              | ok yd S4 =>
                simp only [ee] at hp
                intro v O4 ad4 H4 t5 z5 ry
                cases el : isLoc yd with
                | true => simp only [el, if_true] at hp; exact hp.elim
                | false =>
                  simp only [el, Bool.false_eq_true, if_false] at hp
                  have t25 := t24.trans t5 s1.hid z4.dom
                  have oD5 := t5.op Dl oD4
                  have nD5 := t5.nmem nD4 hDl4
                  have hDl5 := t5.fr Dl _ hDl4 nD4
                  have rs5 : Reps K mg (hide O4 H4) ad4 acc ys := rs4.mono (t5.hide z4.hid) t5.get
                  cases er2 : lcL tgt t e (wipeR ρ vs) (ds.drop (i + 1)) S4 with
                  | no => rw [er2] at hp; exact hp.elim
                  | er x3 fs3 S5 => 
                    exfalso
                    have key : ∀ (l : List D) (S : Sg) x fs S', lcL tgt t e (wipeR ρ vs) l S ≠ .er x fs S' := by
                      intro l
                      induction l with
                      | nil => intro S x fs S' q; cases q
                      | cons a l ih =>
                        intro S x fs S' q
                        unfold lcL at q
                        split at q
                        · cases q
                        · rename_i ρ2 _
                          cases q1 : t ρ2 S with
                          | no => simp only [q1, noEr, Out.bind] at q; cases q
                          | er _ _ _ => simp only [q1, noEr, Out.bind] at q; cases q
                          | ok b S1 =>
                            simp only [q1, noEr, Out.bind] at q
                            cases b with
                            | false => rw [if_neg Bool.false_ne_true] at q; exact ih _ _ _ _ q
                            | true =>
                              rw [if_pos rfl] at q
                              cases q2 : e ρ2 S1 with
                              | no => simp only [q2, noEr, Out.bind] at q; cases q
                              | er _ _ _ => simp only [q2, noEr, Out.bind] at q; cases q
                              | ok y S2 =>
                                simp only [q2, noEr, Out.bind] at q
                                split at q
                                · cases q
                                · cases q3 : lcL tgt t e (wipeR ρ vs) l S2 with
                                  | no => simp only [q3] at q; cases q
                                  | er _ _ _ => exact ih _ _ _ _ q3
                                  | ok _ _ => simp only [q3] at q; cases q
                    exact key _ _ _ _ _ er2
                  | ok zs S5 =>
                    rw [er2] at hp
                    have hp' : PostF K mg W ρ σ Q O1 ad1 H1 (if (ys ++ yd :: zs).length ≤ 100000 then .ok (.lst (ys ++ yd :: zs)) S5 else .no) := hp
                    obtain ⟨c1, _⟩ := post_if (P := PostF K mg W ρ σ Q O1 ad1 H1) (fun z => z) hp'
                    have hlen : acc.length < 100000 := by
                      rw [rs5.length]
                      rw [List.length_append, List.length_cons] at c1
                      omega
                    refine ⟨acc, hDl5, Nat.lt_of_lt_of_le hlen (by decide), O4, ad4, S4, acc ++ [v], ys ++ [yd], ?_, ?_, oD5, nD5, upd_same, ?_, ?_⟩
                    · refine ⟨fun b o hb m => ?_, t25.op, t25.oq, t25.ap⟩
                      rw [upd_ne (ne_of_none hb hD)]
                      exact t25.fr b o hb m
                    · have hh : ∀ b o, hide O4 H4 b = some o → hide O4 (upd H4 Dl (.lst (acc ++ [v]))) b = some o := fun b o q => by
                        obtain ⟨n, q⟩ := of_hide q
                        refine hide_of n ?_
                        rw [upd_ne (fun z => n (by rw [z]; exact oD5))]
                        exact q
                      refine ⟨z5.len, z5.nd, z5.hid, fun a ha => ?_, fun n d2 hn => ?_⟩
                      · by_cases q : a = Dl
                        · exact ⟨_, by rw [q]; exact upd_same⟩
                        · obtain ⟨o, ho⟩ := z5.dom a ha
                          exact ⟨o, by rw [upd_ne q]; exact ho⟩
                      · obtain ⟨a, q1, q2⟩ := z5.ob n d2 hn
                        refine ⟨a, q1, q2.mono hh (fun _ _ e => e) fun o q => ?_⟩
                        rw [upd_ne (fun z => nD5 (by rw [← z]; exact List.mem_of_getElem? q1))]
                        exact q
                    · have hh : ∀ b o, hide O4 H4 b = some o → hide O4 (upd H4 Dl (.lst (acc ++ [v]))) b = some o := fun b o q => by
                        obtain ⟨n, q⟩ := of_hide q
                        refine hide_of n ?_
                        rw [upd_ne (fun z => n (by rw [z]; exact oD5))]
                        exact q
                      exact (rs5.app (.cons (ry.rep el) .nil)).mono hh fun _ _ e => e
                    · rw [er2]
                      simp only [Out.bind, List.append_assoc, List.singleton_append]
                      exact hp'
    · rintro H' ⟨O2, ad2, S2, acc, ys, t2, z2, oD, nD, hDl, rs, hp⟩
      rw [List.drop_length] at hp
      have hp' : PostF K mg W ρ σ Q O1 ad1 H1 (if (ys ++ []).length ≤ 100000 then .ok (.lst (ys ++ [])) S2 else .no) := hp
      obtain ⟨_, k⟩ := post_if (P := PostF K mg W ρ σ Q O1 ad1 H1) (fun z => z) hp'
      rw [List.append_nil] at k
      exact k Dl O2 ad2 H' t2 z2 oD nD hD ⟨acc, hDl, rs⟩
end
end Gd

/-! Gd, part 5: what the operations give. -/
namespace Gd
open PySem L2

section
variable {K : Fg} {mg : Mg} {O : Addr → Prop} {ad : List Addr} {H : Hp} {x y : V}
theorem RepS.int {i : Int} (r : RepS K mg O ad H x (.int i)) : x = .int i := by
  rcases r with r | ⟨a, _, r⟩
  · cases r; rfl
  · exact r.elim
theorem RepS.str {i : Str} (r : RepS K mg O ad H x (.str i)) : x = .str i := by
  rcases r with r | ⟨a, _, r⟩
  · cases r; rfl
  · exact r.elim
theorem RepS.bl {i : Bool} (r : RepS K mg O ad H x (.bl i)) : x = .bl i := by
  rcases r with r | ⟨a, _, r⟩
  · cases r; rfl
  · exact r.elim
theorem RepS.non (r : RepS K mg O ad H x .non) : x = .non := by
  rcases r with r | ⟨a, _, r⟩
  · cases r; rfl
  · exact r.elim
theorem RepS.ty {n : String} (r : RepS K mg O ad H x (.ty n)) : x = .ty n := by
  rcases r with r | ⟨a, _, r⟩
  · cases r; rfl
  · exact r.elim
theorem RepS.lst {ds : List D} (r : RepS K mg O ad H x (.lst ds)) : ∃ a vs, x = .ref a ∧ SqL K H a vs ∧ Reps K mg (hide O H) ad vs ds := by
  rcases r with r | ⟨a, e, vs, h1, h2⟩
  · cases r with
    | lst h1 h2 => exact ⟨_, _, rfl, sql_mono un_hide h1, h2⟩
  · exact ⟨a, vs, e, .of h1, h2⟩
theorem RepS.tup {ds : List D} (r : RepS K mg O ad H x (.tup ds)) : ∃ a vs, x = .ref a ∧ SqT K H a vs ∧ Reps K mg (hide O H) ad vs ds := by
  rcases r with r | ⟨a, e, r⟩
  · cases r with
    | tup h1 h2 => exact ⟨_, _, rfl, sqt_mono un_hide h1, h2⟩
  · exact r.elim
theorem RepS.dct {ds : List (Key × D)} (r : RepS K mg O ad H x (.dct ds)) : ∃ a vs, x = .ref a ∧ Rd H a (.dK vs) ∧ RepK K mg (hide O H) ad vs ds := by
  rcases r with r | ⟨a, e, vs, h1, h2⟩
  · cases r with
    | dct h1 h2 => exact ⟨_, _, rfl, rd_mono un_hide h1, h2⟩
  · exact ⟨a, vs, e, .of h1, h2⟩
theorem RepS.of {d : D} (r : Rep K mg (hide O H) ad x d) : RepS K mg O ad H x d := .inl r
end

/-! ### ints -/
def d_int2 (f : Int → Int → Option D) : D → D → Option D := fun d e => match d, e with
  | .int i, .int j => f i j
  | _, _ => none
theorem d_int2_some {f : Int → Int → Option D} {d e z : D} (h : d_int2 f d e = some z) : ∃ i j, d = .int i ∧ e = .int j ∧ f i j = some z := by
  unfold d_int2 at h
  split at h
  · exact ⟨_, _, rfl, rfl, h⟩
  · cases h
section
variable {K : Fg} {mg : Mg}
theorem op_int0 {g : Int → Int → Int} : OpP K mg (rI0 fun i j => .int (g i j)) (d_int2 fun i j => some (.int (g i j))) := by
  intro O ad H x y d e z rx ry h
  obtain ⟨i, j, rfl, rfl, hh⟩ := d_int2_some h
  clear h
  cases hh
  cases rx.int
  cases ry.int
  exact res_v (.int _) fun Q q => ⟨i, j, rfl, rfl, q⟩
theorem op_intB {g : Int → Int → Bool} : OpP K mg (rI0 fun i j => .bl (g i j)) (d_int2 fun i j => some (.bl (g i j))) := by
  intro O ad H x y d e z rx ry h
  obtain ⟨i, j, rfl, rfl, hh⟩ := d_int2_some h
  clear h
  cases hh
  cases rx.int
  cases ry.int
  exact res_v (.bl _) fun Q q => ⟨i, j, rfl, rfl, q⟩
theorem op_intC {C : Int → Int → Prop} [∀ i j, Decidable (C i j)] {g : Int → Int → Int} : OpP K mg (rI C fun i j => .int (g i j)) (d_int2 fun i j => if C i j then some (.int (g i j)) else none) := by
  intro O ad H x y d e z rx ry h
  obtain ⟨i, j, rfl, rfl, hh⟩ := d_int2_some h
  clear h
  split at hh
  · rename_i hc
    cases hh
    cases rx.int
    cases ry.int
    exact res_v (.int _) fun Q q => ⟨i, j, rfl, rfl, hc, q⟩
  · cases hh
end
instance (i j : Int) : Decidable (CDivN i j) := by unfold CDivN; infer_instance
instance (i j : Int) : Decidable (CPow i j) := by unfold CPow; infer_instance
instance (i j : Int) : Decidable (CMul i j) := by unfold CMul; infer_instance
def d_sub := d_int2 fun i j => some (.int (i - j))
def d_mul := d_int2 fun i j => if CMul i j then some (.int (i * j)) else none
def d_fdiv := d_int2 fun i j => if CDivN i j then some (.int (i.fdiv j)) else none
def d_mod := d_int2 fun i j => if j ≠ 0 then some (.int (i.fmod j)) else none
def d_pow := d_int2 fun i j => if CPow i j then some (.int (i ^ j.toNat)) else none
def d_addI := d_int2 fun i j => some (.int (i + j))

/-! ### texts -/
def d_str2 (f : Str → Str → Option D) : D → D → Option D := fun d e => match d, e with
  | .str i, .str j => f i j
  | _, _ => none
theorem d_str2_some {f : Str → Str → Option D} {d e z : D} (h : d_str2 f d e = some z) : ∃ i j, d = .str i ∧ e = .str j ∧ f i j = some z := by
  unfold d_str2 at h
  split at h
  · exact ⟨_, _, rfl, rfl, h⟩
  · cases h
def d_addS := d_str2 fun i j => if i.length + j.length ≤ 100000 then some (.str (i ++ j)) else none
def slt (i j : Str) : Bool := decide (i.cps.toList < j.cps.toList)
section
variable {K : Fg} {mg : Mg}
theorem op_addS : OpP K mg (fun x y H Q => ∃ i j, x = .str i ∧ y = .str j ∧ i.length + j.length ≤ sizeLine ∧ Q (.str (i ++ j)) H) d_addS := by
  intro O ad H x y d e z rx ry h
  obtain ⟨i, j, rfl, rfl, hh⟩ := d_str2_some h
  clear h
  split at hh
  · rename_i hc
    cases hh
    cases rx.str
    cases ry.str
    exact res_v (.str _) fun Q q => ⟨i, j, rfl, rfl, sz5 hc, q⟩
  · cases hh
theorem op_strB {g : Str → Str → Bool} : OpP K mg (fun x y H Q => ∃ i j, x = .str i ∧ y = .str j ∧ Q (.bl (g i j)) H) (d_str2 fun i j => some (.bl (g i j))) := by
  intro O ad H x y d e z rx ry h
  obtain ⟨i, j, rfl, rfl, hh⟩ := d_str2_some h
  clear h
  cases hh
  cases rx.str
  cases ry.str
  exact res_v (.bl _) fun Q q => ⟨i, j, rfl, rfl, q⟩
end
/-! ### lists and tuples put together -/
def d_addL : D → D → Option D := fun d e => match d, e with
  | .lst a, .lst b => if a.length + b.length ≤ 100000 then some (.lst (a ++ b)) else none
  | _, _ => none
def rCatL (K : Fg) : R2 := fun x y H Q => ∃ a b xs ys, x = .ref a ∧ y = .ref b ∧ SqL K H a xs ∧ SqL K H b ys ∧ xs.length + ys.length ≤ sizeLine ∧ ∀ p, H p = none → Q (.ref p) (upd H p (.lst (xs ++ ys)))

/-! ### == -/
mutual
def py : D → Option PyData
  | .non => some .none
  | .bl b => some (.bool b)
  | .int i => some (.int i)
  | .str x => some (.str x)
  | .lst l => (pyL l).map .list
  | .tup l => (pyL l).map .tuple
  | .dct _ => none
  | .dcf _ => none
  | .dcl _ => none
  | .ins _ _ => none
  | .ty _ => none
  | .cls _ => none
  | .obj _ => none
  | .loc _ => none
def pyL : List D → Option (List PyData)
  | [] => some []
  | d :: ds => match py d, pyL ds with
    | some a, some b => some (a :: b)
    | _, _ => none
end
section
variable {K : Fg} {mg : Mg} {G : Hp} {ad : List Addr}
theorem py_dp : ∀ v d, Rep K mg G ad v d → ∀ p, py d = some p → Dp K G v p := fun v d h =>
  Rep.rec (K := K) (mg := mg) (G := G) (ad := ad) (motive_1 := fun v d _ => ∀ p, py d = some p → Dp K G v p) (motive_2 := fun v d _ => ∀ p, pyL d = some p → DpAll K G v p) (motive_3 := fun _ _ _ => True) (motive_4 := fun _ _ _ => True) (motive_5 := fun _ _ _ => True)
    (fun p e => by cases e; exact .non) (fun b p e => by cases e; exact .bl b) (fun b p e => by cases e; exact .int b) (fun b p e => by cases e; exact .str b)
    (fun {a vs ds} h _ r p e => by
      unfold py at e
      obtain ⟨q, h1, h2⟩ := Option.map_eq_some_iff.mp e
      subst h2
      exact .lst h (r q h1))
    (fun {a vs ds} h _ r p e => by
      unfold py at e
      obtain ⟨q, h1, h2⟩ := Option.map_eq_some_iff.mp e
      subst h2
      exact .tup h (r q h1))
    (fun _ _ _ p e => by unfold py at e; cases e) (fun _ _ _ _ p e => by unfold py at e; cases e) (fun _ p e => by unfold py at e; cases e) (fun _ p e => by unfold py at e; cases e) (fun _ p e => by unfold py at e; cases e) (fun _ _ _ p e => by unfold py at e; cases e) (fun _ _ _ p e => by unfold py at e; cases e)
    (fun p e => by cases e; exact .nil)
    (fun {v d vs ds} _ _ r1 r2 p e => by
      unfold pyL at e
      split at e
      · rename_i a b h1 h2
        cases e
        exact .cons (r1 _ h1) (r2 _ h2)
      · cases e)
    trivial (fun _ _ _ _ => trivial) trivial (fun _ _ _ _ => trivial) trivial (fun _ _ _ _ => trivial) h
theorem pyL_dp {vs : List V} {ds : List D} (h : Reps K mg G ad vs ds) : ∀ p, pyL ds = some p → DpAll K G vs p := by
  induction vs generalizing ds with
  | nil => cases h; intro p e; cases e; exact .nil
  | cons v vs ih =>
    cases h with
    | cons a b =>
      intro p e
      unfold pyL at e
      split at e
      · rename_i x y h1 h2
        cases e
        exact .cons (py_dp _ _ a _ h1) (ih b _ h2)
      · cases e
theorem dp_mono_all {G G' : Hp} (e : ∀ b o, G b = some o → G' b = some o) : (∀ v d, Dp K G v d → Dp K G' v d) ∧ ∀ vs ds, DpAll K G vs ds → DpAll K G' vs ds := by
  have A : ∀ v d, Dp K G v d → Dp K G' v d := fun v d h =>
    Dp.rec (K := K) (H := G) (motive_1 := fun v d _ => Dp K G' v d) (motive_2 := fun v d _ => DpAll K G' v d) .non .bl .int .str (fun h _ r => .lst (sql_mono e h) r) (fun h _ r => .tup (sqt_mono e h) r) .nil (fun _ _ a b => .cons a b) h
  refine ⟨A, fun vs => ?_⟩
  induction vs with
  | nil => intro ds h; cases h; exact .nil
  | cons v vs ih => intro ds h; cases h with | cons a b => exact .cons (A _ _ a) (ih _ b)
end
theorem RepS.dp {K : Fg} {mg : Mg} {O : Addr → Prop} {ad : List Addr} {H : Hp} {x : V} {d : D} {p : PyData} (r : RepS K mg O ad H x d) (h : py d = some p) : Dp K H x p := by
  rcases r with r | ⟨a, e, r⟩
  · exact (dp_mono_all un_hide).1 _ _ (py_dp _ _ r _ h)
  · cases d with
    | lst ds =>
      obtain ⟨vs, h1, h2⟩ := r
      unfold py at h
      obtain ⟨q, h3, h4⟩ := Option.map_eq_some_iff.mp h
      subst h4 e
      exact .lst (.of h1) ((dp_mono_all un_hide).2 _ _ (pyL_dp h2 _ h3))
    | dct ds => unfold py at h; cases h
    | ins c ds => unfold py at h; cases h
    | dcf ds => unfold py at h; cases h
    | dcl ds => unfold py at h; cases h
    | _ => exact r.elim
/-- == of scalars of one kind, and None beside the others -/
def eqSc : D → D → Option Bool
  | .non, .non => some true
  | .non, .int _ => some false
  | .int _, .non => some false
  | .non, .bl _ => some false
  | .bl _, .non => some false
  | .non, .str _ => some false
  | .str _, .non => some false
  | .int a, .int b => some (decide (a = b))
  | .bl a, .bl b => some (decide (a = b))
  | .str a, .str b => some (decide (a = b))
  | .int _, .str _ => some false
  | .str _, .int _ => some false
  | .bl _, .str _ => some false
  | .str _, .bl _ => some false
  | _, _ => none
def eqDp (d e : D) : Option Bool := match py d, py e with
  | some a, some b => if SeqAt.shaped a = true ∧ SeqAt.shaped b = true then some (PyData.eqv a b) else none
  | _, _ => none
def d_eq : D → D → Option D := fun d e => ((eqSc d e).or (eqDp d e)).map .bl
def d_ne : D → D → Option D := fun d e => ((eqSc d e).or (eqDp d e)).map fun b => .bl (!b)
theorem eqSc_V {K : Fg} {mg : Mg} {O : Addr → Prop} {ad : List Addr} {H : Hp} {x y : V} {d e : D} {b : Bool} (rx : RepS K mg O ad H x d) (ry : RepS K mg O ad H y e) (h : eqSc d e = some b) : scal x y = true ∧ decide (x = y) = b := by
  unfold eqSc at h
  split at h <;> cases h
  · cases rx.non; cases ry.non; exact ⟨rfl, by simp⟩
  · cases rx.non; cases ry.int; exact ⟨rfl, by simp⟩
  · cases rx.int; cases ry.non; exact ⟨rfl, by simp⟩
  · cases rx.non; cases ry.bl; exact ⟨rfl, by simp⟩
  · cases rx.bl; cases ry.non; exact ⟨rfl, by simp⟩
  · cases rx.non; cases ry.str; exact ⟨rfl, by simp⟩
  · cases rx.str; cases ry.non; exact ⟨rfl, by simp⟩
  · cases rx.int; cases ry.int; exact ⟨rfl, by simp⟩
  · cases rx.bl; cases ry.bl; exact ⟨rfl, by simp⟩
  · cases rx.str; cases ry.str; exact ⟨rfl, by simp⟩
  · cases rx.int; cases ry.str; exact ⟨rfl, by simp⟩
  · cases rx.str; cases ry.int; exact ⟨rfl, by simp⟩
  · cases rx.bl; cases ry.str; exact ⟨rfl, by simp⟩
  · cases rx.str; cases ry.bl; exact ⟨rfl, by simp⟩
theorem eqDp_some {d e : D} {b : Bool} (h : eqDp d e = some b) : ∃ p q, py d = some p ∧ py e = some q ∧ SeqAt.shaped p = true ∧ SeqAt.shaped q = true ∧ PyData.eqv p q = b := by
  unfold eqDp at h
  split at h
  · rename_i p q h1 h2
    split at h
    · rename_i hc
      cases h
      exact ⟨p, q, h1, h2, hc.1, hc.2, rfl⟩
    · cases h
  · cases h
section
variable {K : Fg} {mg : Mg}
theorem op_dEq : OpP K mg (fun x y H Q => rEq x y H Q ∨ rEqD K x y H Q) d_eq := by
  intro O ad H x y d e z rx ry h
  unfold d_eq at h
  obtain ⟨b, hh, rfl⟩ := Option.map_eq_some_iff.mp h
  cases e1 : eqSc d e with
  | some b' =>
    rw [e1] at hh
    cases hh
    obtain ⟨s1, s2⟩ := eqSc_V rx ry e1
    exact res_v (.bl _) fun Q q => .inl ⟨s1, by rw [s2]; exact q⟩
  | none =>
    rw [e1] at hh
    obtain ⟨p, q, h1, h2, h3, h4, h5⟩ := eqDp_some hh
    exact res_v (.bl _) fun Q k => .inr ⟨p, q, rx.dp h1, ry.dp h2, h3, h4, by rw [h5]; exact k⟩
theorem op_dNe : OpP K mg (fun x y H Q => rNe x y H Q ∨ rNeD K x y H Q) d_ne := by
  intro O ad H x y d e z rx ry h
  unfold d_ne at h
  obtain ⟨b, hh, rfl⟩ := Option.map_eq_some_iff.mp h
  cases e1 : eqSc d e with
  | some b' =>
    rw [e1] at hh
    cases hh
    obtain ⟨s1, s2⟩ := eqSc_V rx ry e1
    exact res_v (.bl _) fun Q q => .inl ⟨s1, by rw [s2]; exact q⟩
  | none =>
    rw [e1] at hh
    obtain ⟨p, q, h1, h2, h3, h4, h5⟩ := eqDp_some hh
    exact res_v (.bl _) fun Q k => .inr ⟨p, q, rx.dp h1, ry.dp h2, h3, h4, by rw [h5]; exact k⟩
end

/-! ### in -/
def flatD : D → Bool
  | .non => true
  | .bl _ => true
  | .int _ => true
  | .str _ => true
  | _ => false
def eqF : D → D → Bool
  | .non, .non => true
  | .bl a, .bl b => a == b
  | .bl a, .int b => (if a then 1 else 0) == b
  | .int a, .bl b => a == (if b then 1 else 0)
  | .int a, .int b => a == b
  | .str a, .str b => a == b
  | _, _ => false
section
variable {K : Fg} {mg : Mg} {G : Hp} {ad : List Addr}
theorem flat_V {v : V} {d : D} (r : Rep K mg G ad v d) (f : flatD d = true) : flatV v = true := by
  cases r <;> first | rfl | cases f
theorem eqF_V {v w : V} {d e : D} (r : Rep K mg G ad v d) (q : Rep K mg G ad w e) (f : flatD d = true) (g : flatD e = true) : eqV v w = eqF d e := by
  cases r <;> first | cases f; done | (cases q <;> first | rfl | (cases g; done))
theorem inF_V {v : V} {d : D} (r : Rep K mg G ad v d) (f : flatD d = true) : ∀ {vs : List V} {ds : List D}, Reps K mg G ad vs ds → ds.all flatD = true → vs.all flatV = true ∧ inV v vs = ds.any fun e => eqF e d := by
  intro vs
  induction vs with
  | nil => intro ds h _; cases h; exact ⟨rfl, rfl⟩
  | cons w vs ih =>
    intro ds h g
    cases h with
    | cons a b =>
      rw [List.all_cons, Bool.and_eq_true] at g
      obtain ⟨h1, h2⟩ := ih b g.2
      refine ⟨by rw [List.all_cons, flat_V a g.1, h1]; rfl, ?_⟩
      unfold inV at h2 ⊢
      rw [List.any_cons, List.any_cons, h2, eqF_V a r g.1 f]
end
def inD (d : D) (ds : List D) : Option Bool := if flatD d = true ∧ ds.all flatD = true then some (ds.any fun e => eqF e d) else none
def d_in (neg : Bool) : D → D → Option D := fun d e => match e with
  | .lst ds => (inD d ds).map fun b => .bl (if neg then !b else b)
  | .tup ds => (inD d ds).map fun b => .bl (if neg then !b else b)
  | .str z => match d with
    | .str x => if x.cps.size = 1 then some (.bl (if neg then !decide (x.cps.getD 0 0 ∈ z.cps.toList) else decide (x.cps.getD 0 0 ∈ z.cps.toList))) else none
    | _ => none
  | _ => none
theorem str_one {x : Str} (h : x.cps.size = 1) : x = ⟨#[x.cps.getD 0 0]⟩ := by
  obtain ⟨a⟩ := x
  congr 1
  apply Array.ext
  · simpa using h
  · intro i h1 h2
    have : i = 0 := by simp at h2; omega
    subst this
    simp [Array.getD, h1]
section
variable {K : Fg} {mg : Mg}
def rIn2 (K : Fg) (neg : Bool) : R2 := fun x y H Q => rIn K neg x y H Q ∨ ∃ (c : Nat) (z : Str), x = .str ⟨#[c]⟩ ∧ y = .str z ∧ Q (.bl (if neg then !decide (c ∈ z.cps.toList) else decide (c ∈ z.cps.toList))) H
theorem flatS {O : Addr → Prop} {ad : List Addr} {H : Hp} {x : V} {d : D} (r : RepS K mg O ad H x d) (f : flatD d = true) : Rep K mg (hide O H) ad x d := by
  rcases r with r | ⟨a, e, r⟩
  · exact r
  · cases d <;> first | exact r.elim | cases f
theorem op_dIn {neg : Bool} : OpP K mg (rIn2 K neg) (d_in neg) := by
  intro O ad H x y d e z rx ry h
  unfold d_in at h
  split at h
  · obtain ⟨b, hh, rfl⟩ := Option.map_eq_some_iff.mp h
    unfold inD at hh
    split at hh
    · rename_i ds hc
      cases hh
      obtain ⟨a, vs, rfl, h1, h2⟩ := ry.lst
      have fx := flatS rx hc.1
      obtain ⟨q1, q2⟩ := inF_V fx hc.1 h2 hc.2
      exact res_v (.bl _) fun Q q => .inl ⟨a, vs, rfl, .inl h1, flat_V fx hc.1, q1, by rw [q2]; exact q⟩
    · cases hh
  · obtain ⟨b, hh, rfl⟩ := Option.map_eq_some_iff.mp h
    unfold inD at hh
    split at hh
    · rename_i ds hc
      cases hh
      obtain ⟨a, vs, rfl, h1, h2⟩ := ry.tup
      have fx := flatS rx hc.1
      obtain ⟨q1, q2⟩ := inF_V fx hc.1 h2 hc.2
      exact res_v (.bl _) fun Q q => .inl ⟨a, vs, rfl, .inr h1, flat_V fx hc.1, q1, by rw [q2]; exact q⟩
    · cases hh
  · split at h
    · split at h
      · rename_i hc
        cases h
        cases rx.str
        cases ry.str
        exact res_v (.bl _) fun Q q => .inr ⟨_, _, by rw [← str_one hc], rfl, q⟩
      · cases h
    · cases h
  · cases h
end

/-! ### items -/
def d_ix : D → D → Option D := fun d e => match d, e with
  | .lst ds, .int i => atI ds i
  | .tup ds, .int i => atI ds i
  | .str z, .int i => if z.length ≤ 100000 then (atI z.cps.toList i).map fun c => .str ⟨#[c]⟩ else none
  | _, _ => none
theorem atI_rep {K : Fg} {mg : Mg} {G : Hp} {ad : List Addr} {vs : List V} {ds : List D} (r : Reps K mg G ad vs ds) {i : Int} {z : D} (h : atI ds i = some z) : ∃ v, atI vs i = some v ∧ Rep K mg G ad v z := by
  unfold atI at h ⊢
  obtain ⟨j, h1, h2⟩ := Option.bind_eq_some_iff.mp h
  rw [r.length, h1]
  obtain ⟨v, q1, q2⟩ := r.get h2
  exact ⟨v, q1, q2⟩
theorem op_dIx {K : Fg} {mg : Mg} : OpP K mg (rIx K) d_ix := by
  intro O ad H x y d e z rx ry h
  unfold d_ix at h
  split at h
  · rename_i ds i
    obtain ⟨a, vs, rfl, h1, h2⟩ := rx.lst
    cases ry.int
    obtain ⟨v, q1, q2⟩ := atI_rep h2 h
    exact res_v q2 fun Q q => .inl ⟨a, vs, i, v, rfl, rfl, h1, q1, q⟩
  · rename_i ds i
    obtain ⟨a, vs, rfl, h1, h2⟩ := rx.tup
    cases ry.int
    obtain ⟨v, q1, q2⟩ := atI_rep h2 h
    exact res_v q2 fun Q q => .inr (.inl ⟨a, vs, i, v, rfl, rfl, h1, q1, q⟩)
  · rename_i w i
    split at h
    · rename_i hl
      obtain ⟨c, h1, rfl⟩ := Option.map_eq_some_iff.mp h
      cases rx.str
      cases ry.int
      exact res_v (.str _) fun Q q => .inr (.inr ⟨w, i, c, rfl, rfl, sz5 hl, h1, q⟩)
    · cases h
  · cases h

/-! ### built-in calls -/
def derefL (ρ : Ro) (S : Sg) : List D → Option (List D)
  | [] => some []
  | d :: ds => match deref ρ S d, derefL ρ S ds with
    | some a, some b => some (a :: b)
    | _, _ => none
def e_cb (f : List D → Option D) (r : MA) : ME := fun ρ S => (r ρ S).bind fun ds S1 => liftO S1 ((derefL ρ S1 ds).bind f)
def CallP (K : Fg) (mg : Mg) (r : List V → Hp → VK → Prop) (f : List D → Option D) : Prop :=
  ∀ O ad H vs ds z, Paired (RepS K mg O ad H) vs ds → f ds = some z → Res K mg O ad H z (r vs H)
section
variable {K : Fg} {mg : Mg} {W : WX}
theorem derefL_rep {O : Addr → Prop} {ad : List Addr} {S : Sg} {ρ : Ro} {σ : L2.St} {H : Hp} (f : Fre K mg O ad ρ σ H) (s : Sto K mg O ad S H) : ∀ {vs : List V} {ds es : List D}, Paired (RepR K mg O ad ρ σ H) vs ds → derefL ρ S ds = some es → Paired (RepS K mg O ad H) vs es
  | _, _, _, .nil, e => by cases e; exact .nil
  | _, _, _, .cons r t, e => by
    unfold derefL at e
    split at e
    · rename_i a b h1 h2
      cases e
      exact .cons (deref_rep f s r h1) (derefL_rep f s t h2)
    · cases e
theorem w_cb {r : List V → Hp → VK → Prop} {f : List D → Option D} {a : MA} (hf : CallP K mg r f) : ∀ σ H Q, Ee K mg W (e_cb f a) σ H Q → tCB r (Ea K mg W a) σ H Q := by
  intro σ H Q q
  refine (bindAE (f := fun ρ ds S1 => liftO S1 ((derefL ρ S1 ds).bind f)) q).imp fun vs H1 g => ?_
  obtain ⟨O, ad, S, ρ, ds, s, fr, r1, k⟩ := g
  obtain ⟨z, ez⟩ := liftO_ok k
  obtain ⟨d', ed, ez⟩ := Option.bind_eq_some_iff.mp ez
  have kv := hf O ad H1 vs d' z (derefL_rep fr s r1 ed) ez
  rw [ed] at k
  simp only [Option.bind_some, ez, liftO] at k
  exact kv.go s k
end
def d_1 (f : D → Option D) : List D → Option D
  | [d] => f d
  | _ => none
def d_2 (f : D → D → Option D) : List D → Option D
  | [d, e] => f d e
  | _ => none
theorem paired1 {α β : Type} {R : α → β → Prop} {xs : List α} {y : β} (h : Paired R xs [y]) : ∃ x, xs = [x] ∧ R x y := by
  cases h with
  | cons a b => cases b; exact ⟨_, rfl, a⟩
theorem paired2 {α β : Type} {R : α → β → Prop} {xs : List α} {y z : β} (h : Paired R xs [y, z]) : ∃ x w, xs = [x, w] ∧ R x y ∧ R w z := by
  cases h with
  | cons a b => cases b with | cons c d => cases d; exact ⟨_, _, rfl, a, c⟩
theorem d_1_some {f : D → Option D} {ds : List D} {z : D} (h : d_1 f ds = some z) : ∃ d, ds = [d] ∧ f d = some z := by
  unfold d_1 at h
  split at h
  · exact ⟨_, rfl, h⟩
  · cases h
theorem d_2_some {f : D → D → Option D} {ds : List D} {z : D} (h : d_2 f ds = some z) : ∃ d e, ds = [d, e] ∧ f d e = some z := by
  unfold d_2 at h
  split at h
  · exact ⟨_, _, rfl, h⟩
  · cases h
/-! len -/
def d_len : D → Option D
  | .lst ds => some (.int ds.length)
  | .tup ds => some (.int ds.length)
  | .str z => if z.length ≤ 100000 then some (.int z.length) else none
  | _ => none
def rLen2 (K : Fg) : List V → Hp → VK → Prop := fun xs H Q => (∃ p ys, xs = [.ref p] ∧ (SqL K H p ys ∨ SqT K H p ys) ∧ Q (.int ys.length) H) ∨ ∃ z, xs = [.str z] ∧ z.length ≤ sizeLine ∧ Q (.int z.length) H
theorem cr_len2 {X : Cx} : CallR X (.builtin "len") (rLen2 X.g) := call_len_seq.or call_len_str
theorem cp_len {K : Fg} {mg : Mg} : CallP K mg (rLen2 K) (d_1 d_len) := by
  intro O ad H vs ds z r h
  obtain ⟨d, rfl, hh⟩ := d_1_some h
  clear h
  obtain ⟨v, rfl, r1⟩ := paired1 r
  clear r
  unfold d_len at hh
  split at hh
  · cases hh
    obtain ⟨a, vs, rfl, h1, h2⟩ := r1.lst
    exact res_v (.int _) fun Q q => .inl ⟨a, vs, rfl, .inl h1, by rw [h2.length]; exact q⟩
  · cases hh
    obtain ⟨a, vs, rfl, h1, h2⟩ := r1.tup
    exact res_v (.int _) fun Q q => .inl ⟨a, vs, rfl, .inr h1, by rw [h2.length]; exact q⟩
  · split at hh
    · rename_i hl
      cases hh
      cases r1.str
      exact res_v (.int _) fun Q q => .inr ⟨_, rfl, sz5 hl, q⟩
    · cases hh
  · cases hh
/-! abs -/
def d_abs : D → Option D
  | .int i => some (.int (if i < 0 then -i else i))
  | _ => none
theorem cp_abs {K : Fg} {mg : Mg} : CallP K mg (fun xs H Q => ∃ i, xs = [.int i] ∧ Q (.int (if i < 0 then -i else i)) H) (d_1 d_abs) := by
  intro O ad H vs ds z r h
  obtain ⟨d, rfl, hh⟩ := d_1_some h
  clear h
  obtain ⟨v, rfl, r1⟩ := paired1 r
  clear r
  unfold d_abs at hh
  split at hh
  · cases hh
    cases r1.int
    exact res_v (.int _) fun Q q => ⟨_, rfl, q⟩
  · cases hh
/-! all, any -/
def asBl : D → Option Bool
  | .bl b => some b
  | _ => none
def blsOf : List D → Option (List Bool)
  | [] => some []
  | d :: ds => match asBl d, blsOf ds with
    | some a, some b => some (a :: b)
    | _, _ => none
theorem blsOf_eq : ∀ {ds : List D} {bs : List Bool}, blsOf ds = some bs → ds = bs.map .bl
  | [], _, h => by cases h; rfl
  | d :: ds, _, h => by
    unfold blsOf at h
    split at h
    · rename_i a b h1 h2
      cases h
      cases d <;> cases h1
      rw [blsOf_eq h2]; rfl
    · cases h
theorem blsOf_map (bs : List Bool) : blsOf (bs.map .bl) = some bs := by
  induction bs with
  | nil => rfl
  | cons b bs ih => simp [blsOf, asBl, ih]
def d_all : D → Option D
  | .lst ds => (blsOf ds).map fun bs => .bl (bs.all id)
  | _ => none
def d_any : D → Option D
  | .lst ds => (blsOf ds).map fun bs => .bl (bs.any id)
  | _ => none
theorem cp_all {K : Fg} {mg : Mg} : CallP K mg (rAll K) (d_1 d_all) := by
  intro O ad H vs ds z r h
  obtain ⟨d, rfl, hh⟩ := d_1_some h
  clear h
  obtain ⟨v, rfl, r1⟩ := paired1 r
  clear r
  unfold d_all at hh
  split at hh
  · obtain ⟨bs, h1, rfl⟩ := Option.map_eq_some_iff.mp hh
    obtain ⟨a, ws, rfl, h2, h3⟩ := r1.lst
    rw [blsOf_eq h1] at h3
    exact res_v (.bl _) fun Q q => ⟨a, bs, rfl, by rw [← h3.bls]; exact h2, q⟩
  · cases hh
theorem cp_any {K : Fg} {mg : Mg} : CallP K mg (rAny K) (d_1 d_any) := by
  intro O ad H vs ds z r h
  obtain ⟨d, rfl, hh⟩ := d_1_some h
  clear h
  obtain ⟨v, rfl, r1⟩ := paired1 r
  clear r
  unfold d_any at hh
  split at hh
  · obtain ⟨bs, h1, rfl⟩ := Option.map_eq_some_iff.mp hh
    obtain ⟨a, ws, rfl, h2, h3⟩ := r1.lst
    rw [blsOf_eq h1] at h3
    exact res_v (.bl _) fun Q q => ⟨a, bs, rfl, by rw [← h3.bls]; exact h2, q⟩
  · cases hh

/-! ### slices -/
def cutD (ds : List D) (lo hi : Option Int) : List D := (ds.drop (HT.sIx ds.length 0 lo)).take (HT.sIx ds.length ds.length hi - HT.sIx ds.length 0 lo)
def d_sl (d : D) (lo hi : Option Int) : Option D := match d with
  | .lst ds => some (.lst (cutD ds lo hi))
  | .str z => if z.length ≤ 100000 then some (.str (cutS z lo hi)) else none
  | _ => none
def rSl2 (K : Fg) : V → Option Int → Option Int → Hp → VK → Prop := fun x lo hi H Q => rSlL K x lo hi H Q ∨ rSlS x lo hi H Q
def SlP (K : Fg) (mg : Mg) (r : V → Option Int → Option Int → Hp → VK → Prop) (f : D → Option Int → Option Int → Option D) : Prop :=
  ∀ O ad H x d lo hi z, RepS K mg O ad H x d → f d lo hi = some z → Res K mg O ad H z (r x lo hi H)
theorem sp_sl {K : Fg} {mg : Mg} : SlP K mg (rSl2 K) d_sl := by
  intro O ad H x d lo hi z r h
  unfold d_sl at h
  split at h
  · cases h
    obtain ⟨a, vs, rfl, h1, h2⟩ := r.lst
    refine .inr ⟨rfl, .lst (cutV vs lo hi), fun p G e ep => .lst (.of ep) ?_, fun Q q => .inl ⟨a, vs, rfl, h1, q⟩⟩
    unfold cutV cutD
    rw [h2.length]
    exact ((h2.drop _).take _).mono e fun _ _ e => e
  · split at h
    · rename_i hl
      cases h
      cases r.str
      exact res_v (.str _) fun Q q => .inr ⟨_, rfl, sz5 hl, q⟩
    · cases h
  · cases h
abbrev MO := Ro → Sg → Out (Option Int)
def o_no : MO := fun _ S => .ok none S
def o_e (m : ME) : MO := fun ρ S => (m ρ S).bind fun d S1 => match d with
  | .int i => .ok (some i) S1
  | _ => .no
def e_sl (f : D → Option Int → Option Int → Option D) (a : ME) (lo hi : MO) : ME := fun ρ S => (a ρ S).bind fun d S1 => (lo ρ S1).bind fun l S2 => (hi ρ S2).bind fun h S3 => liftO S3 ((deref ρ S3 d).bind fun d' => f d' l h)
section
variable (K : Fg) (mg : Mg)
def PostO (W : WX) (ρ : Ro) (σ : L2.St) (Q : Option Int → Hp → Prop) (O : Addr → Prop) (ad : List Addr) (H : Hp) : Out (Option Int) → Prop
  | .ok b S' => ∀ O' ad' H', Stp O ad H O' ad' H' → Sto K mg O' ad' S' H' → Q b H'
  | .er x fs S' => ∀ cls dd O' ad' H', Stp O ad H O' ad' H' → Sto K mg O' ad' S' H' → XRep K mg O' ad' H' cls dd x fs → W cls dd σ H'
  | .no => False
def Eo (W : WX) (m : MO) : TO := fun σ H Q => ∃ O ad S ρ, Sto K mg O ad S H ∧ Fre K mg O ad ρ σ H ∧ PostO K mg W ρ σ Q O ad H (m ρ S)
end
section
variable {K : Fg} {mg : Mg} {W : WX}
theorem w_ono : ∀ σ H Q, Eo K mg W o_no σ H Q → tNoPart σ H Q := by
  rintro σ H Q ⟨O, ad, S, ρ, s, fr, k⟩
  exact k O ad H (.refl _ _ _) s
theorem w_oe {m : ME} : ∀ σ H Q, Eo K mg W (o_e m) σ H Q → tPart (Ee K mg W m) σ H Q := by
  rintro σ H Q ⟨O, ad, S, ρ, s, fr, k⟩
  refine ⟨O, ad, S, ρ, s, fr, ?_⟩
  unfold o_e at k
  cases e : m ρ S with
  | no => rw [e] at k; exact k
  | er x fs S1 => rw [e] at k; exact k
  | ok d S1 =>
    rw [e] at k
    intro v O' ad' H' t z r
    cases d with
    | int i =>
      have r' : Rep K mg (hide O' H') ad' v (.int i) := r
      cases r'
      exact ⟨i, rfl, k O' ad' H' t z⟩
    | _ => exact k.elim
theorem w_sl {r : V → Option Int → Option Int → Hp → VK → Prop} {f : D → Option Int → Option Int → Option D} {a : ME} {lo hi : MO} (hf : SlP K mg r f) : ∀ σ H Q, Ee K mg W (e_sl f a lo hi) σ H Q → tSl r (Ee K mg W a) (Eo K mg W lo) (Eo K mg W hi) σ H Q := by
  intro σ H Q q
  refine (bindE (f := fun ρ d S1 => (lo ρ S1).bind fun l S2 => (hi ρ S2).bind fun h S3 => liftO S3 ((deref ρ S3 d).bind fun d' => f d' l h)) q).imp fun x H1 g => ?_
  obtain ⟨O, ad, S, ρ, d, s, fr, rx, k⟩ := g
  refine ⟨O, ad, S, ρ, s, fr, ?_⟩
  cases e : lo ρ S with
  | no => rw [e] at k; exact k
  | er x fs S1 => rw [e] at k; exact k
  | ok l S1 =>
    rw [e] at k
    intro O1 ad1 H2 t1 s1
    have k1 : PostE K mg W ρ σ Q O1 ad1 H2 ((hi ρ S1).bind fun h S3 => liftO S3 ((deref ρ S3 d).bind fun d' => f d' l h)) := PostE.rebase k t1 s.hid s1.dom
    have fr1 := fr.step s.hid t1
    have rx1 := rx.step s.hid t1
    refine ⟨O1, ad1, S1, ρ, s1, fr1, ?_⟩
    cases e2 : hi ρ S1 with
    | no => rw [e2] at k1; exact k1
    | er x fs S2 => rw [e2] at k1; exact k1
    | ok h S2 =>
      rw [e2] at k1
      intro O2 ad2 H3 t2 s2
      have k2 : PostE K mg W ρ σ Q O2 ad2 H3 (liftO S2 ((deref ρ S2 d).bind fun d' => f d' l h)) := PostE.rebase k1 t2 s1.hid s2.dom
      obtain ⟨z, ez⟩ := liftO_ok k2
      obtain ⟨d', ed, ez⟩ := Option.bind_eq_some_iff.mp ez
      have kv := hf O2 ad2 H3 x d' l h z (deref_rep (fr1.step s1.hid t2) s2 (rx1.step s1.hid t2) ed) ez
      rw [ed] at k2
      simp only [Option.bind_some, ez, liftO] at k2
      exact kv.go s2 k2
end
section
variable {X : Cx} {W : WX}
theorem po_of {e : Option Expr} {t t' : TO} (h : PO X e t) (w : ∀ σ H Q, t' σ H Q → t σ H Q) : PO X e t' := ⟨fun pins s σ H Q I q => h.run pins s σ H Q I (w _ _ _ q)⟩
theorem O_no : PO X none (Eo X.g X.mg W o_no) := po_of po_none w_ono
theorem O_e {e : Expr} {m : ME} (h : PE X e (Ee X.g X.mg W m)) : PO X (some e) (Eo X.g X.mg W (o_e m)) := po_of (po_some h) w_oe
end
end Gd

/-! Gd, part 6: what is walked; loops, comprehensions, stores, methods, isinstance. -/
namespace Gd
open PySem L2 PyProof.Rows

/-! ### a list, a tuple, a text -/
def signs (z : Str) : List D := z.cps.toList.map fun c => .str ⟨#[c]⟩
def itemsG : D → Option (List D)
  | .lst ds => some ds
  | .tup ds => some ds
  | .str z => some (signs z)
  | _ => none
def itemsC (ρ : Ro) (d : D) : Option (List D) := match d with
  | .loc i => (match ρ[i]? with
    | some (.ow (.lst ds)) => some ds
    | _ => none)
  | d => itemsG d
def liftI (S : Sg) : Option (List D) → Out (List D)
  | some z => .ok z S
  | none => .no
def i_seqG (m : ME) : MI := fun ρ S => (m ρ S).bind fun d S1 => liftI S1 (itemsG d)
def i_seqC (m : ME) : MI := fun ρ S => (m ρ S).bind fun d S1 => liftI S1 (itemsC ρ d)
def iAny (K : Fg) (tl : TE) : TI := fun σ H R => tl σ H fun x H1 => (∃ a xs, x = .ref a ∧ SqL K H1 a xs ∧ R (Itl K a) H1) ∨ (∃ a xs, x = .ref a ∧ SqT K H1 a xs ∧ R (Itt K a) H1) ∨ ∃ z, x = .str z ∧ R (Its z) H1
theorem pi_any {X : Cx} {tg l : Expr} {tl : TE} (hl : PE X l tl) : PI X tg l (iAny X.g tl) := by
  constructor
  intro pins s σ H R I h
  apply thn (hl.run pins s σ H _ I h)
  rintro v s1 ⟨x, H1, I1, r1, ⟨a, xs, rfl, hq, q⟩ | ⟨a, xs, rfl, hq, q⟩ | ⟨z, rfl, q⟩⟩
  · cases r1
    obtain ⟨its, rv, p, _⟩ := I1.list hq
    exact wpAny_pyIter_list p.isList (pi_one (tk := s1.toks) I1 _ (turn_list a _) ⟨_, Heap.get?_push_size _ rfl, rfl, rfl⟩ q)
  · cases r1
    obtain ⟨its, rv, p, _⟩ := I1.tuple hq
    exact wpAny_pyIter_tuple (show s1.heap.IsTuple a its.toArray from p) (pi_one (tk := s1.toks) I1 _ (turn_tuple a _) ⟨_, Heap.get?_push_size _ rfl, rfl, rfl⟩ q)
  · obtain ⟨t, rfl⟩ := r1
    cases hz : z.cps.all (· < 128) with
    | false => exact wpAny_pyIter_wide hz (pi_one (tk := s1.toks) I1 _ (turn_str _ z t "str_iterator" (.inr rfl)) ⟨_, Heap.get?_push_size _ rfl, rfl, rfl⟩ q)
    | true => exact wpAny_pyIter_ascii hz (pi_one (tk := s1.toks) I1 _ (turn_str _ z t "str_ascii_iterator" (.inl rfl)) ⟨_, Heap.get?_push_size _ rfl, rfl, rfl⟩ q)
section
variable {K : Fg} {mg : Mg} {W : WX}
/-- items of a thing that stands still -/
theorem src_at {J : It} {G : Hp → Prop} {vs : List V} {ds : List D} {O : Addr → Prop} {ad : List Addr} {H : Hp} {ok : (Addr → Prop) → List Addr → Hp → Prop} (w : Walk J vs.length G (YAt vs)) (r : Reps K mg (hide O H) ad vs ds)
    (hG : ∀ O2 ad2 H2, ok O2 ad2 H2 → G H2) (hr : ∀ O2 ad2 H2, ok O2 ad2 H2 → Reps K mg (hide O2 H2) ad2 vs ds) : Src K mg ok J ds := by
  refine ⟨G, YAt vs, ?_, hG, fun i H2 x H3 O2 ad2 S2 h2 s2 hi y => ?_⟩
  · rw [← r.length]; exact w
  · obtain ⟨rfl, hx⟩ := y
    obtain ⟨d, h3, h4⟩ := (hr O2 ad2 _ h2).getV hx
    exact ⟨d, h3, .refl _ _ _, s2, h4⟩
theorem signs_get {z : Str} {i : Nat} {c : Nat} (h : z.cps[i]? = some c) : (signs z)[i]? = some (.str ⟨#[c]⟩) := by
  unfold signs
  rw [List.getElem?_map, Array.getElem?_toList, h]
  rfl
theorem src_str {z : Str} {ok : (Addr → Prop) → List Addr → Hp → Prop} : Src K mg ok (Its z) (signs z) := by
  refine ⟨fun _ => True, _, (by unfold signs; rw [List.length_map, Array.length_toList]; exact walk_str), fun _ _ _ _ => trivial, fun i H2 x H3 O2 ad2 S2 h2 s2 hi y => ?_⟩
  obtain ⟨rfl, c, hc, rfl⟩ := y
  exact ⟨_, signs_get hc, .refl _ _ _, s2, .str _⟩
theorem liftI_ok {rel : Rel} {ρ : Ro} {σ : L2.St} {O : Addr → Prop} {ad : List Addr} {H : Hp} {S : Sg} {o : Option (List D)} {Q : It → Hp → Prop} (h : PostI K mg rel W ρ σ Q O ad H (liftI S o)) : ∃ z, o = some z := by
  cases o with
  | some z => exact ⟨z, rfl⟩
  | none => exact h.elim
theorem bindEI {rel : Rel} {m : ME} {f : Ro → D → Sg → Out (List D)} {σ : L2.St} {H : Hp} {Q : It → Hp → Prop} (h : Ei K mg rel W (fun ρ S => (m ρ S).bind (f ρ)) σ H Q) :
    Ee K mg W m σ H fun v H1 => AtE K mg σ H1 v fun O ad ρ S d => PostI K mg rel W ρ σ Q O ad H1 (f ρ d S) := by
  obtain ⟨O, ad, S, ρ, s, fr, h⟩ := h
  refine ⟨O, ad, S, ρ, s, fr, ?_⟩
  dsimp only at h
  cases e : m ρ S with
  | ok d S1 =>
    rw [e] at h
    refine fun v O' ad' H' t z r => ⟨O', ad', S1, ρ, d, z, fr.step s.hid t, r, ?_⟩
    have h : PostI K mg rel W ρ σ Q O ad H (f ρ d S1) := h
    show PostI K mg rel W ρ σ Q O' ad' H' (f ρ d S1)
    cases e2 : f ρ d S1 with
    | ok ds S2 => rw [e2] at h; exact fun O2 ad2 H2 J t2 z2 sr => h O2 ad2 H2 J (t.trans t2 s.hid z.dom) z2 sr
    | er x fs S2 => rw [e2] at h; exact fun cls dd O2 ad2 H2 t2 z2 r2 => h cls dd O2 ad2 H2 (t.trans t2 s.hid z.dom) z2 r2
    | no => rw [e2] at h; exact h
  | er x fs S1 => rw [e] at h; exact h
  | no => rw [e] at h; exact h
theorem seq_still {rel : Rel} {O : Addr → Prop} {ad : List Addr} {H1 : Hp} {d : D} {v : V} {z : List D} {R : It → Hp → Prop} (hr : ∀ O2 ad2 H2, rel O ad H1 O2 ad2 H2 → Grow O ad H1 O2 ad2 H2) (r : Rep K mg (hide O H1) ad v d) (ez : itemsG d = some z)
    (k : ∀ J, Src K mg (rel O ad H1) J z → R J H1) : (∃ a xs, v = .ref a ∧ SqL K H1 a xs ∧ R (Itl K a) H1) ∨ (∃ a xs, v = .ref a ∧ SqT K H1 a xs ∧ R (Itt K a) H1) ∨ ∃ z, v = .str z ∧ R (Its z) H1 := by
  unfold itemsG at ez
  split at ez
  · cases ez
    cases r with
    | lst h1 h2 => exact .inl ⟨_, _, rfl, sql_mono un_hide h1, k _ (src_at walk_list h2 (fun O2 ad2 H2 g => sql_mono un_hide (sql_mono (hr _ _ _ g).ex h1)) fun O2 ad2 H2 g => h2.mono (hr _ _ _ g).ex (hr _ _ _ g).ap)⟩
  · cases ez
    cases r with
    | tup h1 h2 => exact .inr (.inl ⟨_, _, rfl, sqt_mono un_hide h1, k _ (src_at walk_tup h2 (fun O2 ad2 H2 g => sqt_mono un_hide (sqt_mono (hr _ _ _ g).ex h1)) fun O2 ad2 H2 g => h2.mono (hr _ _ _ g).ex (hr _ _ _ g).ap)⟩)
  · cases ez
    cases r with
    | str => exact .inr (.inr ⟨_, rfl, k _ src_str⟩)
  · cases ez
theorem itemsG_loc {d : D} {z : List D} (h : itemsG d = some z) : isLoc d = false := by
  cases d <;> first | rfl | cases h
theorem w_seqG {m : ME} : ∀ σ H R, Ei K mg Grow W (i_seqG m) σ H R → iAny K (Ee K mg W m) σ H R := by
  intro σ H R q
  refine (bindEI (f := fun _ d S1 => liftI S1 (itemsG d)) q).imp fun v H1 g => ?_
  obtain ⟨O, ad, S, ρ, d, s, fr, r, k⟩ := g
  obtain ⟨z, ez⟩ := liftI_ok k
  rw [ez] at k
  exact seq_still (rel := Grow) (fun _ _ _ g => g) (r.rep (itemsG_loc ez)) ez fun J sr => k O ad H1 J (.refl _ _ _) s sr
theorem w_seqC {m : ME} : ∀ σ H R, Ei K mg Stp W (i_seqC m) σ H R → iAny K (Ee K mg W m) σ H R := by
  intro σ H R q
  refine (bindEI (f := fun ρ d S1 => liftI S1 (itemsC ρ d)) q).imp fun v H1 g => ?_
  obtain ⟨O, ad, S, ρ, d, s, fr, r, k⟩ := g
  obtain ⟨z, ez⟩ := liftI_ok k
  rw [ez] at k
  have oth : itemsG d = some z → (∃ a xs, v = .ref a ∧ SqL K H1 a xs ∧ R (Itl K a) H1) ∨ (∃ a xs, v = .ref a ∧ SqT K H1 a xs ∧ R (Itt K a) H1) ∨ ∃ z, v = .str z ∧ R (Its z) H1 := fun ez =>
    seq_still (rel := Stp) (fun _ _ _ g => g.grow s.hid) (r.rep (itemsG_loc ez)) ez fun J sr => k O ad H1 J (.refl _ _ _) s sr
  cases d with
  | loc i =>
    obtain ⟨⟨e, he⟩, h1⟩ := r
    have ez' : (match ρ[i]? with | some (.ow (.lst ds)) => some ds | _ => none) = some z := ez
    rw [he] at ez'
    obtain ⟨a, h2, h3, h4, h5⟩ := fr.ow i _ he
    rw [h2] at h1
    cases h1
    cases e with
    | lst ds =>
      cases ez'
      obtain ⟨vs, h5, h6⟩ := h5
      exact .inl ⟨a, vs, rfl, .of h5, k O ad H1 _ (.refl _ _ _) s (src_at walk_list h6 (fun O2 ad2 H2 g => .of (g.fr a _ h5 h4)) fun O2 ad2 H2 g => h6.mono (g.hide s.hid) g.get)⟩
    | _ => cases ez'
  | _ => exact oth ez
end

/-! ### range -/
def rng (lo : Int) (n : Nat) : List D := (List.range n).map fun (i : Nat) => .int (lo + (i : Int))
def rngOf : List D → Option (List D)
  | [.int n] => if -100000 ≤ n ∧ n ≤ 100000 then some (rng 0 n.toNat) else none
  | [.int a, .int b] => if (-100000 ≤ a ∧ a ≤ 100000) ∧ -100000 ≤ b ∧ b ≤ 100000 then some (rng a (b - a).toNat) else none
  | _ => none
def i_rng (r : MA) : MI := fun ρ S => (r ρ S).bind fun ds S1 => liftI S1 (rngOf ds)
section
variable {K : Fg} {mg : Mg} {W : WX} {rel : Rel}
theorem src_rng {lo : Int} {n : Nat} {ok : (Addr → Prop) → List Addr → Hp → Prop} : Src K mg ok (Itr lo n) (rng lo n) := by
  have hl : (rng lo n).length = n := by unfold rng; rw [List.length_map, List.length_range]
  refine ⟨fun _ => True, _, (by rw [hl]; exact walk_range), fun _ _ _ _ => trivial, fun i H2 x H3 O2 ad2 S2 h2 s2 hi y => ?_⟩
  obtain ⟨rfl, rfl⟩ := y
  rw [hl] at hi
  refine ⟨_, ?_, .refl _ _ _, s2, .int _⟩
  unfold rng
  rw [List.getElem?_map, List.getElem?_range hi]
  rfl
theorem bindAI {m : MA} {f : Ro → List D → Sg → Out (List D)} {σ : L2.St} {H : Hp} {Q : It → Hp → Prop} (h : Ei K mg rel W (fun ρ S => (m ρ S).bind (f ρ)) σ H Q) :
    Ea K mg W m σ H fun vs H1 => ∃ O ad S ρ ds, Sto K mg O ad S H1 ∧ Fre K mg O ad ρ σ H1 ∧ Paired (RepR K mg O ad ρ σ H1) vs ds ∧ PostI K mg rel W ρ σ Q O ad H1 (f ρ ds S) := by
  obtain ⟨O, ad, S, ρ, s, fr, h⟩ := h
  refine ⟨O, ad, S, ρ, s, fr, ?_⟩
  dsimp only at h
  cases e : m ρ S with
  | ok d S1 =>
    rw [e] at h
    refine fun v O' ad' H' t z r => ⟨O', ad', S1, ρ, d, z, fr.step s.hid t, r, ?_⟩
    have h : PostI K mg rel W ρ σ Q O ad H (f ρ d S1) := h
    show PostI K mg rel W ρ σ Q O' ad' H' (f ρ d S1)
    cases e2 : f ρ d S1 with
    | ok ds S2 => rw [e2] at h; exact fun O2 ad2 H2 J t2 z2 sr => h O2 ad2 H2 J (t.trans t2 s.hid z.dom) z2 sr
    | er x fs S2 => rw [e2] at h; exact fun cls dd O2 ad2 H2 t2 z2 r2 => h cls dd O2 ad2 H2 (t.trans t2 s.hid z.dom) z2 r2
    | no => rw [e2] at h; exact h
  | er x fs S1 => rw [e] at h; exact h
  | no => rw [e] at h; exact h
theorem rint {O : Addr → Prop} {ad : List Addr} {ρ : Ro} {σ : L2.St} {H : Hp} {v : V} {i : Int} (r : RepR K mg O ad ρ σ H v (.int i)) : v = .int i := by
  have r' : Rep K mg (hide O H) ad v (.int i) := r
  cases r'; rfl
theorem w_rngA {r : MA} : ∀ σ H R, Ei K mg rel W (i_rng r) σ H R → Ea K mg W r σ H fun vs H1 => (∃ j : Int, vs = [.int j] ∧ -(2 ^ 62) ≤ j ∧ j < 2 ^ 62 ∧ R (Itr 0 j.toNat) H1) ∨ ∃ i j : Int, vs = [.int i, .int j] ∧ (-(2 ^ 62) ≤ i ∧ i < 2 ^ 62 ∧ -(2 ^ 62) ≤ j ∧ j < 2 ^ 62) ∧ R (Itr i (j - i).toNat) H1 := by
  intro σ H R q
  refine (bindAI (f := fun _ ds S1 => liftI S1 (rngOf ds)) q).imp fun vs H1 g => ?_
  obtain ⟨O, ad, S, ρ, ds, s, fr, r, k⟩ := g
  obtain ⟨z, ez⟩ := liftI_ok k
  unfold rngOf at ez
  split at ez
  · rename_i n
    split at ez
    · rename_i hc
      cases ez
      obtain ⟨v, rfl, r1⟩ := paired1 r
      cases rint r1
      have k2 : PostI K mg rel W ρ σ R O ad H1 (.ok (rng 0 n.toNat) S) := by simpa [rngOf, hc, liftI] using k
      exact .inl ⟨n, rfl, by omega, by omega, k2 O ad H1 _ (.refl _ _ _) s src_rng⟩
    · cases ez
  · rename_i a b
    split at ez
    · rename_i hc
      cases ez
      obtain ⟨v, w, rfl, r1, r2⟩ := paired2 r
      cases rint r1
      cases rint r2
      have k2 : PostI K mg rel W ρ σ R O ad H1 (.ok (rng a (b - a).toNat) S) := by simpa [rngOf, hc, liftI] using k
      exact .inr ⟨a, b, rfl, by omega, k2 O ad H1 _ (.refl _ _ _) s src_rng⟩
    · cases ez
  · cases ez
theorem pi_of {X : Cx} {tg e : Expr} {t t' : TI} (h : PI X tg e t) (w : ∀ σ H Q, t' σ H Q → t σ H Q) : PI X tg e t' := ⟨fun pins s σ H Q I q => h.run pins s σ H Q I (w _ _ _ q)⟩
end
def aLen (n : Nat) (r : MA) : Prop := ∀ ρ S, match r ρ S with
  | .ok ds _ => ds.length = n
  | _ => True
theorem aLen_nil : aLen 0 a_nil := fun _ _ => rfl
theorem aLen_cons {n : Nat} {m : ME} {r : MA} (h : aLen n r) : aLen (n + 1) (a_cons m r) := by
  intro ρ S
  unfold a_cons
  cases e : m ρ S with
  | ok d S1 =>
    simp only [Out.bind]
    have := h ρ S1
    cases e2 : r ρ S1 with
    | ok ds S2 => rw [e2] at this; simp only [List.length_cons]; exact congrArg (· + 1) this
    | er x fs S2 => trivial
    | no => trivial
  | er x fs S1 => trivial
  | no => trivial
section
variable {X : Cx} {W : WX} {tg e a b : Expr} {pos p : Pos} {m : ME} {ma mb : ME} {rel : Rel}
theorem I_seqG (h : PE X e (Ee X.g X.mg W m)) : PI X tg e (Ei X.g X.mg Grow W (i_seqG m)) := pi_of (pi_any h) w_seqG
theorem I_seqC (h : PE X e (Ee X.g X.mg W m)) : PI X tg e (Ei X.g X.mg Stp W (i_seqC m)) := pi_of (pi_any h) w_seqC
theorem I_rng1 (hg : Gl X "range") (hm : X.mg "range" = none) (ha : PE X a (Ee X.g X.mg W ma)) (h1 : starEach (a :: []) X.env = (false, eval a X.env) :: starEach [] X.env := by rfl) (hs : starEach [a] X.env = [(false, eval a X.env)] := by rfl) :
    PI X tg (.Call (.Name "range" p) [a] [] pos) (Ei X.g X.mg rel W (i_rng (a_cons ma a_nil))) :=
  pi_of (pi_range1 hg hm (A_cons ha A_nil h1) hs) fun σ H R q => by
    obtain ⟨O, ad, S, ρ, s, fr, k⟩ := q
    refine Ea.imp (Q := fun vs H1 => ((∃ j : Int, vs = [.int j] ∧ -(2 ^ 62) ≤ j ∧ j < 2 ^ 62 ∧ R (Itr 0 j.toNat) H1) ∨ ∃ i j : Int, vs = [.int i, .int j] ∧ (-(2 ^ 62) ≤ i ∧ i < 2 ^ 62 ∧ -(2 ^ 62) ≤ j ∧ j < 2 ^ 62) ∧ R (Itr i (j - i).toNat) H1) ∧ vs.length = 1) ?_ fun vs H1 g => ?_
    · have := w_rngA σ H R ⟨O, ad, S, ρ, s, fr, k⟩
      obtain ⟨O, ad, S, ρ, s, fr, k⟩ := this
      refine ⟨O, ad, S, ρ, s, fr, ?_⟩
      have al := aLen_cons (m := ma) aLen_nil ρ S
      cases e2 : a_cons ma a_nil ρ S with
      | ok ds S1 =>
        rw [e2] at k al
        exact fun vs O' ad' H' t z r => ⟨k vs O' ad' H' t z r, by rw [Paired.length r]; exact al⟩
      | er x fs S1 => rw [e2] at k; exact k
      | no => rw [e2] at k; exact k
    · obtain ⟨g1 | ⟨i, j, rfl, _⟩, g2⟩ := g
      · exact g1
      · simp at g2
theorem I_rng2 (hg : Gl X "range") (hm : X.mg "range" = none) (ha : PE X a (Ee X.g X.mg W ma)) (hb : PE X b (Ee X.g X.mg W mb)) (h1 : starEach (b :: []) X.env = (false, eval b X.env) :: starEach [] X.env := by rfl) (h2 : starEach (a :: [b]) X.env = (false, eval a X.env) :: starEach [b] X.env := by rfl)
    (hs : starEach [a, b] X.env = [(false, eval a X.env), (false, eval b X.env)] := by rfl) (hs2 : starEach [b] X.env = [(false, eval b X.env)] := by rfl) :
    PI X tg (.Call (.Name "range" p) [a, b] [] pos) (Ei X.g X.mg rel W (i_rng (a_cons ma (a_cons mb a_nil)))) :=
  pi_of (pi_range2 hg hm (A_cons ha (A_cons hb A_nil h1) h2) hs hs2) fun σ H R q => by
    obtain ⟨O, ad, S, ρ, s, fr, k⟩ := q
    refine Ea.imp (Q := fun vs H1 => ((∃ j : Int, vs = [.int j] ∧ -(2 ^ 62) ≤ j ∧ j < 2 ^ 62 ∧ R (Itr 0 j.toNat) H1) ∨ ∃ i j : Int, vs = [.int i, .int j] ∧ (-(2 ^ 62) ≤ i ∧ i < 2 ^ 62 ∧ -(2 ^ 62) ≤ j ∧ j < 2 ^ 62) ∧ R (Itr i (j - i).toNat) H1) ∧ vs.length = 2) ?_ fun vs H1 g => ?_
    · have := w_rngA σ H R ⟨O, ad, S, ρ, s, fr, k⟩
      obtain ⟨O, ad, S, ρ, s, fr, k⟩ := this
      refine ⟨O, ad, S, ρ, s, fr, ?_⟩
      have al := aLen_cons (m := ma) (aLen_cons (m := mb) aLen_nil) ρ S
      cases e2 : a_cons ma (a_cons mb a_nil) ρ S with
      | ok ds S1 =>
        rw [e2] at k al
        exact fun vs O' ad' H' t z r => ⟨k vs O' ad' H' t z r, by rw [Paired.length r]; exact al⟩
      | er x fs S1 => rw [e2] at k; exact k
      | no => rw [e2] at k; exact k
    · obtain ⟨⟨j, rfl, _⟩ | g1, g2⟩ := g
      · simp at g2
      · exact g1
/-! ### for, while, comprehensions -/
theorem S_for {iter : Expr} {body : List Stmt} {mi : MI} {ts : List Nat} {g : TG} {tgt : D → Ro → Option Ro} {mb : MS} (hp : PassesOwn (model X.prog X.w) X.A X.env X.xe) (hc : X.calm = true) (hi : PI X tg iter (Ei X.g X.mg Grow W mi)) (hg : PG X tg g) (tk : TgOk X.g X.mg ts g tgt)
    (hb : PSs X body (Ss X.g X.mg W mb)) (hs : ∀ x, foldedSetIterable iter X.env x = pure x := by intro _; rfl) : PS X (.For tg iter body [] pos) (Ss X.g X.mg W (s_for mi tgt mb)) := ps_of (ps_for hp hc hi hg hb hs) (w_for tk)
theorem S_while {c : Expr} {body : List Stmt} {t : MT} {mb : MS} (n : Nat) (hp : PassesOwn (model X.prog X.w) X.A X.env X.xe) (hc : PT X c (Et X.g X.mg W t)) (hb : PSs X body (Ss X.g X.mg W mb)) : PS X (.While c body [] pos) (Ss X.g X.mg W (s_wh t mb n)) := ps_of (ps_while hp hc hb) w_while
theorem F_lc {elt iter : Expr} {ifs : List Expr} {scope : Scope} {own : List (Str × Nat)} {mi : MI} {g : TG} {tgt : D → Ro → Option Ro} {t : MT} {m : ME} (hc : X.calm = true) (hN : X.N.Nodup) (hi : PI X tg iter (Ei X.g X.mg Stp W mi)) (ok : BlkOk X.N X.env.scope scope own) (tk : TgOk X.g X.mg (own.map (·.2)) g tgt)
    (hg : ∀ (s : Shared) (H : Hp) (C : Addr) (cl : List (Str × Addr)) (fp : List Addr), PG (X.blk s H scope (compEnvC scope cl C X.env) fp) tg g) (ht : ∀ (s : Shared) (H : Hp) (C : Addr) (cl : List (Str × Addr)) (fp : List Addr), PTs (X.blk s H scope (compEnvC scope cl C X.env) fp) ifs (Et X.g X.mg W0 t))
    (he : ∀ (s : Shared) (H : Hp) (C : Addr) (cl : List (Str × Addr)) (fp : List Addr), PE (X.blk s H scope (compEnvC scope cl C X.env) fp) elt (Ee X.g X.mg W0 m)) (hs : ∀ x, foldedSetIterable iter X.env x = pure x := by intro _; rfl) :
    PE X (.ListComp elt [⟨tg, iter, ifs, 0⟩] scope pos) (Ef X.g X.mg W (f_lc (own.map (·.2)) mi tgt t m)) := pe_of (pe_lc hc hN hi ok hg ht he hs) (w_lc tk)
/-- name = [..] -/
theorem S_ownLc {i : Nat} {y : Str} {py : Pos} {elt iter : Expr} {ifs : List Expr} {scope : Scope} {own : List (Str × Nat)} {spos : Pos} {mi : MI} {g : TG} {tgt : D → Ro → Option Ro} {t : MT} {m : ME} (hc : X.calm = true) (hN : X.N.Nodup) (hy : X.N[i]? = some y) (hyl : X.env.scope.names.lookup y = some .local)
    (hsw : swapsWith (.ListComp elt [⟨tg, iter, ifs, 0⟩] scope pos) (some (.Name y py)) spos.line X.env = pure true) (hi : PI X tg iter (Ei X.g X.mg Stp W mi)) (ok : BlkOk X.N X.env.scope scope own) (tk : TgOk X.g X.mg (own.map (·.2)) g tgt)
    (hg : ∀ (s : Shared) (H : Hp) (C : Addr) (cl : List (Str × Addr)) (fp : List Addr), PG (X.blk s H scope (compEnvC scope cl C X.env) fp) tg g) (ht : ∀ (s : Shared) (H : Hp) (C : Addr) (cl : List (Str × Addr)) (fp : List Addr), PTs (X.blk s H scope (compEnvC scope cl C X.env) fp) ifs (Et X.g X.mg W0 t))
    (he : ∀ (s : Shared) (H : Hp) (C : Addr) (cl : List (Str × Addr)) (fp : List Addr), PE (X.blk s H scope (compEnvC scope cl C X.env) fp) elt (Ee X.g X.mg W0 m)) (hs : ∀ x, foldedSetIterable iter X.env x = pure x := by intro _; rfl) :
    PS X (.Assign [.Name y py] (.ListComp elt [⟨tg, iter, ifs, 0⟩] scope pos) spos) (Ss X.g X.mg W (s_own i (f_lc (own.map (·.2)) mi tgt t m))) :=
  ps_of (ps_setLc hc hN hy hyl hsw hi ok hg ht he hs) fun Dn σ H q => w_lc tk _ _ _ (w_own (i := i) Dn σ H q)
theorem S_setLc {i : Nat} {y : Str} {py : Pos} {elt iter : Expr} {ifs : List Expr} {scope : Scope} {own : List (Str × Nat)} {spos : Pos} {mi : MI} {g : TG} {tgt : D → Ro → Option Ro} {t : MT} {m : ME} (hc : X.calm = true) (hN : X.N.Nodup) (hy : X.N[i]? = some y) (hyl : X.env.scope.names.lookup y = some .local)
    (hsw : swapsWith (.ListComp elt [⟨tg, iter, ifs, 0⟩] scope pos) (some (.Name y py)) spos.line X.env = pure true) (hi : PI X tg iter (Ei X.g X.mg Stp W mi)) (ok : BlkOk X.N X.env.scope scope own) (tk : TgOk X.g X.mg (own.map (·.2)) g tgt)
    (hg : ∀ (s : Shared) (H : Hp) (C : Addr) (cl : List (Str × Addr)) (fp : List Addr), PG (X.blk s H scope (compEnvC scope cl C X.env) fp) tg g) (ht : ∀ (s : Shared) (H : Hp) (C : Addr) (cl : List (Str × Addr)) (fp : List Addr), PTs (X.blk s H scope (compEnvC scope cl C X.env) fp) ifs (Et X.g X.mg W0 t))
    (he : ∀ (s : Shared) (H : Hp) (C : Addr) (cl : List (Str × Addr)) (fp : List Addr), PE (X.blk s H scope (compEnvC scope cl C X.env) fp) elt (Ee X.g X.mg W0 m)) (hs : ∀ x, foldedSetIterable iter X.env x = pure x := by intro _; rfl) :
    PS X (.Assign [.Name y py] (.ListComp elt [⟨tg, iter, ifs, 0⟩] scope pos) spos) (Ss X.g X.mg W (s_set i (f_lc (own.map (·.2)) mi tgt t m))) :=
  ps_of (ps_setLc hc hN hy hyl hsw hi ok hg ht he hs) fun Dn σ H q => w_lc tk _ _ _ (w_fz _ _ _ (w_set (i := i) Dn σ H q))
theorem S_shLc {i : Nat} {y : Str} {py : Pos} {elt iter : Expr} {ifs : List Expr} {scope : Scope} {own : List (Str × Nat)} {spos : Pos} {mi : MI} {g : TG} {tgt : D → Ro → Option Ro} {t : MT} {m : ME} (hc : X.calm = true) (hN : X.N.Nodup) (hy : X.N[i]? = some y) (hyl : X.env.scope.names.lookup y = some .local)
    (hsw : swapsWith (.ListComp elt [⟨tg, iter, ifs, 0⟩] scope pos) (some (.Name y py)) spos.line X.env = pure true) (hi : PI X tg iter (Ei X.g X.mg Stp W mi)) (ok : BlkOk X.N X.env.scope scope own) (tk : TgOk X.g X.mg (own.map (·.2)) g tgt)
    (hg : ∀ (s : Shared) (H : Hp) (C : Addr) (cl : List (Str × Addr)) (fp : List Addr), PG (X.blk s H scope (compEnvC scope cl C X.env) fp) tg g) (ht : ∀ (s : Shared) (H : Hp) (C : Addr) (cl : List (Str × Addr)) (fp : List Addr), PTs (X.blk s H scope (compEnvC scope cl C X.env) fp) ifs (Et X.g X.mg W0 t))
    (he : ∀ (s : Shared) (H : Hp) (C : Addr) (cl : List (Str × Addr)) (fp : List Addr), PE (X.blk s H scope (compEnvC scope cl C X.env) fp) elt (Ee X.g X.mg W0 m)) (hs : ∀ x, foldedSetIterable iter X.env x = pure x := by intro _; rfl) :
    PS X (.Assign [.Name y py] (.ListComp elt [⟨tg, iter, ifs, 0⟩] scope pos) spos) (Ss X.g X.mg W (s_set i (e_sh (f_lc (own.map (·.2)) mi tgt t m)))) :=
  ps_of (ps_setLc hc hN hy hyl hsw hi ok hg ht he hs) fun Dn σ H q => w_lc tk _ _ _ (w_sh _ _ _ (w_set (i := i) Dn σ H q))
end
def t_yes : MT := fun _ S => .ok true S
section
variable {X : Cx} {W : WX}
theorem Ts_nil : PTs X [] (Et X.g X.mg W t_yes) := ⟨fun pins s σ H Q I q => pts_nil.run pins s σ H Q I (by
  obtain ⟨O, ad, S, ρ, s, fr, k⟩ := q
  exact k O ad H (.refl _ _ _) s)⟩
theorem Ts_one {c : Expr} {t : MT} (h : PT X c (Et X.g X.mg W t)) : PTs X [c] (Et X.g X.mg W t) := pts_one h
theorem Ts_cons {c : Expr} {cs : List Expr} {t u : MT} (h : PT X c (Et X.g X.mg W t)) (hr : PTs X cs (Et X.g X.mg W u)) : PTs X (c :: cs) (Et X.g X.mg W (t_and t u)) := by
  refine ⟨fun pins s σ H Q I q => ?_⟩
  have q2 := w_and (K := X.g) (mg := X.mg) (W := W) σ H Q q
  have h0 := h.run pins s σ H _ I q2
  rw [List.forIn_cons]
  refine wpAny_bind ?_
  rw [if_pos rfl]
  refine wpAny_bind (thn h0 fun b s1 ⟨H1, I1, q1⟩ => wpAny_pure ?_)
  cases b with
  | true => exact hr.run pins s1 σ H1 Q I1 q1
  | false =>
    have fin : ∀ l : List Expr, wpAny (model X.prog X.w) X.A (forIn l false fun c r => if r = true then do let ok ← isTrue c X.env (eval c X.env); pure (ForInStep.yield ok) else pure (ForInStep.yield r)) (TP X pins σ Q) X.xe s1 := by
      intro l
      induction l with
      | nil => rw [List.forIn_nil]; exact wpAny_pure ⟨H1, I1, q1⟩
      | cons a l ih =>
        rw [List.forIn_cons]
        refine wpAny_bind ?_
        rw [if_neg Bool.false_ne_true]
        exact wpAny_pure ih
    exact fin cs
end
end Gd

/-! Gd, part 7: stores, methods, isinstance, chains, slices, calls with keywords. -/
namespace Gd
open PySem L2 PyProof.Rows

/-! ### a thing is changed -/
section
variable {K : Fg} {mg : Mg} {W : WX} {c : Ctx} {O O1 : Addr → Prop} {ad ad1 : List Addr} {S S1 : Sg} {ρ : Ro} {σ : L2.St} {H H1 : Hp} {Dn : Ends}
theorem hide_upd {a : Addr} {o : HO} (h : O a) : ∀ b o', hide O H b = some o' → hide O (upd H a o) b = some o' := fun b o' e => by
  obtain ⟨n, e⟩ := of_hide e
  exact hide_of n (by rw [upd_ne (fun z => n (by rw [z]; exact h))]; exact e)
theorem grow_upd {a : Addr} {o : HO} (h : O a) : Grow O ad H O ad (upd H a o) := ⟨hide_upd h, fun _ _ e => e⟩
theorem Cst.upd (z : Cst c O ad H) {a : Addr} {o : HO} (h : O a) (h0 : ∀ o, c.H0 a = some o → a ∈ c.ad0) : Cst c O ad (L2.upd H a o) := by
  refine ⟨fun b o' e n => ?_, z.op, z.oq, z.ap, z.wf, z.wd⟩
  rw [upd_ne (fun q => n (by rw [q]; exact h0 o' (by rw [← q]; exact e)))]
  exact z.fr b o' e n
theorem Sto.upd_out (z : Sto K mg O ad S H) {a : Addr} {o : HO} (h : O a) (n : a ∉ ad) : Sto K mg O ad S (upd H a o) := by
  refine ⟨z.len, z.nd, z.hid, fun b hb => ?_, fun n' d hn => ?_⟩
  · by_cases q : b = a
    · exact ⟨o, by rw [q]; exact upd_same⟩
    · obtain ⟨o', ho⟩ := z.dom b hb
      exact ⟨o', by rw [upd_ne q]; exact ho⟩
  · obtain ⟨b, h1, h2⟩ := z.ob n' d hn
    refine ⟨b, h1, h2.mono (hide_upd h) (fun _ _ e => e) fun o' e => ?_⟩
    rw [upd_ne (fun q => n (by rw [← q]; exact List.mem_of_getElem? h1))]
    exact e
/-- a slot's own thing is changed -/
theorem Sta.upd_loc (z : Sta K mg c O ad S ρ σ H) {i : Nat} {d d' : D} {a : Addr} {o : HO} (hi : ρ[i]? = some (.ow d)) (ha : σ[i]? = some (some (.ref a))) (m : MRep K mg (hide O H) ad (upd H a o) a d') :
    Sta K mg c O ad S (ρ.set i (.ow d')) σ (upd H a o) ∧ Grow O ad H O ad (upd H a o) := by
  obtain ⟨b, h1, hO, hn, h2⟩ := z.fre.ow i d hi
  rw [ha] at h1
  cases h1
  have h0 := z.owf i d a hi ha
  refine ⟨⟨z.sto.upd_out hO hn, ⟨by rw [List.length_set]; exact z.fre.len, fun j e h => ?_, fun j e h => ?_, fun j k e e' b n h1 h2 h3 => ?_⟩, z.cst.upd hO (fun o e => by rw [h0] at e; cases e), fun j e b h1 h2 => ?_⟩, grow_upd hO⟩
  · rcases get_set h with ⟨rfl, e1, _⟩ | ⟨n, h⟩
    · cases e1
    · obtain ⟨v, q1, q2⟩ := z.fre.va j e h
      exact ⟨v, q1, q2.mono (hide_upd hO) fun _ _ e => e⟩
  · rcases get_set h with ⟨rfl, e1, _⟩ | ⟨n, h⟩
    · cases e1
      exact ⟨a, ha, hO, hn, m.mono (hide_upd hO) (fun _ _ e => e) fun _ e => e⟩
    · obtain ⟨b, q1, q2, q3, q4⟩ := z.fre.ow j e h
      refine ⟨b, q1, q2, q3, q4.mono (hide_upd hO) (fun _ _ e => e) fun o' e => ?_⟩
      rw [upd_ne (fun q => z.fre.ap i j d _ a n hi h ha (by rw [← q]; exact q1))]
      exact e
  · rcases get_set h1 with ⟨rfl, e1, _⟩ | ⟨n1, h1⟩
    · rcases get_set h2 with ⟨rfl, e2, _⟩ | ⟨n2, h2⟩
      · exact absurd rfl n
      · exact z.fre.ap _ k d _ b n hi h2 h3
    · rcases get_set h2 with ⟨rfl, e2, _⟩ | ⟨n2, h2⟩
      · exact z.fre.ap j _ _ d b n h1 hi h3
      · exact z.fre.ap j k e e' b n h1 h2 h3
  · rcases get_set h1 with ⟨rfl, e1, _⟩ | ⟨n1, h1⟩
    · exact z.owf _ d b hi h2
    · exact z.owf j e b h1 h2
/-- a thing of the store is changed -/
theorem Sta.upd_obj (z : Sta K mg c O ad S ρ σ H) {n : Nat} {d d' : D} {a : Addr} {o : HO} (hn : S[n]? = some d) (ha : ad[n]? = some a) (m : MRep K mg (hide O H) ad (upd H a o) a d') :
    Sta K mg c O ad (S.set n d') ρ σ (upd H a o) ∧ Grow O ad H O ad (upd H a o) := by
  have hm := List.mem_of_getElem? ha
  have hO := z.sto.hid a hm
  have hl := (List.getElem?_eq_some_iff.mp hn).1
  refine ⟨⟨⟨by rw [List.length_set]; exact z.sto.len, z.sto.nd, z.sto.hid, fun b hb => ?_, fun k e h => ?_⟩, ⟨z.fre.len, fun j e h => ?_, fun j e h => ?_, z.fre.ap⟩, z.cst.upd hO fun o' e => ?_, z.owf⟩, grow_upd hO⟩
  · by_cases q : b = a
    · exact ⟨o, by rw [q]; exact upd_same⟩
    · obtain ⟨o', ho⟩ := z.sto.dom b hb
      exact ⟨o', by rw [upd_ne q]; exact ho⟩
  · rcases get_set h with ⟨rfl, e1, _⟩ | ⟨nk, h⟩
    · cases e1
      exact ⟨a, ha, m.mono (hide_upd hO) (fun _ _ e => e) fun _ e => e⟩
    · obtain ⟨b, q1, q2⟩ := z.sto.ob k e h
      refine ⟨b, q1, q2.mono (hide_upd hO) (fun _ _ e => e) fun o' e => ?_⟩
      rw [upd_ne (fun q => nk (nd_ix z.sto.nd ha (by rw [← q]; exact q1)))]
      exact e
  · obtain ⟨v, q1, q2⟩ := z.fre.va j e h
    exact ⟨v, q1, q2.mono (hide_upd hO) fun _ _ e => e⟩
  · obtain ⟨b, q1, q2, q3, q4⟩ := z.fre.ow j e h
    refine ⟨b, q1, q2, q3, q4.mono (hide_upd hO) (fun _ _ e => e) fun o' e => ?_⟩
    rw [upd_ne (fun q => q3 (by rw [q]; exact hm))]
    exact e
  · obtain ⟨more, e1, f⟩ := z.cst.ap
    rw [e1] at hm
    rcases List.mem_append.mp hm with q | q
    · exact q
    · rw [f a q] at e; cases e
/-- behind an expression of a statement, other values kept -/
theorem bindK {m : ME} {f : D → MS} {vs : List V} {ds : List D} (z : Sta K mg c O ad S ρ σ H) (r : Paired (RepR K mg O ad ρ σ H) vs ds) (h : PostS K mg W c Dn O ad H (s_e m f ρ S)) :
    Ee K mg W m σ H fun v H1 => ∃ O1 ad1 S1 d, Sta K mg c O1 ad1 S1 ρ σ H1 ∧ RepR K mg O1 ad1 ρ σ H1 v d ∧ Paired (RepR K mg O1 ad1 ρ σ H1) vs ds ∧ PostS K mg W c Dn O1 ad1 H1 (f d ρ S1) := by
  refine ⟨O, ad, S, ρ, z.sto, z.fre, ?_⟩
  unfold s_e at h
  cases e : m ρ S with
  | ok d S1 =>
    simp only [e] at h
    exact fun v O' ad' H' t z' r' => ⟨O', ad', S1, d, z.step t z', r', PairedR.step z.sto.hid t r, h.rebase (t.grow z.sto.hid)⟩
  | er x fs S1 =>
    simp only [e] at h
    exact fun cls dd O' ad' H' t z' r => h cls dd σ O' ad' H' (t.grow z.sto.hid) (z.step t z') r
  | no => simp only [e] at h; exact h
end
/-- the thing behind d is given another content -/
def putTo (dd : D) (f : D → Option D) : MS := fun ρ S => match dd with
  | .loc i => (match ρ[i]? with
    | some (.ow c) => (match f c with
      | some c' => .nx (ρ.set i (.ow c')) S
      | none => .no)
    | _ => .no)
  | .obj n => (match S[n]? with
    | some c => (match f c with
      | some c' => .nx ρ (S.set n c')
      | none => .no)
    | none => .no)
  | _ => .no
section
variable {K : Fg} {mg : Mg} {W : WX} {c : Ctx} {O : Addr → Prop} {ad : List Addr} {S : Sg} {ρ : Ro} {σ : L2.St} {H : Hp} {Dn : Ends}
/-- where it stands, and what a change leaves -/
theorem putTo_ok {dd : D} {f : D → Option D} {v : V} (z : Sta K mg c O ad S ρ σ H) (r : RepR K mg O ad ρ σ H v dd) (h : PostS K mg W c Dn O ad H (putTo dd f ρ S)) :
    ∃ a e e', v = .ref a ∧ MRep K mg (hide O H) ad H a e ∧ f e = some e' ∧ ∀ o, MRep K mg (hide O H) ad (upd H a o) a e' → Dn.nx σ (upd H a o) := by
  unfold putTo at h
  cases dd with
  | loc i =>
    obtain ⟨⟨e, he⟩, hv⟩ := r
    simp only [he] at h
    cases ef : f e with
    | none => simp only [ef] at h; exact h.elim
    | some e' =>
      simp only [ef] at h
      obtain ⟨a, h1, h2, h3, h4⟩ := z.fre.ow i e he
      rw [h1] at hv
      cases hv
      refine ⟨a, e, e', rfl, h4, ef, fun o m => ?_⟩
      obtain ⟨z', g⟩ := z.upd_loc he h1 m
      exact h σ O ad _ g z'
  | obj n =>
    cases es : S[n]? with
    | none => simp only [es] at h; exact h.elim
    | some e =>
      simp only [es] at h
      cases ef : f e with
      | none => simp only [ef] at h; exact h.elim
      | some e' =>
        simp only [ef] at h
        have r' : Rep K mg (hide O H) ad v (.obj n) := r
        obtain ⟨a, h1, h4⟩ := z.sto.ob n e es
        cases r' with
        | obj h3 =>
          rw [h1] at h3; cases h3
          refine ⟨a, e, e', rfl, h4, ef, fun o m => ?_⟩
          obtain ⟨z', g⟩ := z.upd_obj es h1 m
          exact h σ O ad _ g z'
  | _ => exact h.elim
end

/-! ### o[i] = v -/
def kput (kvs : List (Key × D)) (k : Key) (v : D) : List (Key × D) :=
  if (kvs.any fun kv => decide (kv.1 = k)) = true then kvs.map (fun kv => if kv.1 = k then (kv.1, v) else kv) else kvs ++ [(k, v)]
def keyOf : D → Option Key
  | .int i => some (.inl i)
  | .str x => some (.inr x)
  | _ => none
def updI (i v : D) : D → Option D := fun c => match c with
  | .lst ds => (match i with
    | .int k => (ixN ds.length k).map fun j => .lst (ds.set j v)
    | _ => none)
  | .dct kvs => if kvs.length < 100000 then (keyOf i).map fun k => .dct (kput kvs k v) else none
  | _ => none
def s_seti (mv mo mi : ME) : MS := s_e mv fun dv => s_e mo fun dd => s_e mi fun di => if isLoc dv = true then fun _ _ => .no else putTo dd (updI di dv)
def rSet2 : V → V → V → Hp → (Hp → Prop) → Prop := fun o i v H Q => rSetL o i v H Q ∨ ∃ a H', o = .ref a ∧ DPut H a i v H' ∧ Q H'
theorem set_any {X : Cx} (hu : X.A.units + 1 < cLine) : PSet X rSet2 := by
  intro pins s σ H o i v ov iv u Q I ro ri rv h
  rcases h with h | ⟨a, H', rfl, h1, h2⟩
  · exact set_list pins s σ H o i v ov iv u Q I ro ri rv h
  · cases ro
    exact d_setItem hu I h1 ri rv fun s' I' => ⟨H', I', h2⟩
section
variable {K : Fg} {mg : Mg} {G : Hp} {ad : List Addr}
theorem RepK.keys {kvs : List (Key × V)} {ds : List (Key × D)} (r : RepK K mg G ad kvs ds) : kvs.map (·.1) = ds.map (·.1) := by
  induction kvs generalizing ds with
  | nil => cases r; rfl
  | cons p r' ih =>
    cases r with
    | cons a b => rw [List.map_cons, List.map_cons, ih b]
theorem RepK.length {kvs : List (Key × V)} {ds : List (Key × D)} (r : RepK K mg G ad kvs ds) : kvs.length = ds.length := by
  have := congrArg List.length r.keys
  simpa using this
theorem RepK.app {kvs kws : List (Key × V)} {ds es : List (Key × D)} (r : RepK K mg G ad kvs ds) (q : RepK K mg G ad kws es) : RepK K mg G ad (kvs ++ kws) (ds ++ es) := by
  induction kvs generalizing ds with
  | nil => cases r; exact q
  | cons p r' ih => cases r with | cons a b => exact .cons a (ih b)
theorem RepK.any {k : Key} {kvs : List (Key × V)} {ds : List (Key × D)} (r : RepK K mg G ad kvs ds) : (kvs.any fun kv => decide (kv.1 = k)) = ds.any fun kv => decide (kv.1 = k) := by
  induction kvs generalizing ds with
  | nil => cases r; rfl
  | cons p r' ih => cases r with | cons a b => rw [List.any_cons, List.any_cons, ih b]
theorem RepK.mapset {k : Key} {v : V} {d : D} (rv : Rep K mg G ad v d) {kvs : List (Key × V)} {ds : List (Key × D)} (r : RepK K mg G ad kvs ds) :
    RepK K mg G ad (kvs.map fun kv => if kv.1 = k then (kv.1, v) else kv) (ds.map fun kv => if kv.1 = k then (kv.1, d) else kv) := by
  induction kvs generalizing ds with
  | nil => cases r; exact .nil
  | cons p r' ih =>
    cases r with
    | cons a b =>
      rename_i kk vv dd ds
      rw [List.map_cons, List.map_cons]
      by_cases e : kk = k
      · simp only [e, if_true]
        exact .cons rv (ih b)
      · simp only [e, if_false]
        exact .cons a (ih b)
theorem RepK.put {k : Key} {v : V} {d : D} (rv : Rep K mg G ad v d) {kvs : List (Key × V)} {ds : List (Key × D)} (r : RepK K mg G ad kvs ds) : RepK K mg G ad (putK kvs k v) (kput ds k d) := by
  unfold putK kput
  rw [r.any (k := k)]
  split
  · exact r.mapset rv
  · exact r.app (.cons rv .nil)
end
section
variable {K : Fg} {mg : Mg} {W : WX}
theorem keyOf_V {G : Hp} {ad : List Addr} {v : V} {d : D} {k : Key} (r : Rep K mg G ad v d) (h : keyOf d = some k) : v = kV k := by
  cases d <;> cases h <;> cases r <;> rfl
theorem w_seti {mv mo mi : ME} : ∀ Dn σ H, Ss K mg W (s_seti mv mo mi) Dn σ H → tAsg (Ee K mg W mv) (gSub (Ee K mg W mo) (Ee K mg W mi) rSet2) Dn σ H := by
  rintro Dn σ H ⟨c, O, ad, S, ρ, z, h⟩
  refine (bindK (f := fun dv => s_e mo fun dd => s_e mi fun di => if isLoc dv = true then fun _ _ => .no else putTo dd (updI di dv)) z .nil h).imp fun v H1 g => ?_
  obtain ⟨O, ad, S, dv, z, rv, _, h⟩ := g
  refine (bindK (f := fun dd => s_e mi fun di => if isLoc dv = true then fun _ _ => .no else putTo dd (updI di dv)) z (.cons rv .nil) h).imp fun o H2 g => ?_
  obtain ⟨O, ad, S, dd, z, ro, r2, h⟩ := g
  refine (bindK (f := fun di => if isLoc dv = true then fun _ _ => .no else putTo dd (updI di dv)) z (.cons ro r2) h).imp fun i H3 g => ?_
  obtain ⟨O, ad, S, di, z, ri, r3, h⟩ := g
  cases r3 with
  | cons ro r4 =>
    cases r4 with
    | cons rv r5 =>
      cases el : isLoc dv with
      | true => rw [if_pos el] at h; exact h.elim
      | false =>
        rw [if_neg (by rw [el]; exact Bool.false_ne_true)] at h
        obtain ⟨a, e, e', rfl, m, he, k⟩ := putTo_ok z ro h
        unfold updI at he
        cases e with
        | lst ds =>
          cases di with
          | int j =>
            obtain ⟨n, hn, rfl⟩ := Option.map_eq_some_iff.mp he
            obtain ⟨vs, h1, h2⟩ := m
            have ri' : Rep K mg (hide O H3) ad i (.int j) := ri
            cases ri'
            refine .inl ⟨a, vs, j, n, rfl, rfl, h1, by rw [h2.length]; exact hn, k _ ⟨_, upd_same, h2.set (rv.rep el)⟩⟩
          | _ => cases he
        | dct kvs =>
          dsimp only at he
          split at he
          · rename_i hl
            obtain ⟨kk, hk, rfl⟩ := Option.map_eq_some_iff.mp he
            obtain ⟨vs, h1, h2⟩ := m
            have nl : isLoc di = false := by cases di <;> first | rfl | cases hk
            have ek := keyOf_V (ri.rep nl) hk
            refine .inr ⟨a, _, rfl, by rw [ek]; exact DPut.k h1 (Nat.lt_of_lt_of_le (by rw [h2.length]; exact hl) (by decide)), k _ ⟨_, upd_same, h2.put (rv.rep el)⟩⟩
          · cases he
        | _ => cases he

/-! ### xs.append(e) -/
def appD (y : D) : D → Option D
  | .lst ds => if ds.length < 100000 then some (.lst (ds ++ [y])) else none
  | _ => none
def isLstAt (ρ : Ro) (S : Sg) (d : D) : Bool := match deref ρ S d with
  | some (.lst _) => true
  | _ => false
def s_app (mo me : ME) : MS := s_e mo fun dd ρ S => if isLstAt ρ S dd = true then s_e me (fun de => if isLoc de = true then fun _ _ => .no else putTo dd (appD de)) ρ S else .no
theorem w_app {mo me : ME} : ∀ Dn σ H, Ss K mg W (s_app mo me) Dn σ H → tDrop (tBM K "list" rAppend (Ee K mg W mo) (Ea K mg W (a_cons me a_nil))) Dn σ H := by
  rintro Dn σ H ⟨c, O, ad, S, ρ, z, h⟩
  refine (bindK (f := fun dd ρ S => if isLstAt ρ S dd = true then s_e me (fun de => if isLoc de = true then fun _ _ => .no else putTo dd (appD de)) ρ S else .no) z .nil h).imp fun o H1 g => ?_
  obtain ⟨O, ad, S, dd, z, ro, _, h⟩ := g
  cases il : isLstAt ρ S dd with
  | false => rw [il, if_neg Bool.false_ne_true] at h; exact h.elim
  | true =>
    rw [il, if_pos rfl] at h
    refine ⟨?_, ?_⟩
    · unfold isLstAt at il
      split at il
      · rename_i ds hd
        obtain ⟨a, vs, rfl, h1, _⟩ := (deref_rep z.fre z.sto ro hd).lst
        exact .inl ⟨rfl, _, h1⟩
      · cases il
    · have hb := bindK (f := fun de => if isLoc de = true then fun _ _ => .no else putTo dd (appD de)) z (.cons ro .nil) h
      obtain ⟨O, ad, S, ρ', s, fr, hb⟩ := hb
      refine ⟨O, ad, S, ρ', s, fr, ?_⟩
      unfold a_cons a_nil
      cases e : me ρ' S with
      | no => rw [e] at hb; exact hb
      | er x fs S1 => rw [e] at hb; exact hb
      | ok d S1 =>
        rw [e] at hb
        intro vs O' ad' H' t z' r
        cases r with
        | cons r1 r2 =>
          cases r2
          rename_i v
          obtain ⟨O, ad, S, de, z, re, r3, h⟩ := hb v O' ad' H' t z' r1
          cases r3 with
          | cons ro _ =>
            cases el : isLoc de with
            | true => rw [if_pos el] at h; exact h.elim
            | false =>
              rw [if_neg (by rw [el]; exact Bool.false_ne_true)] at h
              obtain ⟨a, e, e', rfl, m, he, k⟩ := putTo_ok z ro h
              cases e with
              | lst ds =>
                unfold appD at he
                dsimp only at he
                split at he
                · rename_i hl
                  cases he
                  obtain ⟨vs, h1, h2⟩ := m
                  exact ⟨a, vs, v, rfl, rfl, h1, Nat.lt_of_lt_of_le (by rw [h2.length]; exact hl) (by decide), k _ ⟨_, upd_same, h2.app (.cons (re.rep el) .nil)⟩⟩
                · cases he
              | _ => cases he
end
section
variable {X : Cx} {W : WX} {o i e : Expr} {mo mi mv me : ME} {pos pos' apos cpos : Pos}
theorem S_seti (hu : X.A.units + 1 < cLine) (ho : PE X o (Ee X.g X.mg W mo)) (hi : PE X i (Ee X.g X.mg W mi)) (hv : PE X e (Ee X.g X.mg W mv))
    (ha : ∀ v, assign (.Subscript o i pos') X.env v = (do
      let ov ← holding [v] (eval o X.env)
      let iv ← holding [v, ov] (eval i X.env)
      standAt pos'
      holding [v, ov, iv] (setItem ov iv v)
      release [v, ov, iv] []) := by intro _; rfl)
    (hs : swapsWithSole [.Subscript o i pos'] e pos.line X.env = pure false := by rfl) (hw : swappedStores [.Subscript o i pos'] e X.env = pure none := by rfl)
    (h1 : (assignEach [.Subscript o i pos'] X.env).map (·.2) = [assign (.Subscript o i pos') X.env] := by rfl) : PS X (.Assign [.Subscript o i pos'] e pos) (Ss X.g X.mg W (s_seti mv mo mi)) :=
  ps_of (ps_asg hv (pg_sub ho hi (set_any hu) ha) hs hw h1) w_seti
theorem S_app (ho : PE X o (Ee X.g X.mg W mo)) (he : PE X e (Ee X.g X.mg W me)) (hbase : attributeBase o "append" X.env (eval o X.env) = eval o X.env := by rfl)
    (hfew : ((backTo cpos (starEach (e :: []) X.env)).all (fun x => !x.1) && (backToKw cpos (keywordEach [] X.env)).all (fun x => x.1.isSome)
      && decide ((e :: []).length + ([] : List Keyword).length + (if ([] : List Keyword).isEmpty then 0 else 1) < 30)) = true := by rfl)
    (hline : (apos.endLine == cpos.line) = true := by rfl) (hs : starEach (e :: []) X.env = (false, eval e X.env) :: starEach [] X.env := by rfl) (hplain : (backTo cpos (starEach [] X.env)).any (·.1) = false := by rfl) (hsw : swapsWith (.Call (.Attribute o "append" apos) [e] [] cpos) none pos.line X.env = pure false := by rfl) :
    PS X (.Expr (.Call (.Attribute o "append" apos) [e] [] cpos) pos) (Ss X.g X.mg W (s_app mo me)) :=
  ps_of (ps_expr (pe_bm PySem.F.plainAttrs_list PySem.F.slot_list_append PySem.F.type_list_append mt_append ho (A_cons he A_nil hs) hbase hfew hline hs hplain) hsw) w_app
end

/-! ### a method of a text -/
def e_m1 (f : Str → D → Option D) (a b : ME) : ME := fun ρ S => (a ρ S).bind fun d S1 => match d with
  | .str x => (b ρ S1).bind fun e S2 => liftO S2 ((deref ρ S2 e).bind (f x))
  | _ => .no
def Mt1P (K : Fg) (mg : Mg) (r : V → List V → Hp → VK → Prop) (f : Str → D → Option D) : Prop := ∀ O ad H x y e z, RepS K mg O ad H y e → f x e = some z → Res K mg O ad H z (r (.str x) [y] H)
theorem w_m1 {K : Fg} {mg : Mg} {W : WX} {r : V → List V → Hp → VK → Prop} {f : Str → D → Option D} {a b : ME} (hf : Mt1P K mg r f) : ∀ σ H Q, Ee K mg W (e_m1 f a b) σ H Q → tM1 r (Ee K mg W a) (Ee K mg W b) σ H Q := by
  intro σ H Q q
  refine (bindE (f := fun ρ d S1 => match d with | .str x => (b ρ S1).bind fun e S2 => liftO S2 ((deref ρ S2 e).bind (f x)) | _ => .no) q).imp fun v H1 g => ?_
  obtain ⟨O, ad, S, ρ, d, s, fr, r1, k⟩ := g
  cases d with
  | str x =>
    have r' : Rep K mg (hide O H1) ad v (.str x) := r1
    cases r'
    refine ⟨⟨x, rfl⟩, ?_⟩
    refine (bindE (W := W) (f := fun ρ e S2 => liftO S2 ((deref ρ S2 e).bind (f x))) ⟨O, ad, S, ρ, s, fr, k⟩).imp fun y H2 g => ?_
    obtain ⟨O, ad, S, ρ, e, s, fr, r2, k⟩ := g
    obtain ⟨z, ez⟩ := liftO_ok k
    obtain ⟨e', ed, ez⟩ := Option.bind_eq_some_iff.mp ez
    have kv := hf O ad H2 x y e' z (deref_rep fr s r2 ed) ez
    rw [ed] at k
    simp only [Option.bind_some, ez, liftO] at k
    exact kv.go s k
  | _ => exact k.elim
def strsOf : List D → Option (List Str)
  | [] => some []
  | .str x :: ds => (strsOf ds).map fun r => x :: r
  | _ :: _ => none
theorem strsOf_eq : ∀ {ds : List D} {xs : List Str}, strsOf ds = some xs → ds = xs.map .str
  | [], _, h => by cases h; rfl
  | d :: ds, _, h => by
    cases d with
    | str x =>
      obtain ⟨r, h1, rfl⟩ := Option.map_eq_some_iff.mp (show (strsOf ds).map (fun r => x :: r) = some _ from h)
      rw [strsOf_eq h1]; rfl
    | _ => cases h
theorem strsOf_map (xs : List Str) : strsOf (xs.map .str) = some xs := by
  induction xs with
  | nil => rfl
  | cons x xs ih => show (strsOf (xs.map .str)).map (fun r => x :: r) = some (x :: xs); rw [ih]; rfl
def d_join : Str → D → Option D := fun a e => match e with
  | .lst ds => (strsOf ds).bind fun ys => if (ys.map (·.length)).sum + ys.length * a.length ≤ 100000 then some (.str (Txt.join a ys)) else none
  | .tup ds => (strsOf ds).bind fun ys => if (ys.map (·.length)).sum + ys.length * a.length ≤ 100000 then some (.str (Txt.join a ys)) else none
  | _ => none
theorem mp_join {K : Fg} {mg : Mg} : Mt1P K mg (fun x xs H Q => ∃ a p, ∃ ys : List Str, x = .str a ∧ xs = [.ref p] ∧ (SqL K H p (ys.map V.str) ∨ SqT K H p (ys.map V.str)) ∧ (ys.map (·.length)).sum + ys.length * a.length ≤ 16777216 ∧ Q (.str (Txt.join a ys)) H) d_join := by
  intro O ad H x y e z r h
  unfold d_join at h
  split at h
  · obtain ⟨ys, h1, h2⟩ := Option.bind_eq_some_iff.mp h
    split at h2
    · rename_i hl
      cases h2
      obtain ⟨a, vs, rfl, h3, h4⟩ := r.lst
      rw [strsOf_eq h1] at h4
      exact res_v (.str _) fun Q q => ⟨x, a, ys, rfl, rfl, .inl (by rw [← h4.strs]; exact h3), Nat.le_trans hl (by decide), q⟩
    · cases h2
  · obtain ⟨ys, h1, h2⟩ := Option.bind_eq_some_iff.mp h
    split at h2
    · rename_i hl
      cases h2
      obtain ⟨a, vs, rfl, h3, h4⟩ := r.tup
      rw [strsOf_eq h1] at h4
      exact res_v (.str _) fun Q q => ⟨x, a, ys, rfl, rfl, .inr (by rw [← h4.strs]; exact h3), Nat.le_trans hl (by decide), q⟩
    · cases h2
  · cases h
section
variable {X : Cx} {W : WX} {o e : Expr} {mo me : ME} {apos pos : Pos}
theorem E_join (ho : PE X o (Ee X.g X.mg W mo)) (he : PE X e (Ee X.g X.mg W me)) (hs : starEach [e] X.env = [(false, eval e X.env)] := by rfl) (hbase : attributeBase o "join" X.env (eval o X.env) = eval o X.env := by rfl) (hline : (apos.endLine == pos.line) = true := by rfl) :
    PE X (.Call (.Attribute o "join" apos) [e] [] pos) (Ee X.g X.mg W (e_m1 d_join mo me)) := pe_of (pe_join ho he hs hbase hline) (w_m1 mp_join)
end

/-! ### isinstance -/
def tyD : D → Option String
  | .non => some "NoneType"
  | .bl _ => some "bool"
  | .int _ => some "int"
  | .str _ => some "str"
  | .lst _ => some "list"
  | .tup _ => some "tuple"
  | .dct _ => some "dict"
  | .dcf _ => some "dict"
  | _ => none
theorem tyX_of {K : Fg} {mg : Mg} {O : Addr → Prop} {ad : List Addr} {H : Hp} {x : V} {d : D} {n : String} (r : RepS K mg O ad H x d) (h : tyD d = some n) : TyX K H x (.type n) := by
  cases d with
  | non => cases h; cases r.non; exact .base .non
  | bl b => cases h; cases r.bl; exact .base (.bl b)
  | int b => cases h; cases r.int; exact .base (.int b)
  | str b => cases h; cases r.str; exact .base (.str b)
  | lst b =>
    cases h
    obtain ⟨a, vs, rfl, h1, _⟩ := r.lst
    rcases h1 with (h1 | ⟨o, h1⟩) | ⟨o, its, n, hk, hc, _⟩
    · exact .base (.lst h1)
    · exact .base (.frz h1)
    · exact .kList hk hc
  | tup b =>
    cases h
    obtain ⟨a, vs, rfl, h1, _⟩ := r.tup
    rcases h1 with (h1 | ⟨o, h1⟩) | ⟨o, its, n, hk, hc, _⟩
    · exact .base (.tup h1)
    · exact .fTuple h1
    · exact .kTuple hk hc
  | dct b =>
    cases h
    obtain ⟨a, vs, rfl, h1, _⟩ := r.dct
    rcases h1 with h1 | ⟨o, h1⟩
    · exact .base (.dK h1)
    · exact .fDict h1
  | dcf b =>
    cases h
    rcases r with r | ⟨a, e, o, vs, h1, h2⟩
    · cases r with
      | dcf h1 h2 => exact .fDict (un_hide _ _ h1)
    · cases e; exact .fDict h1
  | _ => cases h
def kitN (a : String) : List String → Option Bool
  | [] => some false
  | b :: r => match kitB a b, kitN a r with
    | some x, some y => some (x || y)
    | _, _ => none
/-- isinstance(x, T) -/
def d_isi (b : String) : D → Option D := fun d => ((tyD d).bind fun a => kitB a b).map .bl
/-- isinstance(x, (T1, T2, ..)) -/
def d_isiN (bs : List String) : D → Option D := fun d => ((tyD d).bind fun a => kitN a bs).map .bl
theorem kitN_any {K : Fg} {a : String} : ∀ {l : List String} {b : Bool}, kitN a l = some b → PySem.W.kitAny K (.type a) (l.map Value.type) = some b ∧ Paired ClsV (l.map V.ty) (l.map Value.type)
  | [], _, h => by cases h; exact ⟨kitAny_nil, .nil⟩
  | n :: l, _, h => by
    unfold kitN at h
    split at h
    · rename_i x y h1 h2
      cases h
      obtain ⟨h3, h4⟩ := kitN_any h2
      refine ⟨kitAny_cons (kit_ty h1) (fun e => ?_) fun e => ?_, .cons (.ty n) h4⟩
      · subst e; exact h3
      · subst e; rfl
    · cases h
def tysA (ns : List String) : TA := fun _ H Q => Q (ns.map V.ty) H
theorem tys_nil {X : Cx} : PA X [] (tysA []) := pa_of pa_nil fun _ _ _ q => q
theorem tys_cons {X : Cx} {e : Expr} {es : List Expr} {n : String} {ns : List String} (h : PE X e (tC (.ty n))) (r : PA X es (tysA ns)) (hs : starEach (e :: es) X.env = (false, eval e X.env) :: starEach es X.env := by rfl) : PA X (e :: es) (tysA (n :: ns)) := pa_of (pa_cons h r hs) fun _ _ _ q => q
section
variable {X : Cx} {W : WX} {e t : Expr} {es : List Expr} {m : ME} {p pos tp : Pos} {kk : Nat}
theorem E_isi {b : String} (hg : Gl X "isinstance") (hm : X.mg "isinstance" = none) (he : PE X e (Ee X.g X.mg W m)) (ht : PE X t (tC (.ty b))) (hs1 : starEach (t :: []) X.env = (false, eval t X.env) :: starEach [] X.env := by rfl)
    (hs : starEach (e :: [t]) X.env = (false, eval e X.env) :: starEach [t] X.env := by rfl) (hpl : (backTo pos (starEach [t] X.env)).any (·.1) = false := by rfl) :
    PE X (.Call (.Name "isinstance" p) [e, t] [] pos) (Ee X.g X.mg W (e_op1 (d_isi b) m)) :=
  pe_of (pe_callB call_isi hg hm (by decide +kernel) (pa_cons he (pa_cons ht pa_nil hs1) hs) (by decide) (by decide) hs hpl) fun σ H Q q =>
    (w_op1 (r := fun x H Q => rIsi X.g [x, .ty b] H Q) (fun O ad H x d z r h => by
      unfold d_isi at h
      obtain ⟨k, h1, rfl⟩ := Option.map_eq_some_iff.mp h
      obtain ⟨a, h2, h3⟩ := Option.bind_eq_some_iff.mp h1
      exact res_v (.bl _) fun Q q => ⟨x, .ty b, .type a, .type b, k, rfl, .ty b, tyX_of r h2, kit_ty h3, q⟩) σ H Q q)
theorem E_isiN {bs : List String} (hg : Gl X "isinstance") (hm : X.mg "isinstance" = none) (he : PE X e (Ee X.g X.mg W m)) (ht : PA X es (tysA bs)) (hl : bs.length ≤ 100) (hs1 : starEach ((.Tuple es kk tp) :: []) X.env = (false, eval (.Tuple es kk tp) X.env) :: starEach [] X.env := by rfl)
    (hs : starEach (e :: [.Tuple es kk tp]) X.env = (false, eval e X.env) :: starEach [.Tuple es kk tp] X.env := by rfl) (hpl : (backTo pos (starEach [.Tuple es kk tp] X.env)).any (·.1) = false := by rfl) :
    PE X (.Call (.Name "isinstance" p) [e, .Tuple es kk tp] [] pos) (Ee X.g X.mg W (e_op1 (d_isiN bs) m)) :=
  pe_of (pe_callB call_isiT hg hm (by decide +kernel) (pa_cons he (pa_cons (pe_tup ht) pa_nil hs1) hs) (by decide) (by decide) hs hpl) fun σ H Q q => by
    refine (bindE (f := fun ρ d S1 => liftO S1 ((deref ρ S1 d).bind (d_isiN bs))) q).imp fun x H1 g => ?_
    obtain ⟨O, ad, S, ρ, d, s, fr, r1, k⟩ := g
    obtain ⟨z, ez⟩ := liftO_ok k
    obtain ⟨d', ed, ez⟩ := Option.bind_eq_some_iff.mp ez
    rw [ed] at k
    simp only [Option.bind_some, ez, liftO] at k
    unfold d_isiN at ez
    obtain ⟨b, h1, rfl⟩ := Option.map_eq_some_iff.mp ez
    obtain ⟨a, h2, h3⟩ := Option.bind_eq_some_iff.mp h1
    obtain ⟨h4, h5⟩ := kitN_any (K := X.g) h3
    refine ⟨by rw [List.length_map]; exact Nat.le_trans hl (by decide), fun p hp => ?_⟩
    obtain ⟨t, z', hk, e⟩ := new_still (o := .tup (bs.map V.ty)) s hp
    have rx := deref_rep (fr.step s.hid t) z' (r1.step s.hid t) ed
    exact ⟨x, p, _, _, _, b, rfl, upd_same, h5, tyX_of rx h2, h4, k (.bl b) O ad _ t z' (repR_of (d := .bl b) (.bl b))⟩
end

/-! ### chains -/
def e_chain (f g : D → D → Option D) (a b c : ME) : ME := fun ρ S => (a ρ S).bind fun d S1 => (b ρ S1).bind fun e S2 => (liftO S2 ((deref ρ S2 d).bind fun d' => (deref ρ S2 e).bind fun e' => f d' e')).bind fun k S3 => (liftB S3 k).bind fun kk S4 => if kk = true then (c ρ S4).bind fun h S5 => liftO S5 ((deref ρ S5 e).bind fun e' => (deref ρ S5 h).bind fun h' => g e' h') else .ok (.bl false) S4
section
variable {K : Fg} {mg : Mg} {W : WX}
theorem w_chain {r r' : R2} {f g : D → D → Option D} {a b c : ME} (hf : OpP K mg r f) (hg : OpP K mg r' g) : ∀ σ H Q, Ee K mg W (e_chain f g a b c) σ H Q → tChain r r' (Ee K mg W a) (Ee K mg W b) (Ee K mg W c) σ H Q := by
  intro σ H Q q
  have q2 := bind2E (f := fun ρ d e S2 => (liftO S2 ((deref ρ S2 d).bind fun d' => (deref ρ S2 e).bind fun e' => f d' e')).bind fun k S3 => (liftB S3 k).bind fun kk S4 => if kk = true then (c ρ S4).bind fun h S5 => liftO S5 ((deref ρ S5 e).bind fun e' => (deref ρ S5 h).bind fun h' => g e' h') else .ok (.bl false) S4) q
  refine q2.imp fun x H1 q3 => q3.imp fun y H2 g => ?_
  obtain ⟨O, ad, S, ρ, d, e, s, fr, r1, r2, k⟩ := g
  cases ex : ((deref ρ S d).bind fun d' => (deref ρ S e).bind fun e' => f d' e') with
  | none => rw [ex] at k; exact k.elim
  | some z =>
    rw [ex] at k
    obtain ⟨d', ed, ez⟩ := Option.bind_eq_some_iff.mp ex
    obtain ⟨e', ee, ez⟩ := Option.bind_eq_some_iff.mp ez
    have kv := hf O ad H2 x y d' e' z (deref_rep fr s r1 ed) (deref_rep fr s r2 ee) ez
    cases z with
    | bl kb =>
      rcases kv with ⟨v, h1, h2⟩ | ⟨h0, o, h1, h2⟩
      · cases h1
        refine h2 _ ⟨kb, rfl, ?_⟩
        cases kb with
        | false =>
          rw [if_neg Bool.false_ne_true]
          exact post_bl s k
        | true =>
          rw [if_pos rfl]
          have k2 : PostE K mg W ρ σ Q O ad H2 ((c ρ S).bind fun h S5 => liftO S5 ((deref ρ S5 e).bind fun e' => (deref ρ S5 h).bind fun h' => g e' h')) := k
          refine ⟨O, ad, S, ρ, s, fr, ?_⟩
          cases ec : c ρ S with
          | no => rw [ec] at k2; exact k2
          | er x fs S1 => rw [ec] at k2; exact k2
          | ok hd S5 =>
            rw [ec] at k2
            intro w O' ad' H' t z' rw'
            have k3 : PostE K mg W ρ σ Q O' ad' H' (liftO S5 ((deref ρ S5 e).bind fun e' => (deref ρ S5 hd).bind fun h' => g e' h')) := PostE.rebase k2 t s.hid z'.dom
            obtain ⟨z2, ez2⟩ := liftO_ok k3
            rw [ez2] at k3
            obtain ⟨e2, ee2, ez2⟩ := Option.bind_eq_some_iff.mp ez2
            obtain ⟨h2', eh2, ez2⟩ := Option.bind_eq_some_iff.mp ez2
            have fr' := fr.step s.hid t
            exact (hg O' ad' H' y w e2 h2' z2 (deref_rep fr' z' (r2.step s.hid t) ee2) (deref_rep fr' z' rw' eh2) ez2).go z' k3
      · cases h0
    | _ => exact k.elim
end
end Gd

/-! Gd, part 8: the lemmas as a derivation names them. -/
namespace Gd
open PySem L2 PyProof.Rows

def d_add : D → D → Option D := fun d e => (d_addI d e).or (d_addS d e)
def d_lt : D → D → Option D := fun d e => (d_int2 (fun i j => some (.bl (decide (i < j)))) d e).or (d_str2 (fun i j => some (.bl (decide (i.cps.toList < j.cps.toList)))) d e)
def d_le : D → D → Option D := fun d e => (d_int2 (fun i j => some (.bl (decide (i ≤ j)))) d e).or (d_str2 (fun i j => some (.bl (!decide (j.cps.toList < i.cps.toList)))) d e)
def d_gt : D → D → Option D := d_int2 (fun i j => some (.bl (decide (j < i))))
def d_ge : D → D → Option D := d_int2 (fun i j => some (.bl (decide (j ≤ i))))
section
variable {X : Cx} {W : WX} {a b c e : Expr} {pos p : Pos} {ma mb mc m : ME} {es : List Expr} {r : MA}
theorem E_add (ha : PE X a (Ee X.g X.mg W ma)) (hb : PE X b (Ee X.g X.mg W mb)) : PE X (.BinOp a .Add b pos) (Ee X.g X.mg W (e_op2 d_add ma mb)) := E_bin (op_add.or op_add_str) (op_int0.or op_addS) ha hb
theorem E_sub (ha : PE X a (Ee X.g X.mg W ma)) (hb : PE X b (Ee X.g X.mg W mb)) : PE X (.BinOp a .Sub b pos) (Ee X.g X.mg W (e_op2 d_sub ma mb)) := E_bin op_sub op_int0 ha hb
theorem E_mul (ha : PE X a (Ee X.g X.mg W ma)) (hb : PE X b (Ee X.g X.mg W mb)) : PE X (.BinOp a .Mult b pos) (Ee X.g X.mg W (e_op2 d_mul ma mb)) := E_bin op_mul op_intC ha hb
theorem E_fdiv (ha : PE X a (Ee X.g X.mg W ma)) (hb : PE X b (Ee X.g X.mg W mb)) : PE X (.BinOp a .FloorDiv b pos) (Ee X.g X.mg W (e_op2 d_fdiv ma mb)) := E_bin op_fdivN op_intC ha hb
theorem E_mod (ha : PE X a (Ee X.g X.mg W ma)) (hb : PE X b (Ee X.g X.mg W mb)) : PE X (.BinOp a .Mod b pos) (Ee X.g X.mg W (e_op2 d_mod ma mb)) := E_bin op_modN op_intC ha hb
theorem E_pow (ha : PE X a (Ee X.g X.mg W ma)) (hb : PE X b (Ee X.g X.mg W mb)) : PE X (.BinOp a .Pow b pos) (Ee X.g X.mg W (e_op2 d_pow ma mb)) := E_bin op_pow op_intC ha hb
theorem or_lt : OpR X (compareOp .Lt) (fun x y H Q => rI0 (fun i j => .bl (decide (i < j))) x y H Q ∨ ∃ i j, x = .str i ∧ y = .str j ∧ Q (.bl (decide (i.cps.toList < j.cps.toList))) H) := op_lt.or op_lt_str
theorem or_le : OpR X (compareOp .LtE) (fun x y H Q => rI0 (fun i j => .bl (decide (i ≤ j))) x y H Q ∨ ∃ i j, x = .str i ∧ y = .str j ∧ Q (.bl (!decide (j.cps.toList < i.cps.toList))) H) := op_le.or op_le_str
theorem of_lt : OpP X.g X.mg (fun x y H Q => rI0 (fun i j => .bl (decide (i < j))) x y H Q ∨ ∃ i j, x = .str i ∧ y = .str j ∧ Q (.bl (decide (i.cps.toList < j.cps.toList))) H) d_lt := op_intB.or op_strB
theorem of_le : OpP X.g X.mg (fun x y H Q => rI0 (fun i j => .bl (decide (i ≤ j))) x y H Q ∨ ∃ i j, x = .str i ∧ y = .str j ∧ Q (.bl (!decide (j.cps.toList < i.cps.toList))) H) d_le := op_intB.or op_strB
theorem or_eq (hu : X.A.units + 64 < cLine) : OpR X (compareOp .Eq) (fun x y H Q => rEq x y H Q ∨ rEqD X.g x y H Q) := op_eq.or (op_eqD hu)
theorem or_ne (hu : X.A.units + 64 < cLine) : OpR X (compareOp .NotEq) (fun x y H Q => rNe x y H Q ∨ rNeD X.g x y H Q) := op_ne.or (op_neD hu)
theorem or_in : OpR X (compareOp .In) (rIn2 X.g false) := op_in_seq.or op_in_sign
theorem or_nin : OpR X (compareOp .NotIn) (rIn2 X.g true) := op_notIn_seq.or op_notIn_sign
/-- is None -/
def isNonD : D → Bool
  | .non => true
  | _ => false
def d_isN : D → D → Option D := fun d e => match e with
  | .non => some (.bl (isNonD d))
  | _ => none
def d_notN : D → D → Option D := fun d e => match e with
  | .non => some (.bl (!isNonD d))
  | _ => none
theorem RepS.isN {K : Fg} {mg : Mg} {O : Addr → Prop} {ad : List Addr} {H : Hp} {x : V} {d : D} (r : RepS K mg O ad H x d) : decide (x = .non) = isNonD d := by
  rcases r with r | ⟨a, rfl, r⟩
  · cases r <;> rfl
  · cases d <;> first | rfl | exact r.elim
theorem of_isN {K : Fg} {mg : Mg} : OpP K mg (fun x y H Q => y = .non ∧ Q (.bl (decide (x = .non))) H) d_isN := by
  intro O ad H x y d e z rx ry h
  unfold d_isN at h
  split at h
  · cases h
    refine res_v (.bl _) fun Q q => ⟨ry.non, ?_⟩
    rw [rx.isN]; exact q
  · cases h
theorem of_notN {K : Fg} {mg : Mg} : OpP K mg (fun x y H Q => y = .non ∧ Q (.bl (!decide (x = .non))) H) d_notN := by
  intro O ad H x y d e z rx ry h
  unfold d_notN at h
  split at h
  · cases h
    refine res_v (.bl _) fun Q q => ⟨ry.non, ?_⟩
    rw [rx.isN]; exact q
  · cases h
theorem E_chain {o1 o2 : CmpOp} {r1 r2 : R2} {f g : D → D → Option D} (ho : OpR X (compareOp o1) r1) (hf : OpP X.g X.mg r1 f) (ho2 : OpR X (compareOp o2) r2) (hg : OpP X.g X.mg r2 g) (ha : PE X a (Ee X.g X.mg W ma)) (hb : PE X b (Ee X.g X.mg W mb)) (hc : PE X c (Ee X.g X.mg W mc))
    (hm : lastMarks [o1, o2] [b, c] = false := by with_unfolding_all rfl) : PE X (.Compare a [o1, o2] [b, c] pos) (Ee X.g X.mg W (e_chain f g ma mb mc)) := pe_of (pe_chain ho ho2 ha hb hc hm) (w_chain hf hg)
theorem T_chain {o1 o2 : CmpOp} {r1 r2 : R2} {f g : D → D → Option D} (ho : OpR X (compareOp o1) r1) (hf : OpP X.g X.mg r1 f) (ho2 : OpR X (compareOp o2) r2) (hg : OpP X.g X.mg r2 g) (ha : PE X a (Ee X.g X.mg W ma)) (hb : PE X b (Ee X.g X.mg W mb)) (hc : PE X c (Ee X.g X.mg W mc))
    (hm : lastMarks [o1, o2] [b, c] = false := by with_unfolding_all rfl) : PT X (.Compare a [o1, o2] [b, c] pos) (Et X.g X.mg W (t_e (e_chain f g ma mb mc))) := pt_of (pt_chain ho ho2 ha hb hc hm) (w_test (w_chain hf hg))
theorem E_slice {lo hi : Option Expr} {p2 : Pos} {ml mh : MO} (ha : PE X a (Ee X.g X.mg W ma)) (hl : PO X lo (Eo X.g X.mg W ml)) (hh : PO X hi (Eo X.g X.mg W mh)) : PE X (.Subscript a (.Slice lo hi none p2) pos) (Ee X.g X.mg W (e_sl d_sl ma ml mh)) :=
  pe_of (pe_slice (sl_list.or sl_str) ha hl hh) (w_sl sp_sl)
theorem E_index (ha : PE X a (Ee X.g X.mg W ma)) (hb : PE X b (Ee X.g X.mg W mb)) (hs : PlainIx b) : PE X (.Subscript a b pos) (Ee X.g X.mg W (e_op2 d_ix ma mb)) := E_ix ix_seq op_dIx hs ha hb
theorem E_cb {id : String} {x : Str} {rr : List V → Hp → VK → Prop} {f : List D → Option D} (hc : CallR X (.builtin id) rr) (cp : CallP X.g X.mg rr f) (hg : Gl X x) (hm : X.mg x = none) (hv : bootBuiltins x = some (.builtin id)) (ha : PA X (e :: es) (Ea X.g X.mg W r)) (hn : x ≠ "__name__" := by decide) (hdb : (x == ("__debug__" : Str)) = false := by decide)
    (he : starEach (e :: es) X.env = (false, eval e X.env) :: starEach es X.env := by rfl) (hpl : (backTo pos (starEach es X.env)).any (·.1) = false := by rfl) : PE X (.Call (.Name x p) (e :: es) [] pos) (Ee X.g X.mg W (e_cb f r)) :=
  pe_of (pe_callB hc hg hm hv ha hn hdb he hpl) (w_cb cp)
/-- a module's constant -/
theorem E_glob {x : Str} {v : V} {u : Value} {d : D} (hg : Gl X x) (hm : X.mg x = some u) (rv : RelV v u) (rd : ∀ G ad, Rep X.g X.mg G ad v d) (hd : (x == ("__debug__" : Str)) = false := by decide) : PE X (.Name x pos) (Ee X.g X.mg W (e_c d)) := E_c (pe_glob hg hm rv hd) rd
end

/-! ### a call with keywords -/
def e_callK (m : List D → Sg → Out D) (g : List D → List D → List D) (r rk : MA) : ME := fun ρ S => (r ρ S).bind fun ds S1 => (rk ρ S1).bind fun es S2 => if noLoc ds = true ∧ noLoc es = true then m (g ds es) S2 else .no
def tCallKS (sp : Sp) (gV : List V → List V → List V) (n m : Nat) (E : L2.St → XK) (t tk : TA) : TE := fun σ H Q => t σ H fun vs H1 => tk σ H1 fun zs H2 => vs.length = n ∧ zs.length = m ∧ sp (gV vs zs) H2 Q (E σ)
section
variable {K : Fg} {mg : Mg} {W : WX}
theorem w_callK {n n1 n2 : Nat} {m : List D → Sg → Out D} {g : List D → List D → List D} {gV : List V → List V → List V} {r rk : MA} (len : ∀ ds S, ds.length ≠ n → m ds S = .no) (l1 : aLen n1 r) (l2 : aLen n2 rk)
    (hg : ∀ G ad vs ds zs es, Reps K mg G ad vs ds → Reps K mg G ad zs es → Reps K mg G ad (gV vs zs) (g ds es)) : ∀ σ H Q, Ee K mg W (e_callK m g r rk) σ H Q → tCallKS (SpM K mg n m) gV n1 n2 (WE W) (Ea K mg W r) (Ea K mg W rk) σ H Q := by
  rintro σ H Q ⟨O, ad, S, ρ, s, fr, k⟩
  refine ⟨O, ad, S, ρ, s, fr, ?_⟩
  unfold e_callK at k
  have a1 := l1 ρ S
  cases e : r ρ S with
  | no => rw [e] at k; exact k
  | er x fs S1 => rw [e] at k; exact k
  | ok ds S1 =>
    rw [e] at k a1
    intro vs O1 ad1 H1 t1 s1 r1
    have k1 : PostE K mg W ρ σ Q O1 ad1 H1 ((rk ρ S1).bind fun es S2 => if noLoc ds = true ∧ noLoc es = true then m (g ds es) S2 else .no) := PostE.rebase k t1 s.hid s1.dom
    have fr1 := fr.step s.hid t1
    refine ⟨O1, ad1, S1, ρ, s1, fr1, ?_⟩
    have a2 := l2 ρ S1
    cases e2 : rk ρ S1 with
    | no => rw [e2] at k1; exact k1
    | er x fs S2 => rw [e2] at k1; exact k1
    | ok es S2 =>
      rw [e2] at k1 a2
      intro zs O2 ad2 H2 t2 s2 r2
      have k2 : PostE K mg W ρ σ Q O2 ad2 H2 (if noLoc ds = true ∧ noLoc es = true then m (g ds es) S2 else .no) := PostE.rebase k1 t2 s1.hid s2.dom
      obtain ⟨⟨c1, c2⟩, k3⟩ := post_if (P := PostE K mg W ρ σ Q O2 ad2 H2) (fun z => z) k2
      have q1 := reps_of (PairedR.step s1.hid t2 r1) c1
      have q2 := reps_of r2 c2
      refine ⟨by rw [q1.length]; exact a1, by rw [q2.length]; exact a2, O2, ad2, S2, g ds es, s2, hg _ _ _ _ _ _ q1 q2, ?_, ?_⟩
      · by_cases el : (g ds es).length = n
        · exact el
        · rw [len _ S2 el] at k3; exact k3.elim
      · cases em : m (g ds es) S2 with
        | ok d S' => rw [em] at k3; exact fun v O' ad' H' t z r => k3 v O' ad' H' t z (repR_of r)
        | er x fs S' => rw [em] at k3; exact k3
        | no => rw [em] at k3; exact k3
end
section
variable {X : Cx} {W : WX} {k n1 : Nat} {f : Addr} {fd : FuncData} {ps ks : List Str} {x : Str} {p pos : Pos} {e : Expr} {es : List Expr} {kws : List Keyword} {t tk : TA} {sp : Sp} {E : L2.St → XK} {g : List Value → List Value → List Value} {gV : List V → List V → List V}
theorem run_kw {pins : List (Addr × Obj)} {σ : L2.St} {H : Hp} {s : Shared} {Q : VK} {us ws : List Value} {vs zs : List V} (F : FnOk X.prog X.w X.g X.mg X.base (L2.CX X.prog X.w) k f fd ps sp) (hr : Room k X.A) (hb : KBn X.g fd ps n1 ks g gV) (hx : PassesAt (L2.CX X.prog X.w) X σ (E σ))
    (I : L2.Inv X pins σ H s) (r : Vals vs us) (rz : Vals zs ws) (l1 : vs.length = n1) (l2 : zs.length = ks.length) (h : sp (gV vs zs) H Q (E σ)) : wpAny (model X.prog X.w) X.A (call (.ref f) us (ks.zip ws)) (EP X pins σ Q) X.xe s := by
  have bt := hb.to s us ws I.kIn (by rw [← r.length]; exact l1) (by rw [← rz.length]; exact l2)
  refine wpAny_call (codeAny_mono (F.run X.A X.stack s H _ _ _ Q (E σ) hr I.env0 bt (hb.rel r rz) h) fun q s' hq => ?_)
  rcases q with er | fl
  · exact hx pins H s er s' I hq
  · cases fl <;> first | exact I.after hq | exact False.elim hq
theorem pe_kw (F : FnOk X.prog X.w X.g X.mg X.base (L2.CX X.prog X.w) k f fd ps sp) (hr : Room k X.A) (hg : Gl X x) (hm : X.mg x = some (.ref f)) (hk : PySem.W.keepIn X.g (.ref f) = true) (hb : KBn X.g fd ps n1 ks g gV) (hx : ∀ σ, PassesAt (L2.CX X.prog X.w) X σ (E σ))
    (ha : PA X (e :: es) t) (hkw : PK X kws tk) (hall : (backToKw pos (keywordEach kws X.env)).all (·.1.isSome) = true := by rfl) (hks : (backToKw pos (keywordEach kws X.env)).filterMap (·.1) = ks := by rfl)
    (hdb : (x == ("__debug__" : Str)) = false := by decide) (he : starEach (e :: es) X.env = (false, eval e X.env) :: starEach es X.env := by rfl)
    (hpl : ((backTo pos (starEach (e :: es) X.env)).any (·.1) || (backToKw pos (keywordEach kws X.env)).any (·.1.isNone)) = false := by rfl) : PE X (.Call (.Name x p) (e :: es) kws pos) (tCallKS sp gV n1 ks.length E t tk) := by
  constructor
  intro pins s σ H Q I h
  apply wpAny_Call_Name_kw (ld_glob I hg hm ?_ hdb)
  apply PySem.W.callWith_KW (h₀ := X.base) I.ok.mod.kin hk hall (thn (ha.run pos pins s σ H _ I h) ?_) hpl he
  rintro us s1 ⟨vs, H1, I1, r, q⟩
  apply thn (hkw.run pos pins s1 σ H1 _ I1 q)
  rintro ws s2 ⟨zs, H2, I2, rz, l1, l2, q2⟩
  exact ⟨I2.kIn, by rw [hks]; exact run_kw F hr hb (hx σ) I2 r rz l1 l2 q2⟩
theorem pe_kw0 (F : FnOk X.prog X.w X.g X.mg X.base (L2.CX X.prog X.w) k f fd ps sp) (hr : Room k X.A) (hg : Gl X x) (hm : X.mg x = some (.ref f)) (hk : PySem.W.keepIn X.g (.ref f) = true) (hb : KBn X.g fd ps 0 ks g gV) (hx : ∀ σ, PassesAt (L2.CX X.prog X.w) X σ (E σ))
    (hkw : PK X kws tk) (hall : (backToKw pos (keywordEach kws X.env)).all (·.1.isSome) = true := by rfl) (hks : (backToKw pos (keywordEach kws X.env)).filterMap (·.1) = ks := by rfl)
    (hdb : (x == ("__debug__" : Str)) = false := by decide) (hpl : ((backTo pos (starEach [] X.env)).any (·.1) || (backToKw pos (keywordEach kws X.env)).any (·.1.isNone)) = false := by rfl) : PE X (.Call (.Name x p) [] kws pos) (tCallKS sp gV 0 ks.length E tNil tk) := by
  constructor
  intro pins s σ H Q I h
  apply wpAny_Call_Name_kw (ld_glob I hg hm ?_ hdb)
  apply PySem.W.callWith_KW0 (h₀ := X.base) I.ok.mod.kin hk hall ?_ hpl
  have h' : tk σ H fun zs H2 => ([] : List V).length = 0 ∧ zs.length = ks.length ∧ sp (gV [] zs) H2 Q (E σ) := h
  apply thn (hkw.run pos pins s σ H _ I h')
  rintro ws s2 ⟨zs, H2, I2, rz, l1, l2, q2⟩
  exact ⟨I2.kIn, by rw [hks]; exact run_kw (us := []) (vs := []) F hr hb (hx σ) I2 .nil rz rfl l2 q2⟩
end
section
variable {X : Cx} {W : WX} {k n1 : Nat} {f : Addr} {fd : FuncData} {ps ks : List Str} {x : Str} {p pos : Pos} {e : Expr} {es : List Expr} {kws : List Keyword} {r rk : MA} {g : List Value → List Value → List Value} {gV : List V → List V → List V} {gD : List D → List D → List D}
theorem E_callK {n b : Nat} {mb : MS} (F : FnOk X.prog X.w X.g X.mg X.base (L2.CX X.prog X.w) k f fd ps (SpM X.g X.mg b (Gd.fn n mb b))) (hr : Room k X.A) (hg : Gl X x) (hm : X.mg x = some (.ref f)) (hk : PySem.W.keepIn X.g (.ref f) = true) (hb : KBn X.g fd ps n1 ks g gV) (tk : Takes X W)
    (hgD : ∀ G ad vs ds zs es, Reps X.g X.mg G ad vs ds → Reps X.g X.mg G ad zs es → Reps X.g X.mg G ad (gV vs zs) (gD ds es)) (ha : PA X (e :: es) (Ea X.g X.mg W r)) (hkw : PK X kws (Ea X.g X.mg W rk)) (l1 : aLen n1 r) (l2 : aLen ks.length rk)
    (hall : (backToKw pos (keywordEach kws X.env)).all (·.1.isSome) = true := by rfl) (hks : (backToKw pos (keywordEach kws X.env)).filterMap (·.1) = ks := by rfl)
    (hdb : (x == ("__debug__" : Str)) = false := by decide) (he : starEach (e :: es) X.env = (false, eval e X.env) :: starEach es X.env := by rfl)
    (hpl : ((backTo pos (starEach (e :: es) X.env)).any (·.1) || (backToKw pos (keywordEach kws X.env)).any (·.1.isNone)) = false := by rfl) :
    PE X (.Call (.Name x p) (e :: es) kws pos) (Ee X.g X.mg W (e_callK (Gd.fn n mb b) gD r rk)) :=
  pe_of (pe_kw F hr hg hm hk hb (fun σ => passAt tk σ) ha hkw hall hks hdb he hpl) (w_callK fn_len l1 l2 hgD)
theorem E_callK0 {n b : Nat} {mb : MS} (F : FnOk X.prog X.w X.g X.mg X.base (L2.CX X.prog X.w) k f fd ps (SpM X.g X.mg b (Gd.fn n mb b))) (hr : Room k X.A) (hg : Gl X x) (hm : X.mg x = some (.ref f)) (hk : PySem.W.keepIn X.g (.ref f) = true) (hb : KBn X.g fd ps 0 ks g gV) (tk : Takes X W)
    (hgD : ∀ G ad vs ds zs es, Reps X.g X.mg G ad vs ds → Reps X.g X.mg G ad zs es → Reps X.g X.mg G ad (gV vs zs) (gD ds es)) (hkw : PK X kws (Ea X.g X.mg W rk)) (l2 : aLen ks.length rk)
    (hall : (backToKw pos (keywordEach kws X.env)).all (·.1.isSome) = true := by rfl) (hks : (backToKw pos (keywordEach kws X.env)).filterMap (·.1) = ks := by rfl)
    (hdb : (x == ("__debug__" : Str)) = false := by decide) (hpl : ((backTo pos (starEach [] X.env)).any (·.1) || (backToKw pos (keywordEach kws X.env)).any (·.1.isNone)) = false := by rfl) :
    PE X (.Call (.Name x p) [] kws pos) (Ee X.g X.mg W (e_callK (Gd.fn n mb b) gD a_nil rk)) :=
  pe_of (pe_kw0 F hr hg hm hk hb (fun σ => passAt tk σ) hkw hall hks hdb hpl) fun σ H Q q => by
    obtain ⟨O, ad, S, ρ, s, fr, k⟩ := w_callK (n1 := 0) fn_len aLen_nil l2 hgD σ H Q q
    exact k [] O ad H (.refl _ _ _) s .nil
end

def d_neg : D → Option D := fun d => match d with
  | .int i => some (.int (-i))
  | _ => none
theorem E_neg {X : Cx} {W : WX} {a : Expr} {pos : Pos} {m : ME} (ha : PE X a (Ee X.g X.mg W m)) : PE X (.UnaryOp .USub a pos) (Ee X.g X.mg W (e_op1 d_neg m)) :=
  pe_of (pe_un un_neg ha) fun σ H Q q => w_op1 (r := rU fun i => .int (-i)) (fun O ad H x d z r h => by
    unfold d_neg at h
    split at h
    · cases h
      exact res_v (.int _) fun Q q => ⟨_, r.int, q⟩
    · cases h) σ H Q q
end Gd

/-! Gd, part 9: dicts. -/
namespace Gd
open PySem L2 PyProof.Rows

def kmerge (kvs more : List (Key × D)) : List (Key × D) := more.foldl (fun acc kv => kput acc kv.1 kv.2) kvs
def pairsM : List (ME × ME) → Ro → Sg → Out (List (Key × D))
  | [], _, S => .ok [] S
  | (k, v) :: r, ρ, S => (k ρ S).bind fun kd S1 => (v ρ S1).bind fun vd S2 => match keyOf kd with
    | some key => if isLoc vd = true then .no else (pairsM r ρ S2).bind fun ps S3 => .ok ((key, vd) :: ps) S3
    | none => .no
def f_disp (l : List (ME × ME)) : ME := fun ρ S => (pairsM l ρ S).bind fun kvs S1 => if kvs.length ≤ 15 then .ok (.dct (kmerge [] kvs)) S1 else .no
section
variable {K : Fg} {mg : Mg} {W : WX} {G : Hp} {ad : List Addr}
theorem RepK.merge {more : List (Key × V)} {ms : List (Key × D)} (r : RepK K mg G ad more ms) : ∀ {kvs : List (Key × V)} {ds : List (Key × D)}, RepK K mg G ad kvs ds → RepK K mg G ad (mergeK kvs more) (kmerge ds ms) := by
  induction more generalizing ms with
  | nil => intro kvs ds q; cases r; exact q
  | cons p more ih =>
    intro kvs ds q
    cases r with
    | cons a b => exact ih b (q.put a)
theorem tPairs_of {σ : L2.St} {ρ : Ro} : ∀ (l : List (ME × ME)) {O : Addr → Prop} {ad : List Addr} {S : Sg} {H : Hp} {Q : List (V × V) → Hp → Prop}, Sto K mg O ad S H → Fre K mg O ad ρ σ H →
    (match pairsM l ρ S with
      | .ok kvs S' => ∀ (ps : List (Key × V)) O' ad' H', Stp O ad H O' ad' H' → Sto K mg O' ad' S' H' → RepK K mg (hide O' H') ad' ps kvs → Q (ps.map fun kv => (kV kv.1, kv.2)) H'
      | .er x fs S' => ∀ cls dd O' ad' H', Stp O ad H O' ad' H' → Sto K mg O' ad' S' H' → XRep K mg O' ad' H' cls dd x fs → W cls dd σ H'
      | .no => False) → tPairs (l.map fun p => (Ee K mg W p.1, Ee K mg W p.2)) σ H Q
  | [], O, ad, S, H, Q, s, fr, h => h [] O ad H (.refl _ _ _) s .nil
  | (k, v) :: r, O, ad, S, H, Q, s, fr, h => by
    refine ⟨O, ad, S, ρ, s, fr, ?_⟩
    unfold pairsM at h
    show PostE K mg W ρ σ _ O ad H (k ρ S)
    cases e : k ρ S with
    | no => simp only [e, Out.bind] at h
    | er x fs S1 => simp only [e, Out.bind] at h; exact h
    | ok kd S1 =>
      simp only [e, Out.bind] at h
      intro kv O1 ad1 H1 t1 s1 r1
      have fr1 := fr.step s.hid t1
      refine ⟨O1, ad1, S1, ρ, s1, fr1, ?_⟩
      show PostE K mg W ρ σ _ O1 ad1 H1 (v ρ S1)
      cases e2 : v ρ S1 with
      | no => simp only [e2] at h
      | er x fs S2 =>
        simp only [e2] at h
        exact fun cls dd O' ad' H' t z r => h cls dd O' ad' H' (t1.trans t s.hid s1.dom) z r
      | ok vd S2 =>
        simp only [e2] at h
        intro vv O2 ad2 H2 t2 s2 r2
        have t12 := t1.trans t2 s.hid s1.dom
        cases ek : keyOf kd with
        | none => simp only [ek] at h
        | some key =>
          simp only [ek] at h
          cases el : isLoc vd with
          | true => rw [if_pos el] at h; exact h.elim
          | false =>
            rw [if_neg (by rw [el]; exact Bool.false_ne_true)] at h
            have nl : isLoc kd = false := by cases kd <;> first | rfl | cases ek
            have hk := keyOf_V (r1.rep nl) ek
            subst hk
            refine tPairs_of r (Q := fun ps H3 => Q ((kV key, vv) :: ps) H3) s2 (fr1.step s1.hid t2) ?_
            cases e3 : pairsM r ρ S2 with
            | no => simp only [e3] at h
            | er x fs S3 =>
              simp only [e3] at h
              exact fun cls dd O' ad' H' t z r => h cls dd O' ad' H' (t12.trans t s.hid s2.dom) z r
            | ok kvs S3 =>
              simp only [e3] at h
              exact fun ps O' ad' H' t z rk => h ((key, vv) :: ps) O' ad' H' (t12.trans t s.hid s2.dom) z (.cons ((r2.rep el).mono (t.hide s2.hid) t.get) rk)
theorem w_disp {l : List (ME × ME)} : ∀ σ H Q, Ef K mg W (f_disp l) σ H Q → tDisp (l.map fun p => (Ee K mg W p.1, Ee K mg W p.2)) σ H Q := by
  rintro σ H Q ⟨O, ad, S, ρ, s, fr, h⟩ p hp
  obtain ⟨t, z, np, mr⟩ := new_own (K := K) (mg := mg) (o := .dK []) (d := .dct []) s hp ⟨[], upd_same, .nil⟩
  refine tPairs_of l z (fr.step s.hid t) ?_
  unfold f_disp at h
  cases e : pairsM l ρ S with
  | no => simp only [e] at h; exact h
  | er x fs S1 =>
    simp only [e] at h
    exact fun cls dd O' ad' H' t2 z2 r => h cls dd O' ad' H' (t.trans t2 s.hid z.dom) z2 r
  | ok kvs S1 =>
    simp only [e] at h
    obtain ⟨c1, k⟩ := post_if (P := PostF K mg W ρ σ Q O ad H) (fun z => z) h
    intro ps O' ad' H' t2 z2 rk
    have hpd := t2.fr p _ upd_same np
    have nD := t2.nmem np upd_same
    have oD : O' p := t2.op p (.inr rfl)
    refine ⟨hpd, ps, rfl, by rw [rk.length]; exact c1, k p O' ad' _ ⟨fun b o hb m => ?_, fun a ha => t2.op a (.inl ha), fun a ha => ?_, t2.ap.imp fun m hm => ⟨hm.1, fun a ha => ?_⟩⟩ (z2.upd_out oD nD) oD nD hp ⟨_, upd_same, (RepK.merge rk .nil).mono (hide_upd oD) fun _ _ e => e⟩⟩
    · rw [upd_ne (ne_of_none hb hp)]
      exact t2.fr b o (t.fr b o hb m) m
    · rcases t2.oq a ha with (q | q) | q
      · exact .inl q
      · exact .inr (by rw [q]; exact hp)
      · by_cases e : a = p
        · exact .inr (by rw [e]; exact hp)
        · rw [upd_ne e] at q; exact .inr q
    · have q := hm.2 a ha
      by_cases e : a = p
      · rw [e, upd_same] at q; cases q
      · rw [upd_ne e] at q; exact q
end
section
variable {X : Cx} {W : WX} {pos : Pos}
theorem F_dict0 : PE X (.Dict [] [] pos) (Ef X.g X.mg W (f_disp [])) := pe_of pe_dnewK fun σ H Q q => by
  obtain ⟨O, ad, S, ρ, s, fr, k⟩ := q
  intro p hp
  obtain ⟨t, z, np, mr⟩ := new_own (K := X.g) (mg := X.mg) (o := .dK []) (d := .dct []) s hp ⟨[], upd_same, .nil⟩
  exact k p _ ad _ t z (.inr rfl) np hp mr
theorem F_disp {keys : List (Option Expr)} {values : List Expr} {l : List (ME × ME)} (h : PPs X pos keys values (l.map fun p => (Ee X.g X.mg W p.1, Ee X.g X.mg W p.2))) (hall : keys.all (·.isSome) = true) (hl : keys.length = values.length) (h0 : keys ≠ []) (h15 : keys.length ≤ 15) :
    PE X (.Dict keys values pos) (Ef X.g X.mg W (f_disp l)) := pe_of (pe_disp h hall hl h0 h15) w_disp
theorem P_nil : PPs X pos [] [] (([] : List (ME × ME)).map fun p => (Ee X.g X.mg W p.1, Ee X.g X.mg W p.2)) := pps_nil
theorem P_cons {k v : Expr} {ks : List (Option Expr)} {vs : List Expr} {mk mv : ME} {l : List (ME × ME)} (hk : PE X k (Ee X.g X.mg W mk)) (hv : PE X v (Ee X.g X.mg W mv)) (hr : PPs X pos ks vs (l.map fun p => (Ee X.g X.mg W p.1, Ee X.g X.mg W p.2))) :
    PPs X pos (some k :: ks) (v :: vs) (((mk, mv) :: l).map fun p => (Ee X.g X.mg W p.1, Ee X.g X.mg W p.2)) := pps_cons hk hv hr
end
end Gd

/-! Gd, part 10: a law's end. -/
namespace Gd
open PySem L2 PyProof.Rows

theorem hide_no (H : Hp) : hide (fun _ => False) H = H := by
  funext a; unfold hide; rw [if_neg (fun h => h)]
def spL (K : Fg) (n : Nat) : Sp := fun vs H Q _ => ∃ (a : Addr) (ns : List Int), vs = [.ref a] ∧ SqL K H a (ns.map V.int) ∧ ns.length ≤ n ∧ (∀ z ∈ ns, Builtin.Int.intBits z ≤ 1048576) ∧ ∀ H', Q (.bl true) H'
theorem spL_imp {K : Fg} {mg : Mg} {n : Nat} {m : List D → Sg → Out D} (hm : ∀ ns : List Int, ns.length ≤ n → ∃ S', m [.lst (ns.map .int)] [] = .ok (.bl true) S') : ∀ vs H Q E, spL K n vs H Q E → SpM K mg 1 m vs H Q E := by
  rintro vs H Q E ⟨a, ns, rfl, hS, hl, hb, k⟩
  obtain ⟨S', e⟩ := hm ns hl
  refine ⟨fun _ => False, [], [], [.lst (ns.map .int)], ⟨rfl, .nil, (fun _ h => nomatch h), (fun _ h => h.elim), (fun n d h => by simp at h)⟩, ?_, rfl, ?_⟩
  · rw [hide_no]
    exact .cons (.lst hS .of_ints) .nil
  · rw [e]
    intro v O' ad' H' _ _ r
    cases r
    exact k H'
theorem walk {l : PySem.W.OpenLaw} {q : Program} {loose : List Str} {XP : (Str → Option Value) → Heap → Prop} {YP : World → Heap → Prop} {d : DefRec} {K : Params → PySem.W.Frag} {m : List D → Sg → Out D} {k n : Nat} (hn : l.most = some n) (hn2 : n ≤ sizeLine) (hdf : d.params.defaults = [])
    (hr : Room k callerA) (hm : ∀ ns : List Int, ns.length ≤ n → ∃ S', m [.lst (ns.map .int)] [] = .ok (.bl true) S') (hY : ∀ (w : World) (h : Heap), YP w h → (K w.params).In h)
    (F : ∀ (w : World) (mg : Str → Option Value) (fa : Addr) (h : Heap), (K w.params).In h → h.Ns mainGlobals mg → mg d.name = some (.ref fa) →
      ∃ fd : FuncData, (∀ (s : Shared) (u : Value), BindsTo s fd ⟨[u], []⟩ [("script", u)]) ∧ ∀ base : Heap, (K w.params).In base → base.Ns mainGlobals mg → FnOk l.prog w (K w.params) mg base (L2.CX l.prog w) k fa fd ["script"] (SpM ⟨K w.params, l.prog, w⟩ mg 1 m)) :
    PySem.W.WalkO q loose XP YP l.row.toRowW d [] (fun f vs => PySem.call f vs) :=
  L2.walk_ofB (n := n) (k := k) (x := "script") (CX := fun w => L2.CX l.prog w) (sp := fun w => spL ⟨K w.params, l.prog, w⟩ n) hn hn2 hdf hr hY
    (fun w mg fa h h1 h2 h3 => by
      obtain ⟨fd, b, g⟩ := F w mg fa h h1 h2 h3
      exact ⟨fd, b, fun base k1 k2 => (g base k1 k2).imp (spL_imp hm)⟩)
    (fun _ _ a ns hl hb _ hS => ⟨a, ns, rfl, hS, hl, hb, fun _ => rfl⟩) fun w H s e s' z => by
      obtain ⟨_, _, _, _, _, _, _, _, _, _, _, _, z⟩ := z
      exact z
/-! ### constants of the module -/
theorem rep_tup {K : Fg} {mg : Mg} {a : Addr} {od : Option Addr} {its : Array Value} {sl : Array (Option Value)} {n : Nat} {xs : List V} {ds : List D} (l : K.F.lookup a = some ⟨.type "tuple", od, .seq its n, sl⟩) (hs : its.size ≤ sizeLine) (hv : Vals xs its.toList)
    (hr : ∀ G ad, Reps K mg G ad xs ds) : ∀ G ad, Rep K mg G ad (.ref a) (.tup ds) := fun G ad => .tup (.inr ⟨_, its, n, l, rfl, rfl, hs, hv⟩) (hr G ad)
theorem rep_lst {K : Fg} {mg : Mg} {a : Addr} {its : Array Value} {sl : Array (Option Value)} {n : Nat} {xs : List V} {ds : List D} (l : K.F.lookup a = some ⟨.type "list", none, .seq its n, sl⟩) (hs : its.size ≤ sizeLine) (hv : Vals xs its.toList)
    (hr : ∀ G ad, Reps K mg G ad xs ds) : ∀ G ad, Rep K mg G ad (.ref a) (.lst ds) := fun G ad => .lst (.inr ⟨_, its, n, l, rfl, rfl, rfl, hs, hv⟩) (hr G ad)
/-- a def all of whose arguments are written by name, in their order -/
theorem kb0 {K : Fg} {x : Str} {st : Stmt} {ps : List Str} {kV doc pm cdv ct : Value} {an : Option Addr} (h : ∀ ws : List Value, ws.length = ps.length → bindArgs (PySem.W.fnOf x x (defArgs st) (defBody st) (defScope st) .none kV doc pm an cdv ct) ⟨[], ps.zip ws⟩ = pure (ps.zip ws)) :
    KBn K (PySem.W.fnOf x x (defArgs st) (defBody st) (defScope st) .none kV doc pm an cdv ct) ps 0 ps (fun _ ws => ws) (fun _ zs => zs) :=
  ⟨fun s us ws _ h1 h2 => (by
    cases us with
    | nil => exact .of_eq (h ws h2)
    | cons a b => cases h1), fun _ h => h⟩
end Gd

/-! Gd, part 11: own classes; what is never reached. -/
namespace Gd
open PySem L2 PyProof.Rows

/-! ### what is never reached needs no rule -/
def e_never : ME := fun _ _ => .no
def s_never : MS := fun _ _ => .no
section
variable {X : Cx} {W : WX}
theorem E_never {e : Expr} : PE X e (Ee X.g X.mg W e_never) := ⟨fun pins s σ H Q I h => by
  obtain ⟨O, ad, S, ρ, _, _, h⟩ := h
  exact h.elim⟩
theorem S_never {st : Stmt} : PS X st (Ss X.g X.mg W s_never) := ⟨fun pins s σ H D I h => by
  obtain ⟨c, O, ad, S, ρ, _, h⟩ := h
  exact h.elim⟩
end
/-! ### fields -/
def putFD (f : Str) (v : D) : List (Str × D) → List (Str × D)
  | [] => [(f, v)]
  | (g, x) :: r => if g = f then (g, v) :: r else (g, x) :: putFD f v r
structure FldOk (K : Fg) (mg : Mg) (f : Str) (c : Str) : Prop where
  ok : ∀ C, mg c = some (.ref C) → Cls K C ∧ NoAttr K C f
def d_fld (cs : List Str) (f : Str) : D → Option D := fun d => match d with
  | .ins c gs => if c ∈ cs then gs.lookup f else none
  | _ => none
def setF (cs : List Str) (f : Str) (v : D) : D → Option D := fun d => match d with
  | .ins c gs => if c ∈ cs ∧ gs.length < 1000 then some (.ins c (putFD f v gs)) else none
  | _ => none
section
variable {K : Fg} {mg : Mg} {G : Hp} {ad : List Addr}
theorem RepF.length {vs : List (Str × V)} {ds : List (Str × D)} (r : RepF K mg G ad vs ds) : vs.length = ds.length := by
  induction vs generalizing ds with
  | nil => cases r; rfl
  | cons p q ih => cases r with | cons a b => rw [List.length_cons, List.length_cons, ih b]
theorem RepF.lookup {f : Str} {d : D} {vs : List (Str × V)} {ds : List (Str × D)} (r : RepF K mg G ad vs ds) (h : ds.lookup f = some d) : ∃ v, vs.lookup f = some v ∧ Rep K mg G ad v d := by
  induction vs generalizing ds with
  | nil => cases r; cases h
  | cons p q ih =>
    cases r with
    | cons a b =>
      rename_i k v d' ds'
      rw [List.lookup_cons] at h ⊢
      cases e : f == k with
      | true => rw [e] at h; cases h; exact ⟨v, rfl, a⟩
      | false => rw [e] at h; exact ih b h
theorem RepF.none {f : Str} {vs : List (Str × V)} {ds : List (Str × D)} (r : RepF K mg G ad vs ds) (h : ds.lookup f = none) : vs.lookup f = none := by
  induction vs generalizing ds with
  | nil => rfl
  | cons p q ih =>
    cases r with
    | cons a b =>
      rename_i k v d' ds'
      rw [List.lookup_cons] at h ⊢
      cases e : f == k with
      | true => rw [e] at h; cases h
      | false => rw [e] at h; exact ih b h
theorem RepF.put {f : Str} {v : V} {d : D} (rv : Rep K mg G ad v d) {vs : List (Str × V)} {ds : List (Str × D)} (r : RepF K mg G ad vs ds) : RepF K mg G ad (L2.putF f v vs) (putFD f d ds) := by
  induction vs generalizing ds with
  | nil => cases r; exact .cons rv .nil
  | cons p q ih =>
    cases r with
    | cons a b =>
      rename_i k v' d' ds'
      unfold L2.putF putFD
      by_cases e : k = f
      · rw [if_pos e, if_pos e]; exact .cons rv b
      · rw [if_neg e, if_neg e]; exact .cons a (ih b)
/-- an instance, seen -/
theorem RepS.ins {O : Addr → Prop} {H : Hp} {x : V} {c : Str} {gs : List (Str × D)} (r : RepS K mg O ad H x (.ins c gs)) : ∃ a C dx fs, x = .ref a ∧ mg c = some (.ref C) ∧ H a = some (.ins C dx fs) ∧ RepF K mg (hide O H) ad fs gs := by
  rcases r with r | ⟨a, rfl, C, dx, fs, h1, h2, h3⟩
  · cases r with
    | ins h1 h2 h3 => exact ⟨_, _, _, _, rfl, h1, (of_hide h2).2, h3⟩
  · exact ⟨a, C, dx, fs, rfl, h1, h2, h3⟩
end
section
variable {X : Cx} {W : WX} {e : Expr} {pos : Pos} {m : ME}
theorem w_fld {K : Fg} {mg : Mg} {W : WX} {cs : List Str} {f : Str} (T : ∀ c ∈ cs, FldOk K mg f c) {a : ME} : ∀ σ H Q, Ee K mg W (e_op1 (d_fld cs f) a) σ H Q → tFld K (Ee K mg W a) f σ H Q := by
  intro σ H Q q
  refine (bindE (f := fun ρ d S1 => liftO S1 ((deref ρ S1 d).bind (d_fld cs f))) q).imp fun x H1 g => ?_
  obtain ⟨O, ad, S, ρ, d, s, fr, r1, k⟩ := g
  obtain ⟨z, ez⟩ := liftO_ok k
  obtain ⟨d', ed, ez⟩ := Option.bind_eq_some_iff.mp ez
  rw [ed] at k
  simp only [Option.bind_some, ez, liftO] at k
  have rx := deref_rep fr s r1 ed
  cases d' with
  | ins c gs =>
    unfold d_fld at ez
    dsimp only at ez
    split at ez
    · rename_i hc
      obtain ⟨p, C, dx, fs, rfl, hC, hp, rf⟩ := rx.ins
      obtain ⟨v, lv, rv⟩ := rf.lookup ez
      obtain ⟨cl, na⟩ := (T c hc).ok C hC
      exact ⟨p, C, dx, fs, v, rfl, hp, cl, na, lv, k v O ad H1 (.refl _ _ _) s (repR_of rv)⟩
    · cases ez
  | _ => cases ez
theorem E_fld {cs : List Str} {f : Str} (T : ∀ c ∈ cs, FldOk X.g X.mg f c) (he : PE X e (Ee X.g X.mg W m)) (hb : attributeBase e f X.env (eval e X.env) = eval e X.env := by rfl) : PE X (.Attribute e f pos) (Ee X.g X.mg W (e_op1 (d_fld cs f) m)) :=
  pe_of (pe_fld he hb) (w_fld T)
end
def s_fld (cs : List Str) (f : Str) (mv mo : ME) : MS := s_e mv fun dv => s_e mo fun dd => if isLoc dv = true then fun _ _ => .no else putTo dd (setF cs f dv)
section
variable {K : Fg} {mg : Mg} {W : WX}
theorem w_sfld {cs : List Str} {f : Str} (T : ∀ c ∈ cs, FldOk K mg f c) {mv mo : ME} : ∀ Dn σ H, Ss K mg W (s_fld cs f mv mo) Dn σ H → sFld K (Ee K mg W mo) (Ee K mg W mv) f Dn σ H := by
  rintro Dn σ H ⟨c, O, ad, S, ρ, z, h⟩
  refine (bindK (f := fun dv => s_e mo fun dd => if isLoc dv = true then fun _ _ => .no else putTo dd (setF cs f dv)) z .nil h).imp fun v H1 g => ?_
  obtain ⟨O, ad, S, dv, z, rv, _, h⟩ := g
  refine (bindK (f := fun dd => if isLoc dv = true then fun _ _ => .no else putTo dd (setF cs f dv)) z (.cons rv .nil) h).imp fun o H2 g => ?_
  obtain ⟨O, ad, S, dd, z, ro, r2, h⟩ := g
  cases r2 with
  | cons rv _ =>
    cases el : isLoc dv with
    | true => rw [if_pos el] at h; exact h.elim
    | false =>
      rw [if_neg (by rw [el]; exact Bool.false_ne_true)] at h
      obtain ⟨a, e, e', rfl, m, he, k⟩ := putTo_ok z ro h
      unfold setF at he
      cases e with
      | ins c gs =>
        dsimp only at he
        split at he
        · rename_i hc
          cases he
          obtain ⟨C, dx, fs, hC, hp, rf⟩ := m
          obtain ⟨cl, na⟩ := (T c hc.1).ok C hC
          exact ⟨a, C, dx, fs, rfl, hp, cl, na, by rw [rf.length]; exact hc.2, k _ ⟨C, dx, _, hC, upd_same, rf.put (rv.rep el)⟩⟩
        · cases he
      | _ => cases he
end
section
variable {X : Cx} {W : WX} {o value : Expr} {f : Str} {pos pos' : Pos} {mv mo : ME}
theorem S_fld {cs : List Str} (T : ∀ c ∈ cs, FldOk X.g X.mg f c) (ho : PE X o (Ee X.g X.mg W mo)) (hv : PE X value (Ee X.g X.mg W mv)) (hs : swapsWith value (some (.Attribute o f pos')) pos.line X.env = pure false := by rfl) :
    PS X (.Assign [.Attribute o f pos'] value pos) (Ss X.g X.mg W (s_fld cs f mv mo)) := ps_of (ps_fld ho hv hs) (w_sfld T)
end
/-! ### a method -/
def isCls (c : Str) : D → Bool
  | .ins d gs => decide (d = c)
  | _ => false
def noFld (f : Str) : D → Bool
  | .ins _ gs => (gs.lookup f).isNone
  | _ => false
/-- o.m(..): the object first -/
def e_meth (c : Str) (x : Str) (m : List D → Sg → Out D) (mo : ME) (r : MA) : ME := fun ρ S => (mo ρ S).bind fun o S1 => if isLoc o = false ∧ (match deref ρ S1 o with
    | some d => isCls c d && noFld x d
    | none => false) = true then (r ρ S1).bind fun ds S2 => if noLoc ds = true then m (o :: ds) S2 else .no else .no
def tMethS (C : Addr) (m : Str) (sp : Sp) (E : L2.St → XK) (ta : TE) (t : TA) : TE := fun σ H Q => ta σ H fun x H1 => ∃ a dx fs, x = .ref a ∧ H1 a = some (.ins C dx fs) ∧ fs.lookup m = none ∧ t σ H1 fun vs H2 => sp (.ref a :: vs) H2 Q (E σ)
section
variable {X : Cx} {CX : CXT} {k : Nat} {f C : Addr} {fd : FuncData} {ps : List Str} {sp : Sp} {E : L2.St → XK} {x m : Str} {p pos apos : Pos} {e o : Expr} {es : List Expr} {ta : TE} {t : TA}
theorem pe_methE {pl : Sem Bool} (he : PE X o ta) (c : Cls X.g C) (hm : Meth X.g C m f) (F : FnOk X.prog X.w X.g X.mg X.base CX k f fd ps sp) (hr : Room k X.A) (hb : Binds X.g fd ps []) (hx : ∀ σ, PassesAt CX X σ (E σ)) (ha : PA X (e :: es) t)
    (hst : starEach (e :: es) X.env = (false, eval e X.env) :: starEach es X.env := by rfl) (hpl : (backTo pos (starEach es X.env)).any (·.1) = false := by rfl)
    (ht : eval (.Call (.Attribute o m apos) (e :: es) [] pos) X.env = (do
      let ov ← eval o X.env
      standAt apos.atName
      let (f, first) ← holding [ov] (getMethod ov m pl)
      callWith pos f first (backTo pos (starEach (e :: es) X.env)) (backToKw pos (keywordEach [] X.env))) := by rfl) :
    PE X (.Call (.Attribute o m apos) (e :: es) [] pos) (tMethS C m sp E ta t) := by
  refine ⟨fun pins s σ H Q I h => ?_⟩
  refine PySem.W.methodCall_KW (pl := pl) (thn (he.run pins s σ H _ I h) fun u s1 ⟨x, H1, I1, rx, a, dx, fs, ex, ea, l, q⟩ => ?_) ht
  subst ex
  obtain rfl : u = Value.ref a := rx
  refine getmeth_ok I1 ea c hm l ?_
  refine PySem.W.callWith_K (first := [.ref a]) (h₀ := X.base) I.ok.mod.kin hm.kp (thn (ha.run pos pins s1 σ H1 _ I1 q) fun us s2 ⟨vs, H2, I2, r, q2⟩ => ⟨I2.kIn, ?_⟩) hst hpl
  exact run_fnS (us := .ref a :: us) (vs := .ref a :: vs) F hr hb (hx σ) I2 (.cons rfl r) q2
theorem pe_methE0 {pl : Sem Bool} (he : PE X o ta) (c : Cls X.g C) (hm : Meth X.g C m f) (F : FnOk X.prog X.w X.g X.mg X.base CX k f fd ps sp) (hr : Room k X.A) (hb : Binds X.g fd ps []) (hx : ∀ σ, PassesAt CX X σ (E σ))
    (ht : eval (.Call (.Attribute o m apos) [] [] pos) X.env = (do
      let ov ← eval o X.env
      standAt apos.atName
      let (f, first) ← holding [ov] (getMethod ov m pl)
      callWith pos f first (backTo pos (starEach [] X.env)) (backToKw pos (keywordEach [] X.env))) := by rfl) :
    PE X (.Call (.Attribute o m apos) [] [] pos) (tMethS C m sp E ta tNil) := by
  refine ⟨fun pins s σ H Q I h => ?_⟩
  refine PySem.W.methodCall_KW (pl := pl) (thn (he.run pins s σ H _ I h) fun u s1 ⟨x, H1, I1, rx, a, dx, fs, ex, ea, l, q⟩ => ?_) ht
  subst ex
  obtain rfl : u = Value.ref a := rx
  refine getmeth_ok I1 ea c hm l ?_
  exact PySem.W.callWith_K0 I1.kIn hm.kp (run_fnS (us := [.ref a]) (vs := [.ref a]) F hr hb (hx σ) I1 (.cons rfl .nil) q)
end
/-- a class and its place -/
structure ClsAt (K : Fg) (mg : Mg) (c : Str) (C : Addr) : Prop where
  at_ : mg c = some (.ref C)
  cl : Cls K C
section
variable {K : Fg} {mg : Mg} {W : WX}
theorem w_meth {c x : Str} {C : Addr} (T : ClsAt K mg c C) {n : Nat} {m : List D → Sg → Out D} {mo : ME} {r : MA} (len : ∀ ds S, ds.length ≠ n → m ds S = .no) : ∀ σ H Q, Ee K mg W (e_meth c x m mo r) σ H Q → tMethS C x (SpM K mg n m) (WE W) (Ee K mg W mo) (Ea K mg W r) σ H Q := by
  intro σ H Q q
  refine (bindE (f := fun ρ o S1 => if isLoc o = false ∧ (match deref ρ S1 o with
    | some d => isCls c d && noFld x d
    | none => false) = true then (r ρ S1).bind fun ds S2 => if noLoc ds = true then m (o :: ds) S2 else .no else .no) q).imp fun v H1 g => ?_
  obtain ⟨O, ad, S, ρ, o, s, fr, ro, k⟩ := g
  obtain ⟨⟨lo, hc⟩, k0⟩ := post_if (P := PostE K mg W ρ σ Q O ad H1) (fun z => z) k
  clear k
  cases ed : deref ρ S o with
  | none => rw [ed] at hc; cases hc
  | some d =>
    rw [ed] at hc
    obtain ⟨hc1, hc2⟩ := Bool.and_eq_true_iff.mp hc
    cases d with
    | ins c' gs =>
      have ec : c' = c := of_decide_eq_true hc1
      subst ec
      obtain ⟨a, C', dx, fs, rfl, hC, hp, rf⟩ := (deref_rep fr s ro ed).ins
      rw [T.at_] at hC
      cases hC
      have hl : gs.lookup x = none := by
        cases e : gs.lookup x with
        | none => rfl
        | some z => simp [noFld, e] at hc2
      refine ⟨a, dx, fs, rfl, hp, rf.none hl, O, ad, S, ρ, s, fr, ?_⟩
      have rO : Rep K mg (hide O H1) ad (.ref a) o := ro.rep lo
      cases e : r ρ S with
      | ok ds S1 =>
        rw [e] at k0
        intro vs O2 ad2 H2 t2 s2 r2
        have k2 : PostE K mg W ρ σ Q O2 ad2 H2 (if noLoc ds = true then m (o :: ds) S1 else .no) := PostE.rebase k0 t2 s.hid s2.dom
        obtain ⟨c2, k3⟩ := post_if (P := PostE K mg W ρ σ Q O2 ad2 H2) (fun z => z) k2
        have rs : Reps K mg (hide O2 H2) ad2 (.ref a :: vs) (o :: ds) := .cons (rO.mono (t2.hide s.hid) t2.get) (reps_of r2 c2)
        refine ⟨O2, ad2, S1, o :: ds, s2, rs, ?_, ?_⟩
        · by_cases el : (o :: ds).length = n
          · exact el
          · rw [len _ S1 el] at k3; exact k3.elim
        · cases em : m (o :: ds) S1 with
          | ok d S' => rw [em] at k3; exact fun v O' ad' H' t z r => k3 v O' ad' H' t z (repR_of r)
          | er x fs S' => rw [em] at k3; exact k3
          | no => rw [em] at k3; exact k3
      | er x fs S1 => rw [e] at k0; exact k0
      | no => rw [e] at k0; exact k0
    | _ => cases hc1
end
section
variable {X : Cx} {W : WX} {k : Nat} {f C : Addr} {fd : FuncData} {ps : List Str} {x c : Str} {pos apos : Pos} {e o : Expr} {es : List Expr} {r : MA} {mo : ME}
theorem E_meth {n b : Nat} {mb : MS} {pl : Sem Bool} (T : ClsAt X.g X.mg c C) (hm : Meth X.g C x f) (F : FnOk X.prog X.w X.g X.mg X.base (L2.CX X.prog X.w) k f fd ps (SpM X.g X.mg b (Gd.fn n mb b))) (hr : Room k X.A) (hb : Binds X.g fd ps []) (tk : Takes X W)
    (ho : PE X o (Ee X.g X.mg W mo)) (ha : PA X (e :: es) (Ea X.g X.mg W r)) (hst : starEach (e :: es) X.env = (false, eval e X.env) :: starEach es X.env := by rfl) (hpl : (backTo pos (starEach es X.env)).any (·.1) = false := by rfl)
    (ht : eval (.Call (.Attribute o x apos) (e :: es) [] pos) X.env = (do
      let ov ← eval o X.env
      standAt apos.atName
      let (f, first) ← holding [ov] (getMethod ov x pl)
      callWith pos f first (backTo pos (starEach (e :: es) X.env)) (backToKw pos (keywordEach [] X.env))) := by rfl) :
    PE X (.Call (.Attribute o x apos) (e :: es) [] pos) (Ee X.g X.mg W (e_meth c x (Gd.fn n mb b) mo r)) :=
  pe_of (pe_methE ho T.cl hm F hr hb (fun σ => passAt tk σ) ha hst hpl ht) (w_meth T fn_len)
theorem E_meth0 {n b : Nat} {mb : MS} {pl : Sem Bool} (T : ClsAt X.g X.mg c C) (hm : Meth X.g C x f) (F : FnOk X.prog X.w X.g X.mg X.base (L2.CX X.prog X.w) k f fd ps (SpM X.g X.mg b (Gd.fn n mb b))) (hr : Room k X.A) (hb : Binds X.g fd ps []) (tk : Takes X W)
    (ho : PE X o (Ee X.g X.mg W mo))
    (ht : eval (.Call (.Attribute o x apos) [] [] pos) X.env = (do
      let ov ← eval o X.env
      standAt apos.atName
      let (f, first) ← holding [ov] (getMethod ov x pl)
      callWith pos f first (backTo pos (starEach [] X.env)) (backToKw pos (keywordEach [] X.env))) := by rfl) :
    PE X (.Call (.Attribute o x apos) [] [] pos) (Ee X.g X.mg W (e_meth c x (Gd.fn n mb b) mo a_nil)) :=
  pe_of (pe_methE0 ho T.cl hm F hr hb (fun σ => passAt tk σ) ht) fun σ H Q q => by
    obtain h := w_meth T fn_len σ H Q q
    refine Ee.imp h fun v H1 g => ?_
    obtain ⟨a, dx, fs, e1, e2, e3, O, ad, S, ρ, s, fr, k⟩ := g
    exact ⟨a, dx, fs, e1, e2, e3, k [] O ad H1 (.refl _ _ _) s .nil⟩
end
end Gd

/-! Gd, part 12: instances are made. -/
namespace Gd
open PySem L2 PyProof.Rows

def tMakeS (C : Addr) (n m : Nat) (sp : Sp) (gV : List V → List V → List V) (E : L2.St → XK) (t tk : TA) : TE := fun σ H Q => t σ H fun vs H1 => tk σ H1 fun zs H2 => vs.length = n ∧ zs.length = m ∧
  ∀ x dx, H2 x = none → H2 dx = none → dx ≠ x → sp (gV (.ref x :: vs) zs) (upd (upd H2 dx (.own x)) x (.ins C dx [])) (fun v H3 => v = .non ∧ Q (.ref x) H3) (E σ)
section
variable {X : Cx} {CX : CXT} {k n : Nat} {f C : Addr} {fd : FuncData} {ps ks : List Str} {sp : Sp} {E : L2.St → XK} {x : Str} {p pos : Pos} {e : Expr} {es : List Expr} {kws : List Keyword} {t tk : TA} {g : List Value → List Value → List Value} {gV : List V → List V → List V}
theorem run_makeE {pins : List (Addr × Obj)} {σ : L2.St} {H : Hp} {s : Shared} {Q : VK} {us ws : List Value} {vs zs : List V} (M : Mk X.g C f) (F : FnOk X.prog X.w X.g X.mg X.base CX k f fd ps sp) (hr : Room (k + 1) X.A) (hb : KBn X.g fd ps (n + 1) ks g gV)
    (hx : PassesAt CX X σ (E σ)) (I : L2.Inv X pins σ H s) (r : Vals vs us) (rz : Vals zs ws) (l1 : vs.length = n) (l2 : zs.length = ks.length)
    (h : ∀ x dx, H x = none → H dx = none → dx ≠ x → sp (gV (.ref x :: vs) zs) (upd (upd H dx (.own x)) x (.ins C dx [])) (fun v H2 => v = .non ∧ Q (.ref x) H2) (E σ)) :
    wpAny (model X.prog X.w) X.A (call (.ref C) us (ks.zip ws)) (EP X pins σ Q) X.xe s := by
  have hq := h (s.heap.objs.size + 1) s.heap.objs.size (I.hok.fresh (Nat.le_succ _)) (I.hok.fresh (Nat.le_refl _)) (Nat.ne_of_lt (Nat.lt_succ_self _))
  have I2 := Inv.made (C := C) I
  have r1 : Vals (V.ref (s.heap.objs.size + 1) :: vs) (Value.ref (s.heap.objs.size + 1) :: us) := .cons rfl r
  have r2 := hb.rel r1 rz
  have e1 : (Value.ref (s.heap.objs.size + 1) :: us).length = n + 1 := r1.length.symm.trans (congrArg Nat.succ l1)
  have e2 : ws.length = ks.length := rz.length.symm.trans l2
  refine wpAny_call (make_map (f := f) I.kIn M.makes M.init (beq_iff_eq.mp M.fn) (codeAny_mono (F.run _ X.stack _ _ ⟨Value.ref (s.heap.objs.size + 1) :: us, ks.zip ws⟩ (g (Value.ref (s.heap.objs.size + 1) :: us) ws) _ _ (E σ) (hr.make C us (ks.zip ws))
    (I2.env0.make C us (ks.zip ws)) (hb.to _ (Value.ref (s.heap.objs.size + 1) :: us) ws I2.kIn e1 e2) r2 hq) fun r s' hq' => ?_))
  cases r with
  | error e => exact hx pins _ _ e s' I2 hq'
  | ok fl =>
    cases fl with
    | ret u =>
      obtain ⟨v, H', I3, rv, ev, q3⟩ := I2.after hq'
      subst ev
      exact ⟨rv, ⟨V.ref (s.heap.objs.size + 1), H', I3, rfl, q3⟩⟩
    | next => exact False.elim hq'
    | brk => exact False.elim hq'
    | cont => exact False.elim hq'
theorem pe_mkE (M : Mk X.g C f) (F : FnOk X.prog X.w X.g X.mg X.base CX k f fd ps sp) (hr : Room (k + 1) X.A) (hg : Gl X x) (hm : X.mg x = some (.ref C)) (hb : KBn X.g fd ps (n + 1) ks g gV) (hx : ∀ σ, PassesAt CX X σ (E σ))
    (ha : PA X (e :: es) t) (hkw : PK X kws tk) (hall : (backToKw pos (keywordEach kws X.env)).all (·.1.isSome) = true := by rfl) (hks : (backToKw pos (keywordEach kws X.env)).filterMap (·.1) = ks := by rfl)
    (hdb : (x == ("__debug__" : Str)) = false := by decide) (he : starEach (e :: es) X.env = (false, eval e X.env) :: starEach es X.env := by rfl)
    (hpl : ((backTo pos (starEach (e :: es) X.env)).any (·.1) || (backToKw pos (keywordEach kws X.env)).any (·.1.isNone)) = false := by rfl) :
    PE X (.Call (.Name x p) (e :: es) kws pos) (tMakeS C n ks.length sp gV E t tk) := by
  refine ⟨fun pins s σ H Q I h => ?_⟩
  refine wpAny_Call_Name_kw (ld_glob I hg hm ?_ hdb)
  refine PySem.W.callWith_KW (h₀ := X.base) I.ok.mod.kin M.kp hall (thn (ha.run pos pins s σ H _ I h) fun us s1 ⟨vs, H1, I1, r, q⟩ => ?_) hpl he
  refine thn (hkw.run pos pins s1 σ H1 _ I1 q) fun ws s2 ⟨zs, H2, I2, rz, l1, l2, q2⟩ => ⟨I2.kIn, ?_⟩
  rw [hks]
  exact run_makeE M F hr hb (hx σ) I2 r rz l1 l2 q2
theorem pe_mkE0 (M : Mk X.g C f) (F : FnOk X.prog X.w X.g X.mg X.base CX k f fd ps sp) (hr : Room (k + 1) X.A) (hg : Gl X x) (hm : X.mg x = some (.ref C)) (hb : KBn X.g fd ps 1 ks g gV) (hx : ∀ σ, PassesAt CX X σ (E σ)) (hkw : PK X kws tk)
    (hall : (backToKw pos (keywordEach kws X.env)).all (·.1.isSome) = true := by rfl) (hks : (backToKw pos (keywordEach kws X.env)).filterMap (·.1) = ks := by rfl) (hdb : (x == ("__debug__" : Str)) = false := by decide)
    (hpl : ((backTo pos (starEach [] X.env)).any (·.1) || (backToKw pos (keywordEach kws X.env)).any (·.1.isNone)) = false := by rfl) :
    PE X (.Call (.Name x p) [] kws pos) (tMakeS C 0 ks.length sp gV E tNil tk) := by
  refine ⟨fun pins s σ H Q I h => ?_⟩
  refine wpAny_Call_Name_kw (ld_glob I hg hm ?_ hdb)
  refine PySem.W.callWith_KW0 (h₀ := X.base) I.ok.mod.kin M.kp hall ?_ hpl
  refine thn (hkw.run pos pins s σ H _ I h) fun ws s2 ⟨zs, H2, I2, rz, l1, l2, q2⟩ => ⟨I2.kIn, ?_⟩
  rw [hks]
  exact run_makeE (us := []) (vs := []) M F hr hb (hx σ) I2 .nil rz rfl l2 q2
end
/-- C(..): the instance is a thing of the store -/
def e_mkO (c : Str) (m : List D → Sg → Out D) (g : List D → List D → List D) (r rk : MA) : ME := fun ρ S => (r ρ S).bind fun ds S1 => (rk ρ S1).bind fun es S2 => if noLoc ds = true ∧ noLoc es = true then
  (m (g (.obj S2.length :: ds) es) (S2 ++ [.ins c []])).bind fun z S3 => match z with
    | .non => .ok (.obj S2.length) S3
    | _ => .no else .no
section
variable {K : Fg} {mg : Mg} {W : WX}
theorem made_own {O : Addr → Prop} {ad : List Addr} {S : Sg} {H : Hp} {c : Str} {C x dx : Addr} (s : Sto K mg O ad S H) (hC : mg c = some (.ref C)) (hx : H x = none) (hd : H dx = none) (hn : dx ≠ x) :
    Sto K mg (fun a => O a ∨ a = x) (ad ++ [x]) (S ++ [.ins c []]) (upd (upd H dx (.own x)) x (.ins C dx [])) ∧ (∀ b o, H b = some o → upd (upd H dx (.own x)) x (.ins C dx []) b = some o) ∧
    (∀ b o, hide O H b = some o → hide (fun a => O a ∨ a = x) (upd (upd H dx (.own x)) x (.ins C dx [])) b = some o) ∧ x ∉ ad ∧
    ∀ O' ad' H', Stp (fun a => O a ∨ a = x) (ad ++ [x]) (upd (upd H dx (.own x)) x (.ins C dx [])) O' ad' H' → Stp O ad H O' ad' H' := by
  have nx : x ∉ ad := fun m => by
    obtain ⟨o', e⟩ := s.dom x (s.hid x m)
    rw [hx] at e; cases e
  have kp : ∀ b o, H b = some o → upd (upd H dx (.own x)) x (.ins C dx []) b = some o := fun b o e => by
    rw [upd_ne (ne_of_none e hx), upd_ne (ne_of_none e hd)]; exact e
  have hk : ∀ b o, hide O H b = some o → hide (fun a => O a ∨ a = x) (upd (upd H dx (.own x)) x (.ins C dx [])) b = some o := fun b o e => by
    obtain ⟨n, e⟩ := of_hide e
    exact hide_of (fun q => q.elim n (ne_of_none e hx)) (kp b o e)
  refine ⟨⟨by rw [List.length_append, List.length_append, s.len] <;> rfl, ?_, ?_, ?_, ?_⟩, kp, hk, nx, ?_⟩
  · refine List.nodup_append.mpr ⟨s.nd, by simp, fun a ha b hb q => ?_⟩
    rw [List.mem_singleton.mp hb] at q
    exact nx (q ▸ ha)
  · intro a ha
    rcases List.mem_append.mp ha with q | q
    · exact .inl (s.hid a q)
    · exact .inr (List.mem_singleton.mp q)
  · intro a ha
    rcases ha with ha | ha
    · obtain ⟨o, e⟩ := s.dom a ha
      exact ⟨o, kp a o e⟩
    · rw [ha]; exact ⟨_, upd_same⟩
  · intro n d' hn'
    by_cases hl : n < S.length
    · rw [List.getElem?_append_left hl] at hn'
      obtain ⟨a, q1, q2⟩ := s.ob n d' hn'
      exact ⟨a, pre_get n a q1, q2.mono hk pre_get fun o e => kp a o e⟩
    · have hb : n < (S ++ [D.ins c []]).length := (List.getElem?_eq_some_iff.mp hn').1
      rw [List.length_append] at hb
      have hb' : n < S.length + 1 := hb
      have en : n = S.length := by omega
      subst en
      rw [List.getElem?_append_right (Nat.le_refl _), Nat.sub_self] at hn'
      cases hn'
      refine ⟨x, ?_, C, dx, [], hC, upd_same, .nil⟩
      rw [← s.len, List.getElem?_append_right (Nat.le_refl _), Nat.sub_self]
      rfl
  · intro O' ad' H' t
    refine ⟨fun b o e m => t.fr b o (kp b o e) fun q => ?_, fun a h => t.op a (.inl h), fun a h => ?_, ?_⟩
    · rcases List.mem_append.mp q with q | q
      · exact m q
      · rw [List.mem_singleton.mp q, hx] at e; cases e
    · rcases t.oq a h with (q | q) | q
      · exact .inl q
      · exact .inr (q ▸ hx)
      · cases e : H a with
        | none => exact .inr rfl
        | some o => rw [kp a o e] at q; cases q
    · obtain ⟨more, e, f⟩ := t.ap
      refine ⟨[x] ++ more, by rw [e, List.append_assoc], fun a ha => ?_⟩
      rcases List.mem_append.mp ha with q | q
      · rw [List.mem_singleton.mp q]; exact hx
      · cases e2 : H a with
        | none => rfl
        | some o => have := f a q; rw [kp a o e2] at this; cases this
theorem w_mkO {c : Str} {C : Addr} (hC : mg c = some (.ref C)) {n n1 n2 : Nat} {m : List D → Sg → Out D} {g : List D → List D → List D} {gV : List V → List V → List V} {r rk : MA} (len : ∀ ds S, ds.length ≠ n → m ds S = .no) (l1 : aLen n1 r) (l2 : aLen n2 rk)
    (hg : ∀ G ad vs ds zs es, Reps K mg G ad vs ds → Reps K mg G ad zs es → Reps K mg G ad (gV vs zs) (g ds es)) : ∀ σ H Q, Ee K mg W (e_mkO c m g r rk) σ H Q → tMakeS C n1 n2 (SpM K mg n m) gV (WE W) (Ea K mg W r) (Ea K mg W rk) σ H Q := by
  rintro σ H Q ⟨O, ad, S, ρ, s, fr, k⟩
  refine ⟨O, ad, S, ρ, s, fr, ?_⟩
  unfold e_mkO at k
  have a1 := l1 ρ S
  cases e : r ρ S with
  | no => rw [e] at k; exact k
  | er x fs S1 => rw [e] at k; exact k
  | ok ds S1 =>
    rw [e] at k a1
    intro vs O1 ad1 H1 t1 s1 r1
    have k1 := PostE.rebase k t1 s.hid s1.dom
    clear k
    have fr1 := fr.step s.hid t1
    refine ⟨O1, ad1, S1, ρ, s1, fr1, ?_⟩
    have a2 := l2 ρ S1
    dsimp only [Out.bind] at k1
    cases e2 : rk ρ S1 with
    | no => rw [e2] at k1; exact k1
    | er x fs S2 => rw [e2] at k1; exact k1
    | ok es S2 =>
      rw [e2] at k1 a2
      intro zs O2 ad2 H2 t2 s2 r2
      have k2 := PostE.rebase k1 t2 s1.hid s2.dom
      clear k1
      dsimp only at k2
      obtain ⟨⟨c1, c2⟩, k3⟩ := post_if (P := PostE K mg W ρ σ Q O2 ad2 H2) (fun z => z) k2
      clear k2
      have q1 := reps_of (PairedR.step s1.hid t2 r1) c1
      have q2 := reps_of r2 c2
      refine ⟨by rw [q1.length]; exact a1, by rw [q2.length]; exact a2, fun x dx hx hd hn => ?_⟩
      obtain ⟨s3, kp, hk, nx, back⟩ := made_own s2 hC hx hd hn
      have self : Rep K mg (hide (fun a => O2 a ∨ a = x) (upd (upd H2 dx (.own x)) x (.ins C dx []))) (ad2 ++ [x]) (.ref x) (.obj S2.length) := .obj (by
        rw [← s2.len, List.getElem?_append_right (Nat.le_refl _), Nat.sub_self]
        rfl)
      refine ⟨_, _, _, g (.obj S2.length :: ds) es, s3, hg _ _ _ _ _ _ (.cons self (q1.mono hk pre_get)) (q2.mono hk pre_get), ?_, ?_⟩
      · by_cases el : (g (D.obj S2.length :: ds) es).length = n
        · exact el
        · rw [len _ _ el] at k3; exact k3.elim
      · cases em : m (g (.obj S2.length :: ds) es) (S2 ++ [.ins c []]) with
        | no => rw [em] at k3; exact k3.elim
        | er y fs S' => rw [em] at k3; exact fun cls dd O' ad' H' t z r => k3 cls dd O' ad' H' (back O' ad' H' t) z r
        | ok d S' =>
          rw [em] at k3
          dsimp only [Out.bind] at k3
          cases d with
          | non =>
            intro v O' ad' H' t z r
            cases r
            refine ⟨rfl, k3 (.ref x) O' ad' H' (back O' ad' H' t) z (repR_of (.obj ?_))⟩
            refine t.get _ _ ?_
            rw [← s2.len, List.getElem?_append_right (Nat.le_refl _), Nat.sub_self]
            rfl
          | _ => exact k3.elim
end
section
variable {X : Cx} {W : WX} {k n1 : Nat} {f C : Addr} {fd : FuncData} {ps ks : List Str} {x c : Str} {p pos : Pos} {e : Expr} {es : List Expr} {kws : List Keyword} {r rk : MA} {g : List Value → List Value → List Value} {gV : List V → List V → List V} {gD : List D → List D → List D}
theorem E_mkO {n b : Nat} {mb : MS} (M : Mk X.g C f) (F : FnOk X.prog X.w X.g X.mg X.base (L2.CX X.prog X.w) k f fd ps (SpM X.g X.mg b (Gd.fn n mb b))) (hr : Room (k + 1) X.A) (hg : Gl X x) (hm : X.mg x = some (.ref C)) (hb : KBn X.g fd ps (n1 + 1) ks g gV) (tk : Takes X W)
    (hgD : ∀ G ad vs ds zs es, Reps X.g X.mg G ad vs ds → Reps X.g X.mg G ad zs es → Reps X.g X.mg G ad (gV vs zs) (gD ds es)) (ha : PA X (e :: es) (Ea X.g X.mg W r)) (hkw : PK X kws (Ea X.g X.mg W rk)) (l1 : aLen n1 r) (l2 : aLen ks.length rk)
    (hall : (backToKw pos (keywordEach kws X.env)).all (·.1.isSome) = true := by rfl) (hks : (backToKw pos (keywordEach kws X.env)).filterMap (·.1) = ks := by rfl)
    (hdb : (x == ("__debug__" : Str)) = false := by decide) (he : starEach (e :: es) X.env = (false, eval e X.env) :: starEach es X.env := by rfl)
    (hpl : ((backTo pos (starEach (e :: es) X.env)).any (·.1) || (backToKw pos (keywordEach kws X.env)).any (·.1.isNone)) = false := by rfl) :
    PE X (.Call (.Name x p) (e :: es) kws pos) (Ee X.g X.mg W (e_mkO x (Gd.fn n mb b) gD r rk)) :=
  pe_of (pe_mkE M F hr hg hm hb (fun σ => passAt tk σ) ha hkw hall hks hdb he hpl) (w_mkO hm fn_len l1 l2 hgD)
theorem E_mkO0 {n b : Nat} {mb : MS} (M : Mk X.g C f) (F : FnOk X.prog X.w X.g X.mg X.base (L2.CX X.prog X.w) k f fd ps (SpM X.g X.mg b (Gd.fn n mb b))) (hr : Room (k + 1) X.A) (hg : Gl X x) (hm : X.mg x = some (.ref C)) (hb : KBn X.g fd ps 1 ks g gV) (tk : Takes X W)
    (hgD : ∀ G ad vs ds zs es, Reps X.g X.mg G ad vs ds → Reps X.g X.mg G ad zs es → Reps X.g X.mg G ad (gV vs zs) (gD ds es)) (hkw : PK X kws (Ea X.g X.mg W rk)) (l2 : aLen ks.length rk)
    (hall : (backToKw pos (keywordEach kws X.env)).all (·.1.isSome) = true := by rfl) (hks : (backToKw pos (keywordEach kws X.env)).filterMap (·.1) = ks := by rfl)
    (hdb : (x == ("__debug__" : Str)) = false := by decide)
    (hpl : ((backTo pos (starEach [] X.env)).any (·.1) || (backToKw pos (keywordEach kws X.env)).any (·.1.isNone)) = false := by rfl) :
    PE X (.Call (.Name x p) [] kws pos) (Ee X.g X.mg W (e_mkO x (Gd.fn n mb b) gD a_nil rk)) :=
  pe_of (pe_mkE0 M F hr hg hm hb (fun σ => passAt tk σ) hkw hall hks hdb hpl) fun σ H Q q => by
    obtain ⟨O, ad, S, ρ, s, fr, k⟩ := w_mkO (n1 := 0) hm fn_len aLen_nil l2 hgD σ H Q q
    exact k [] O ad H (.refl _ _ _) s .nil
end
/-! ### a thing of the store that nothing else knows is taken out of it -/
mutual
def okD (n : Nat) : D → Bool
  | .obj k => decide (k < n)
  | .lst l => okL n l
  | .tup l => okL n l
  | .dct l => okK n l
  | .dcf l => okK n l
  | .dcl l => okN n l
  | .ins _ l => okF n l
  | .loc _ => false
  | .non => true
  | .bl _ => true
  | .int _ => true
  | .str _ => true
  | .ty _ => true
  | .cls _ => true
def okL (n : Nat) : List D → Bool
  | [] => true
  | d :: ds => okD n d && okL n ds
def okK (n : Nat) : List (Key × D) → Bool
  | [] => true
  | (_, d) :: ds => okD n d && okK n ds
def okN (n : Nat) : List (Leaf × D) → Bool
  | [] => true
  | (_, d) :: ds => okD n d && okN n ds
def okF (n : Nat) : List (Str × D) → Bool
  | [] => true
  | (_, d) :: ds => okD n d && okF n ds
end
section
variable {K : Fg} {mg : Mg} {G : Hp} {ad ad' : List Addr}
/-- what does not name young things is read without them -/
theorem rep_less {n : Nat} (p : ∀ (i : Nat) a, i < n → ad'[i]? = some a → ad[i]? = some a) :
    ∀ v d, Rep K mg G ad' v d → okD n d = true → Rep K mg G ad v d := fun v d h =>
  Rep.rec (K := K) (mg := mg) (G := G) (ad := ad') (motive_1 := fun v d _ => okD n d = true → Rep K mg G ad v d) (motive_2 := fun v d _ => okL n d = true → Reps K mg G ad v d) (motive_3 := fun v d _ => okK n d = true → RepK K mg G ad v d) (motive_4 := fun v d _ => okN n d = true → RepL K mg G ad v d) (motive_5 := fun v d _ => okF n d = true → RepF K mg G ad v d)
    (fun _ => .non) (fun b _ => .bl b) (fun b _ => .int b) (fun b _ => .str b) (fun h _ r o => .lst h (r (by simpa [okD] using o))) (fun h _ r o => .tup h (r (by simpa [okD] using o))) (fun h _ r o => .dct h (r (by simpa [okD] using o))) (fun h1 h2 _ r o => .ins h1 h2 (r (by simpa [okD] using o))) (fun b _ => .ty b) (fun h _ => .cls h)
    (fun h o => .obj (p _ _ (by simpa [okD] using o) h)) (fun h _ r o => .dcf h (r (by simpa [okD] using o))) (fun h _ r o => .dcl h (r (by simpa [okD] using o)))
    (fun _ => .nil) (fun _ _ a b o => by simp [okL] at o; exact .cons (a o.1) (b o.2)) (fun _ => .nil) (fun _ _ a b o => by simp [okK] at o; exact .cons (a o.1) (b o.2)) (fun _ => .nil) (fun _ _ a b o => by simp [okN] at o; exact .cons (a o.1) (b o.2)) (fun _ => .nil) (fun _ _ a b o => by simp [okF] at o; exact .cons (a o.1) (b o.2)) h
theorem rep_ok : ∀ v d, Rep K mg G ad v d → okD ad.length d = true := fun v d h =>
  Rep.rec (K := K) (mg := mg) (G := G) (ad := ad) (motive_1 := fun v d _ => okD ad.length d = true) (motive_2 := fun v d _ => okL ad.length d = true) (motive_3 := fun v d _ => okK ad.length d = true) (motive_4 := fun v d _ => okN ad.length d = true) (motive_5 := fun v d _ => okF ad.length d = true)
    (by simp [okD]) (fun b => by simp [okD]) (fun b => by simp [okD]) (fun b => by simp [okD]) (fun h _ r => by simpa [okD] using r) (fun h _ r => by simpa [okD] using r) (fun h _ r => by simpa [okD] using r) (fun h1 h2 _ r => by simpa [okD] using r) (fun b => by simp [okD]) (fun h => by simp [okD])
    (fun h => by simp [okD]; exact (List.getElem?_eq_some_iff.mp h).1) (fun h _ r => by simpa [okD] using r) (fun h _ r => by simpa [okD] using r)
    (by simp [okL]) (fun _ _ a b => by simp [okL, a, b]) (by simp [okK]) (fun _ _ a b => by simp [okK, a, b]) (by simp [okN]) (fun _ _ a b => by simp [okN, a, b]) (by simp [okF]) (fun _ _ a b => by simp [okF, a, b]) h
theorem repsLess {n : Nat} (p : ∀ (i : Nat) a, i < n → ad'[i]? = some a → ad[i]? = some a) {vs : List V} {ds : List D} (h : Reps K mg G ad' vs ds) (o : okL n ds = true) : Reps K mg G ad vs ds := by
  induction vs generalizing ds with
  | nil => cases h; exact .nil
  | cons x xs ih => cases h with | cons a b => simp [okL] at o; exact .cons (rep_less p _ _ a o.1) (ih b o.2)
theorem repKLess {n : Nat} (p : ∀ (i : Nat) a, i < n → ad'[i]? = some a → ad[i]? = some a) {vs : List (Key × V)} {ds : List (Key × D)} (h : RepK K mg G ad' vs ds) (o : okK n ds = true) : RepK K mg G ad vs ds := by
  induction vs generalizing ds with
  | nil => cases h; exact .nil
  | cons x xs ih => cases h with | cons a b => simp [okK] at o; exact .cons (rep_less p _ _ a o.1) (ih b o.2)
theorem repLLess {n : Nat} (p : ∀ (i : Nat) a, i < n → ad'[i]? = some a → ad[i]? = some a) {vs : List (Leaf × V)} {ds : List (Leaf × D)} (h : RepL K mg G ad' vs ds) (o : okN n ds = true) : RepL K mg G ad vs ds := by
  induction vs generalizing ds with
  | nil => cases h; exact .nil
  | cons x xs ih => cases h with | cons a b => simp [okN] at o; exact .cons (rep_less p _ _ a o.1) (ih b o.2)
theorem repLOk {vs : List (Leaf × V)} {ds : List (Leaf × D)} (h : RepL K mg G ad vs ds) : okN ad.length ds = true := by
  induction vs generalizing ds with
  | nil => cases h; simp [okN]
  | cons x xs ih => cases h with | cons a b => simp [okN, rep_ok _ _ a, ih b]
theorem repFLess {n : Nat} (p : ∀ (i : Nat) a, i < n → ad'[i]? = some a → ad[i]? = some a) {vs : List (Str × V)} {ds : List (Str × D)} (h : RepF K mg G ad' vs ds) (o : okF n ds = true) : RepF K mg G ad vs ds := by
  induction vs generalizing ds with
  | nil => cases h; exact .nil
  | cons x xs ih => cases h with | cons a b => simp [okF] at o; exact .cons (rep_less p _ _ a o.1) (ih b o.2)
theorem repsOk {vs : List V} {ds : List D} (h : Reps K mg G ad vs ds) : okL ad.length ds = true := by
  induction vs generalizing ds with
  | nil => cases h; simp [okL]
  | cons x xs ih => cases h with | cons a b => simp [okL, rep_ok _ _ a, ih b]
theorem repKOk {vs : List (Key × V)} {ds : List (Key × D)} (h : RepK K mg G ad vs ds) : okK ad.length ds = true := by
  induction vs generalizing ds with
  | nil => cases h; simp [okK]
  | cons x xs ih => cases h with | cons a b => simp [okK, rep_ok _ _ a, ih b]
theorem repFOk {vs : List (Str × V)} {ds : List (Str × D)} (h : RepF K mg G ad vs ds) : okF ad.length ds = true := by
  induction vs generalizing ds with
  | nil => cases h; simp [okF]
  | cons x xs ih => cases h with | cons a b => simp [okF, rep_ok _ _ a, ih b]
theorem MRep.less {H : Hp} {a : Addr} {d : D} {n : Nat} (p : ∀ (i : Nat) a, i < n → ad'[i]? = some a → ad[i]? = some a) (h : MRep K mg G ad' H a d) (o : okD n d = true) : MRep K mg G ad H a d := by
  cases d with
  | lst ds => obtain ⟨vs, h1, h2⟩ := h; exact ⟨vs, h1, repsLess p h2 (by simpa [okD] using o)⟩
  | dct ds => obtain ⟨vs, h1, h2⟩ := h; exact ⟨vs, h1, repKLess p h2 (by simpa [okD] using o)⟩
  | ins c gs => obtain ⟨C, dx, fs, h0, h1, h2⟩ := h; exact ⟨C, dx, fs, h0, h1, repFLess p h2 (by simpa [okD] using o)⟩
  | dcf ds => obtain ⟨ob, vs, h1, h2⟩ := h; exact ⟨ob, vs, h1, repKLess p h2 (by simpa [okD] using o)⟩
  | dcl ds => obtain ⟨vs, h1, h2⟩ := h; exact ⟨vs, h1, repLLess p h2 (by simpa [okD] using o)⟩
  | _ => exact h.elim
theorem MRep.ok {H : Hp} {a : Addr} {d : D} (h : MRep K mg G ad H a d) : okD ad.length d = true := by
  cases d with
  | lst ds => obtain ⟨vs, h1, h2⟩ := h; simpa [okD] using repsOk h2
  | dct ds => obtain ⟨vs, h1, h2⟩ := h; simpa [okD] using repKOk h2
  | ins c gs => obtain ⟨C, dx, fs, h0, h1, h2⟩ := h; simpa [okD] using repFOk h2
  | dcf ds => obtain ⟨ob, vs, h1, h2⟩ := h; simpa [okD] using repKOk h2
  | dcl ds => obtain ⟨vs, h1, h2⟩ := h; simpa [okD] using repLOk h2
  | _ => exact h.elim
end
open Classical in
/-- the store is as ahead, but for the last thing, which nothing knows -/
noncomputable def popD (S2 S3 : Sg) (d : D) : Out D := if S3 = S2 ++ [d] ∧ okD S2.length d = true then .ok d S2 else .no
/-- C(..): the instance, new -/
noncomputable def e_mkF (c : Str) (m : List D → Sg → Out D) (g : List D → List D → List D) (r rk : MA) : ME := fun ρ S => (r ρ S).bind fun ds S1 => (rk ρ S1).bind fun es S2 => if noLoc ds = true ∧ noLoc es = true then
  (m (g (.obj S2.length :: ds) es) (S2 ++ [.ins c []])).bind fun z S3 => match z, S3[S2.length]? with
    | .non, some d => popD S2 S3 d
    | _, _ => .no else .no
section
variable {K : Fg} {mg : Mg} {W : WX}
theorem w_mkF {c : Str} {C : Addr} (hC : mg c = some (.ref C)) {n n1 n2 : Nat} {m : List D → Sg → Out D} {g : List D → List D → List D} {gV : List V → List V → List V} {r rk : MA} (len : ∀ ds S, ds.length ≠ n → m ds S = .no) (l1 : aLen n1 r) (l2 : aLen n2 rk)
    (hg : ∀ G ad vs ds zs es, Reps K mg G ad vs ds → Reps K mg G ad zs es → Reps K mg G ad (gV vs zs) (g ds es)) : ∀ σ H Q, Ef K mg W (e_mkF c m g r rk) σ H Q → tMakeS C n1 n2 (SpM K mg n m) gV (WE W) (Ea K mg W r) (Ea K mg W rk) σ H Q := by
  rintro σ H Q ⟨O, ad, S, ρ, s, fr, k⟩
  refine ⟨O, ad, S, ρ, s, fr, ?_⟩
  unfold e_mkF at k
  have a1 := l1 ρ S
  cases e : r ρ S with
  | no => rw [e] at k; exact k
  | er x fs S1 => rw [e] at k; exact k
  | ok ds S1 =>
    rw [e] at k a1
    intro vs O1 ad1 H1 t1 s1 r1
    have k1 := PostF.rebase k t1 s.hid s1.dom
    clear k
    have fr1 := fr.step s.hid t1
    refine ⟨O1, ad1, S1, ρ, s1, fr1, ?_⟩
    have a2 := l2 ρ S1
    dsimp only [Out.bind] at k1
    cases e2 : rk ρ S1 with
    | no => rw [e2] at k1; exact k1
    | er x fs S2 => rw [e2] at k1; exact k1
    | ok es S2 =>
      rw [e2] at k1 a2
      intro zs O2 ad2 H2 t2 s2 r2
      have k2 := PostF.rebase k1 t2 s1.hid s2.dom
      clear k1
      dsimp only at k2
      obtain ⟨⟨c1, c2⟩, k3⟩ := post_if (P := PostF K mg W ρ σ Q O2 ad2 H2) (fun z => z) k2
      clear k2
      have q1 := reps_of (PairedR.step s1.hid t2 r1) c1
      have q2 := reps_of r2 c2
      refine ⟨by rw [q1.length]; exact a1, by rw [q2.length]; exact a2, fun x dx hx hd hn => ?_⟩
      obtain ⟨s3, kp, hk, nx, back⟩ := made_own s2 hC hx hd hn
      have hix : (ad2 ++ [x])[S2.length]? = some x := by
        rw [← s2.len, List.getElem?_append_right (Nat.le_refl _), Nat.sub_self]
        rfl
      refine ⟨_, _, _, g (.obj S2.length :: ds) es, s3, hg _ _ _ _ _ _ (.cons (.obj hix) (q1.mono hk pre_get)) (q2.mono hk pre_get), ?_, ?_⟩
      · by_cases el : (g (D.obj S2.length :: ds) es).length = n
        · exact el
        · rw [len _ _ el] at k3; exact k3.elim
      · cases em : m (g (.obj S2.length :: ds) es) (S2 ++ [.ins c []]) with
        | no => rw [em] at k3; exact k3.elim
        | er y fs S' => rw [em] at k3; exact fun cls dd O' ad' H' t z r => k3 cls dd O' ad' H' (back O' ad' H' t) z r
        | ok d S' =>
          rw [em] at k3
          dsimp only [Out.bind] at k3
          cases d with
          | non =>
            intro v O' ad' H' t z r
            cases r
            refine ⟨rfl, ?_⟩
            cases eg : S'[S2.length]? with
            | none => rw [eg] at k3; exact k3.elim
            | some dd =>
              rw [eg] at k3
              dsimp only at k3
              unfold popD at k3
              have k4 : (S' = S2 ++ [dd] ∧ okD S2.length dd = true) ∧ PostF K mg W ρ σ Q O2 ad2 H2 (.ok dd S2) := by
                split at k3
                · exact ⟨by assumption, k3⟩
                · exact k3.elim
              obtain ⟨⟨es3, ok3⟩, k4⟩ := k4
              clear k3
              -- the store without the last
              have hl' : ad'.length = ad2.length + 1 := by rw [z.len, es3, List.length_append, s2.len] <;> rfl
              obtain ⟨more, ea, fa⟩ := t.ap
              have em0 : more = [] := by
                have := congrArg List.length ea
                rw [hl', List.length_append, List.length_append] at this
                have h1 : ([x] : List Addr).length = 1 := rfl
                rw [h1] at this
                exact List.eq_nil_of_length_eq_zero (by omega)
              rw [em0, List.append_nil] at ea
              have t' := back O' ad' H' t
              have less : ∀ (i : Nat) a, i < ad2.length → ad'[i]? = some a → ad2[i]? = some a := fun i a hi h => by
                rw [ea, List.getElem?_append_left hi] at h; exact h
              have nd2 : x ∉ ad2 := nx
              have zz : Sto K mg O' ad2 S2 H' := ⟨s2.len, s2.nd, fun a h => t'.op a (s2.hid a h), z.dom, fun i d' hi => by
                have hil : i < S2.length := (List.getElem?_eq_some_iff.mp hi).1
                have hi' : S'[i]? = some d' := by rw [es3, List.getElem?_append_left hil]; exact hi
                obtain ⟨a, h1, h2⟩ := z.ob i d' hi'
                obtain ⟨a0, g1, g2⟩ := s2.ob i d' hi
                have := less i a (by rw [s2.len]; exact hil) h1
                exact ⟨a, this, h2.less less g2.ok⟩⟩
              have hm : MRep K mg (hide O' H') ad2 H' x dd := by
                obtain ⟨a, h1, h2⟩ := z.ob S2.length dd eg
                have : ad'[S2.length]? = some x := by rw [ea]; exact hix
                rw [this] at h1
                cases h1
                exact h2.less less (by rw [s2.len]; exact ok3)
              refine k4 x O' ad2 H' ⟨t'.fr, t'.op, t'.oq, [], by simp, fun _ h => nomatch h⟩ zz ?_ nd2 hx hm
              refine z.hid x ?_
              rw [ea]; simp
          | _ => exact k3.elim
end
section
variable {X : Cx} {W : WX} {k n1 : Nat} {f C : Addr} {fd : FuncData} {ps ks : List Str} {x c : Str} {p pos : Pos} {e : Expr} {es : List Expr} {kws : List Keyword} {r rk : MA} {g : List Value → List Value → List Value} {gV : List V → List V → List V} {gD : List D → List D → List D}
theorem F_mk {n b : Nat} {mb : MS} (M : Mk X.g C f) (F : FnOk X.prog X.w X.g X.mg X.base (L2.CX X.prog X.w) k f fd ps (SpM X.g X.mg b (Gd.fn n mb b))) (hr : Room (k + 1) X.A) (hg : Gl X x) (hm : X.mg x = some (.ref C)) (hb : KBn X.g fd ps (n1 + 1) ks g gV) (tk : Takes X W)
    (hgD : ∀ G ad vs ds zs es, Reps X.g X.mg G ad vs ds → Reps X.g X.mg G ad zs es → Reps X.g X.mg G ad (gV vs zs) (gD ds es)) (ha : PA X (e :: es) (Ea X.g X.mg W r)) (hkw : PK X kws (Ea X.g X.mg W rk)) (l1 : aLen n1 r) (l2 : aLen ks.length rk)
    (hall : (backToKw pos (keywordEach kws X.env)).all (·.1.isSome) = true := by rfl) (hks : (backToKw pos (keywordEach kws X.env)).filterMap (·.1) = ks := by rfl)
    (hdb : (x == ("__debug__" : Str)) = false := by decide) (he : starEach (e :: es) X.env = (false, eval e X.env) :: starEach es X.env := by rfl)
    (hpl : ((backTo pos (starEach (e :: es) X.env)).any (·.1) || (backToKw pos (keywordEach kws X.env)).any (·.1.isNone)) = false := by rfl) :
    PE X (.Call (.Name x p) (e :: es) kws pos) (Ef X.g X.mg W (e_mkF x (Gd.fn n mb b) gD r rk)) :=
  pe_of (pe_mkE M F hr hg hm hb (fun σ => passAt tk σ) ha hkw hall hks hdb he hpl) (w_mkF hm fn_len l1 l2 hgD)
theorem F_mk0 {n b : Nat} {mb : MS} (M : Mk X.g C f) (F : FnOk X.prog X.w X.g X.mg X.base (L2.CX X.prog X.w) k f fd ps (SpM X.g X.mg b (Gd.fn n mb b))) (hr : Room (k + 1) X.A) (hg : Gl X x) (hm : X.mg x = some (.ref C)) (hb : KBn X.g fd ps 1 ks g gV) (tk : Takes X W)
    (hgD : ∀ G ad vs ds zs es, Reps X.g X.mg G ad vs ds → Reps X.g X.mg G ad zs es → Reps X.g X.mg G ad (gV vs zs) (gD ds es)) (hkw : PK X kws (Ea X.g X.mg W rk)) (l2 : aLen ks.length rk)
    (hall : (backToKw pos (keywordEach kws X.env)).all (·.1.isSome) = true := by rfl) (hks : (backToKw pos (keywordEach kws X.env)).filterMap (·.1) = ks := by rfl)
    (hdb : (x == ("__debug__" : Str)) = false := by decide)
    (hpl : ((backTo pos (starEach [] X.env)).any (·.1) || (backToKw pos (keywordEach kws X.env)).any (·.1.isNone)) = false := by rfl) :
    PE X (.Call (.Name x p) [] kws pos) (Ef X.g X.mg W (e_mkF x (Gd.fn n mb b) gD a_nil rk)) :=
  pe_of (pe_mkE0 M F hr hg hm hb (fun σ => passAt tk σ) hkw hall hks hdb hpl) fun σ H Q q => by
    obtain ⟨O, ad, S, ρ, s, fr, k⟩ := w_mkF (n1 := 0) hm fn_len aLen_nil l2 hgD σ H Q q
    exact k [] O ad H (.refl _ _ _) s .nil
end
end Gd

/-! Gd, part 13: set(xs) of ints and texts, and how many it holds. -/
namespace Gd
open PySem L2 PyProof.Rows

def inK (acc : List Key) (k : Key) : Bool := acc.any fun x => decide (x = k)
/-- each key once, in the order of coming -/
def dd : List Key → List Key → List Key
  | acc, [] => acc
  | acc, k :: ks => dd (if inK acc k = true then acc else acc ++ [k]) ks
theorem dd_len (ks : List Key) : ∀ acc : List Key, (dd acc ks).length ≤ acc.length + ks.length := by
  induction ks with
  | nil => intro acc; exact Nat.le_refl _
  | cons k ks ih =>
    intro acc
    have h := ih (if inK acc k = true then acc else acc ++ [k])
    show (dd _ ks).length ≤ _
    rw [List.length_cons]
    split at h
    · rename_i q; rw [if_pos q]; omega
    · rename_i q
      rw [if_neg q]
      rw [List.length_append] at h
      have : ([k] : List Key).length = 1 := rfl
      omega
section
variable {prog : Program} {w : World} {A : Around} {R : Result → Shared → Prop} {I T : Addr} {fp wr : List Addr} {G : Array GenState → Array GenState → Prop} {n : Nat} {P : Nat → Value → Prop} {St : Nat → Shared → Prop}
theorem setOf_same {S S' : Key → Bool} {n n' : Nat} {h : Heap} {a : Addr} (z : h.SetOf (mixKind prog w) a S n) (e : ∀ k, S k = S' k) (en : n = n') : h.SetOf (mixKind prog w) a S' n' := by
  obtain rfl : S = S' := funext e
  exact en ▸ z
/-- the loop of set(xs): left are ks -/
theorem keys_loop (W : WalksS prog w A.in1 I fp wr G n P St) (out : T ∉ fp) : ∀ (ks : List Key) (acc : List Key) (i : Nat) (s : Shared), i + ks.length = n → acc.length + ks.length + 1 < scanBound →
    (∀ j v, P (i + j) v → j < ks.length → ∃ k, ks[j]? = some k ∧ (mixKind prog w).is k v = true ∧ v.scannable = true) → St i s → s.heap.SetOf (mixKind prog w) T (inK acc) acc.length →
    (∀ s', Moved (T :: wr) G s s' → s'.heap.SetOf (mixKind prog w) T (inK (dd acc ks)) (dd acc ks).length → R (.ok (.ret .none)) s') →
    codeAny (model prog w) A (.builtin "set.update.loop" ⟨[.ref T, .ref I], []⟩) R s := by
  have nw : T ∉ wr := fun q => out (W.sub _ q)
  have up : ∀ b ∈ wr, b ∈ T :: wr := fun _ q => List.mem_cons_of_mem _ q
  have still : ∀ {s s' : Shared} {S : Key → Bool} {m : Nat}, Moved wr G s s' → s.heap.SetOf (mixKind prog w) T S m → s'.heap.SetOf (mixKind prog w) T S m := by
    rintro s s' S m mv ⟨o, es, ep, tb, at_, more⟩
    exact ⟨o, es, ep, tb, mv.heap T _ nw at_, more⟩
  intro ks
  induction ks with
  | nil =>
    intro acc i s len _ _ st z fin
    obtain rfl : i = n := len
    refine codeAny_builtin PyProof.Rows.F.entry_set_update_loop ?_
    rw [Around.under_plainId PyProof.Rows.F.plain_set_update_loop _]
    show wpAny _ A.in1 (pyNext (.ref I) >>= _) _ _ s
    refine wpAny_bind (W.done s _ _ st fun s1 mv => ?_)
    exact wpAny_pure (fin s1 (mv.mono up) (still mv z))
  | cons k ks ih =>
    intro acc i s len room val st z fin
    rw [List.length_cons] at len room
    refine codeAny_builtin PyProof.Rows.F.entry_set_update_loop ?_
    rw [Around.under_plainId PyProof.Rows.F.plain_set_update_loop _]
    show wpAny _ A.in1 (pyNext (.ref I) >>= _) _ _ s
    refine wpAny_bind (W.item i s _ _ (by omega) st fun v s1 pv st1 mv => ?_)
    obtain ⟨k', ek, isk, scan⟩ := val 0 v pv (Nat.succ_pos _)
    cases ek
    show wpAny _ A.in1 (holding [v] (setAdd T v) >>= _) _ _ s1
    refine wpAny_bind (wpAny_holding ?_)
    unfold setAdd
    refine wpAny_holding (wpAny_bind ((mixKind prog w).pyHash (k := k) isk ?_))
    refine wpAny_setAddHashed_of (knd := mixKind prog w) (s := { s1 with toks := s1.toks + 1 }) isk scan (show s1.heap.SetOf (mixKind prog w) T (inK acc) acc.length from still mv z) (by omega) fun h2 but z2 => ?_
    have z3 : h2.SetOf (mixKind prog w) T (inK (if inK acc k = true then acc else acc ++ [k])) (if inK acc k = true then acc else acc ++ [k]).length := by
      by_cases hk : inK acc k = true
      · rw [if_pos hk]
        refine setOf_same z2 (fun x => ?_) (by rw [if_pos hk])
        show (inK acc x || decide (x = k)) = inK acc x
        by_cases e : x = k
        · rw [e, hk] <;> rfl
        · rw [decide_eq_false e, Bool.or_false]
      · rw [if_neg hk]
        refine setOf_same z2 (fun x => ?_) (by rw [if_neg hk, List.length_append] <;> rfl)
        show (inK acc x || decide (x = k)) = inK (acc ++ [k]) x
        unfold inK
        rw [List.any_append, List.any_cons, List.any_nil, Bool.or_false]
        congr 1
        exact decide_eq_decide.mpr ⟨Eq.symm, Eq.symm⟩
    refine wpAny_pure ⟨plainId_quiet PyProof.Rows.F.plain_set_update_loop _, ih _ (i + 1) _ (by omega) ?_ (fun j v pj lj => ?_) (W.frame _ s1 _ _ st1 (Nat.le_succ _) fun b hb o e => ?_) z3 fun s3 mv3 z4 => ?_⟩
    · split
      · omega
      · rw [List.length_append]; simp; omega
    · obtain ⟨k2, e2, more⟩ := val (j + 1) v (by rw [show i + (j + 1) = i + 1 + j by omega]; exact pj) (Nat.succ_lt_succ lj)
      exact ⟨k2, by simpa using e2, more⟩
    · rw [but.2 b fun q : b = T => out (q ▸ hb)]; exact e
    · refine fin s3 (Moved.trans W.gtrans ((mv.mono up).then_heap (Nat.le_succ _) fun b o nb e => ?_) mv3) z4
      rw [but.2 b fun q : b = T => nb (q ▸ List.mem_cons_self)]; exact e
end
section
variable {prog : Program} {w : World} {A : Around} {E : Value → Shared → Prop} {s : Shared}
/-- what set(xs) hands on -/
def SetMade (prog : Program) (w : World) (s : Shared) (ks : List Key) (Q : Value → Shared → Prop) : Prop :=
  ∀ (h : Heap) (tk : Nat), h.SetOf (mixKind prog w) s.heap.objs.size (inK (dd [] ks)) (dd [] ks).length → (∀ b o, b < s.heap.objs.size → s.heap.get? b = some o → h.get? b = some o) → Q (.ref s.heap.objs.size) { s with heap := h, toks := tk }
theorem KeysAre.at {ks : List Key} {us : List Value} (r : Vals (ks.map kV) us) (j : Nat) (v : Value) (h : us[j]? = some v) : ∃ k, ks[j]? = some k ∧ (mixKind prog w).is k v = true ∧ v.scannable = true := by
  induction ks generalizing us j with
  | nil => cases r; simp at h
  | cons k ks ih =>
    cases r with
    | cons a b =>
      cases j with
      | zero =>
        simp at h
        subst h
        refine ⟨k, rfl, ?_, ?_⟩
        · cases k with
          | inl i => obtain ⟨t, e⟩ := (show ∃ t, _ = Value.int i t from a); subst e; exact mixKind_int prog w i t
          | inr x => obtain ⟨t, e⟩ := (show ∃ t, _ = Value.str x t from a); subst e; exact mixKind_str prog w x t
        · exact key_scan a
      | succ j => exact ih b j (by simpa using h)
theorem vals_size {ks : List Key} {items : Array Value} (r : Vals (ks.map kV) items.toList) : items.size = ks.length := by
  have := r.length
  rw [List.length_map, Array.length_toList] at this
  exact this.symm
/-- a new set -/
abbrev newSet (led : Bool) : Obj := { cls := .type "set", dict := none, data := .set #[] 0 (.fresh 0 0 led) }
def Fills (prog : Program) (w : World) (s : Shared) (ks : List Key) (r : Value) (s2 : Shared) : Prop :=
  r = .none ∧ ∃ h tk, s2 = { s with heap := h, toks := tk } ∧ h.SetOf (mixKind prog w) s.heap.objs.size (inK (dd [] ks)) (dd [] ks).length ∧ ∀ b o, b < s.heap.objs.size → s.heap.get? b = some o → h.get? b = some o
/-- set(x), by what its __init__ does -/
theorem set_by {x : Value} {ks : List Key} {Q : Value → Shared → Prop} (q : SetMade prog w s ks Q)
    (body : ∀ led : Bool, wpAny (model prog w) A.in1.in1 (Builtin.«set.__init__» ⟨[.ref s.heap.objs.size, x], []⟩)
      (fun fin s' => match fin with | .done f => wants (Fills prog w s ks) E (.ok f) s' | .again c' => c'.quiet = true ∧ codeAny (model prog w) A.in1 c' (wants (Fills prog w s ks) E) s')
      (fun e s' => wants (Fills prog w s ks) E (.error e) s') { s with heap := s.heap.push (newSet led) }) :
    wpAny (model prog w) A (call (.type "set") [x]) Q E s := by
  obtain ⟨c, tl, m1⟩ := F.called_set.mro
  have m2 := F.called_set.made
  have m3 := F.called_set.sub
  have m4 := F.called_set.notType
  have m5 := F.called_set.canCreate
  have m6 := F.typeCall_set_1 x
  refine wpAny_call (codeAny_of_tree ?_)
  show wpAny _ _ (callAny (.type "set") _) _ _ _
  refine wpAny_pure ⟨Code.quiet_builtin _ (by decide +kernel), ?_⟩
  refine codeAny_builtin F.entry_type_call ?_
  rw [Around.under_plain (weight_type_call_type "set" [x] []) rfl]
  repeat any_goals first | wp_step | assumption
  refine codeAny_mono (code_set_new_1 x (E := E) (Q₁ := fun obj s1 => ∃ led : Bool, obj = .ref s.heap.objs.size ∧ s1 = { s with heap := s.heap.push (newSet led) }) fun led => ⟨led, rfl, rfl⟩) fun r s1 hr => ?_
  cases r with
  | error e => exact hr
  | ok fl =>
    cases fl with
    | ret obj =>
      obtain ⟨led, rfl, rfl⟩ := hr
      have at_ : (s.heap.push (newSet led)).get? s.heap.objs.size = some (newSet led) := Heap.get?_push_size _ rfl
      have ty : Shared.TypeIs { s with heap := s.heap.push (newSet led) } (.ref s.heap.objs.size) "set" := ⟨_, at_, rfl⟩
      have i1 := F.called_set.init.lookup
      have i2 := F.called_set.init.bind (.ref s.heap.objs.size)
      repeat any_goals first | wp_step | assumption
      refine codeAny_mono (codeAny_call_builtin (R := wants (Fills prog w s ks) E) F.called_set.init.plain F.entry_set_init (check_set_init_1 ty (body led))) fun r2 s2 hr2 => ?_
      cases r2 with
      | error e => exact hr2
      | ok f2 =>
        cases f2 with
        | ret r =>
          obtain ⟨rfl, h, tk, rfl, z, kp⟩ := hr2
          repeat any_goals first | wp_step | assumption
          exact q h tk z kp
        | _ => exact hr2.elim
    | _ => exact hr.elim
theorem set_of_list {l : Addr} {items : Array Value} {ks : List Key} {Q : Value → Shared → Prop} (hh : A.handled = none) (hl : s.heap.IsList l items) (r : Vals (ks.map kV) items.toList) (room : ks.length + 1 < scanBound) (q : SetMade prog w s ks Q) :
    wpAny (model prog w) A (call (.type "set") [.ref l]) Q E s := by
  refine set_by q fun led => ?_
  have at_ : (s.heap.push (newSet led)).get? s.heap.objs.size = some (newSet led) := Heap.get?_push_size _ rfl
  obtain ⟨o, ho, oc, no, od⟩ := hl
  obtain ⟨c1, d1, p1, s1⟩ := o
  simp only at oc od
  subst oc
  subst od
  have ho2 := Heap.get?_push_of_some (newSet led) ho
  have sub1 := F.sub_list_set
  have sub2 := F.sub_list_frozenset
  have nd : (Value.type "list" == Value.type "dict") = false := by decide
  have it : (s.heap.push (newSet led)).IsList l items := ⟨_, ho2, rfl, no, rfl⟩
  have hsz := vals_size r
  unfold Builtin.«set.__init__» noKeywords
  unfold Builtin.Frozenset.updateFrom
  generalize eI : pyIter = PI
  wp_walk
  subst eI
  refine wpAny_pyIter_list it ?_
  refine wpAny_bind (wpAny_runValue ?_)
  have small : l < s.heap.objs.size := Heap.lt_size ho
  have nI : l ≠ (s.heap.push (newSet led)).objs.size := by
    rw [Heap.size_push]; exact Nat.ne_of_lt (Nat.lt_succ_of_lt small)
  have out : s.heap.objs.size ∉ [(s.heap.push (newSet led)).objs.size, l] := by
    rw [Heap.size_push]
    intro hm
    rcases List.mem_cons.mp hm with e | hm
    · exact Nat.ne_of_lt (Nat.lt_succ_self _) e
    · exact Nat.ne_of_lt small (List.mem_singleton.mp hm).symm
  have h3 : A.in1.in1.in1.handled = none := by simp [hh]
  refine keys_loop ((Walks.list h3 _ l nI items).toS) out ks [] 0 _ (by rw [hsz]; omega) (by simpa using room) (fun j v pj lj => ?_) ⟨⟨_, Heap.get?_push_size _ rfl, rfl, rfl⟩, it.push _⟩ ?_ fun s' mv z => ?_
  · refine KeysAre.at r j v ?_
    have pj : items[0 + j]? = some v := pj
    rw [Nat.zero_add] at pj
    rw [Array.getElem?_toList]; exact pj
  · exact ⟨_, #[], 0, _, Heap.get?_push_of_some _ at_, ⟨rfl, rfl, rfl⟩, rfl, (fun e he => by simp at he), (fun k => by simp [inK, dd]), (by decide), (by cases led <;> rfl), rfl⟩
  · obtain ⟨h', g', d', t', o'⟩ := s'
    obtain rfl : g' = s.gens := mv.gens
    obtain rfl : d' = s.drawn := mv.drawn
    obtain rfl : o' = s.os := mv.os
    show wpAny _ _ _ _ _ _
    refine wpAny_pure ?_
    show wpAny _ _ (ret Value.none) _ _ _
    refine wpAny_pure ⟨rfl, h', t', rfl, z, fun b o hb e => mv.heap b o (fun hm => ?_) (Heap.get?_push_of_some _ (Heap.get?_push_of_some _ e))⟩
    rcases List.mem_cons.mp hm with e | hm
    · exact Nat.ne_of_lt hb e
    · have e2 := List.mem_singleton.mp hm
      rw [Heap.size_push] at e2
      exact Nat.ne_of_lt (Nat.lt_succ_of_lt hb) e2
theorem set_of_tuple {l : Addr} {items : Array Value} {ks : List Key} {Q : Value → Shared → Prop} (hh : A.handled = none) (hl : s.heap.IsTuple l items) (r : Vals (ks.map kV) items.toList) (room : ks.length + 1 < scanBound) (q : SetMade prog w s ks Q) :
    wpAny (model prog w) A (call (.type "set") [.ref l]) Q E s := by
  refine set_by q fun led => ?_
  have at_ : (s.heap.push (newSet led)).get? s.heap.objs.size = some (newSet led) := Heap.get?_push_size _ rfl
  obtain ⟨o, ho, oc, no, od⟩ := hl
  obtain ⟨c1, d1, p1, s1⟩ := o
  simp only at oc od
  subst oc
  subst od
  have ho2 := Heap.get?_push_of_some (newSet led) ho
  have sub1 := F.sub_tuple_set
  have sub2 := F.sub_tuple_frozenset
  have nd : (Value.type "tuple" == Value.type "dict") = false := by decide
  have it : (s.heap.push (newSet led)).IsTuple l items := ⟨_, ho2, rfl, no, rfl⟩
  have hsz := vals_size r
  unfold Builtin.«set.__init__» noKeywords
  unfold Builtin.Frozenset.updateFrom
  generalize eI : pyIter = PI
  wp_walk
  subst eI
  refine wpAny_pyIter_tuple it ?_
  refine wpAny_bind (wpAny_runValue ?_)
  have small : l < s.heap.objs.size := Heap.lt_size ho
  have nI : l ≠ (s.heap.push (newSet led)).objs.size := by
    rw [Heap.size_push]; exact Nat.ne_of_lt (Nat.lt_succ_of_lt small)
  have out : s.heap.objs.size ∉ [(s.heap.push (newSet led)).objs.size, l] := by
    rw [Heap.size_push]
    intro hm
    rcases List.mem_cons.mp hm with e | hm
    · exact Nat.ne_of_lt (Nat.lt_succ_self _) e
    · exact Nat.ne_of_lt small (List.mem_singleton.mp hm).symm
  have h3 : A.in1.in1.in1.handled = none := by simp [hh]
  refine keys_loop ((Walks.tuple h3 _ l nI items).toS) out ks [] 0 _ (by rw [hsz]; omega) (by simpa using room) (fun j v pj lj => ?_) ⟨⟨_, Heap.get?_push_size _ rfl, rfl, rfl⟩, it.push _⟩ ?_ fun s' mv z => ?_
  · refine KeysAre.at r j v ?_
    have pj : items[0 + j]? = some v := pj
    rw [Nat.zero_add] at pj
    rw [Array.getElem?_toList]; exact pj
  · exact ⟨_, #[], 0, _, Heap.get?_push_of_some _ at_, ⟨rfl, rfl, rfl⟩, rfl, (fun e he => by simp at he), (fun k => by simp [inK, dd]), (by decide), (by cases led <;> rfl), rfl⟩
  · obtain ⟨h', g', d', t', o'⟩ := s'
    obtain rfl : g' = s.gens := mv.gens
    obtain rfl : d' = s.drawn := mv.drawn
    obtain rfl : o' = s.os := mv.os
    show wpAny _ _ _ _ _ _
    refine wpAny_pure ?_
    show wpAny _ _ (ret Value.none) _ _ _
    refine wpAny_pure ⟨rfl, h', t', rfl, z, fun b o hb e => mv.heap b o (fun hm => ?_) (Heap.get?_push_of_some _ (Heap.get?_push_of_some _ e))⟩
    rcases List.mem_cons.mp hm with e | hm
    · exact Nat.ne_of_lt hb e
    · have e2 := List.mem_singleton.mp hm
      rw [Heap.size_push] at e2
      exact Nat.ne_of_lt (Nat.lt_succ_of_lt hb) e2
end
/-! ### len(set(xs)) -/
def tLenK (K : Fg) (ta : TE) : TE := fun σ H Q => ta σ H fun x H1 => ∃ (l : Addr) (ks : List Key), x = .ref l ∧ (SqL K H1 l (ks.map kV) ∨ SqT K H1 l (ks.map kV)) ∧ ks.length ≤ 4000 ∧ Q (.int ((dd [] ks).length : Nat)) H1
theorem pe_lenK {X : Cx} {a : Expr} {ta : TE} {p p2 q pos : Pos} (hg : Gl X "len") (hm : X.mg "len" = none) (hg2 : Gl X "set") (hm2 : X.mg "set" = none) (ha : PE X a ta) (hc : X.calm = true := by rfl)
    (na : starEach [a] X.env = (false, eval a X.env) :: starEach [] X.env := by rfl) : PE X (.Call (.Name "len" p) [.Call (.Name "set" p2) [a] [] q] [] pos) (tLenK X.g ta) := by
  refine ⟨fun pins s σ H Q I h => ?_⟩
  refine Call_ (ld_blt I hg hm boot_len ?_)
  refine callWith_builtin1 (args_cons ?_ rfl) rfl rfl
  refine Call_ (ld_blt I hg2 hm2 boot_set ?_)
  refine callWith_type1 (args_cons (thn (ha.run pins s σ H _ I h) fun v s1 ⟨x, H1, I1, r1, q1⟩ => args_nil ?_) na) na rfl
  obtain ⟨l, ks, rfl, hq, hl, q1⟩ := q1
  cases r1
  have fin : SetMade X.prog X.w s1 ks fun v s2 => wpAny (model X.prog X.w) X.A (call (.builtin "len") ([] ++ [v])) (EP X pins σ Q) X.xe s2 := by
    intro h' tk z kp
    obtain ⟨o, es, ep, t, ho, hex, hd, _, _, _, hf, hn⟩ := z
    have I2 : L2.Inv X pins σ H1 { s1 with heap := h', toks := tk } := I1.kept fun b o e => kp b o (Heap.lt_size e) e
    have hb := dd_len ks []
    have hb : (dd [] ks).length ≤ ks.length := by simpa using hb
    exact call_len_set ho hex hd hf (by rw [hn]; omega) ⟨.int ((dd [] ks).length : Nat), H1, I2.tok _, ⟨_, by rw [hn]⟩, q1⟩
  rcases hq with hq | hq
  · obtain ⟨its, r, pl, hz⟩ := I1.list hq
    exact set_of_list (items := its.toArray) (I1.ok.hd hc) pl.isList (by simpa using r) (by unfold scanBound; omega) fun h' tk z kp => args_nil (fin h' tk z kp)
  · obtain ⟨its, r, pl, hz⟩ := I1.tuple hq
    exact set_of_tuple (items := its.toArray) (I1.ok.hd hc) pl (by simpa using r) (by unfold scanBound; omega) fun h' tk z kp => args_nil (fin h' tk z kp)
end Gd

/-! Gd, part 14: new lists out of operations and calls; tuples put together. -/
namespace Gd
open PySem L2 PyProof.Rows

/-! ### list + list, of any kind -/
section
open PySem.SeqAt AutoSeq1 MeetsSeq MeetsSeq2 MeetsSeq3 SeqRoads2
theorem add_meets (l : Addr) (xs : Array Value) (n : Nat) (sl : Array (Option Value)) (b : Addr) (ys : Array Value) (k : Nat) (sb : Array (Option Value)) (hz : xs.size + ys.size ≤ sizeLine) :
    Meets (Builtin.«list.__add__» ⟨[.ref l, .ref b], []⟩) (fun _ R s => s.heap.get? l = some ⟨.type "list", none, .seq xs n, sl⟩ ∧ s.heap.get? b = some ⟨.type "list", none, .seq ys k, sb⟩ ∧
      R (.ok (.ret (.ref s.heap.objs.size))) { s with heap := s.heap.push { cls := .type "list", data := .seq (xs ++ ys) }, toks := s.toks }) :=
  .of_wp fun prog w A R s h => by
    obtain ⟨hp, g, d, tk, os⟩ := s
    obtain ⟨hl, hb, h⟩ := h
    have f1 := AutoSeq1.sub_list_list
    wp_walk using wpAny_loadPart' hl, wpAny_loadPart' hb
    exact ⟨_, rfl, h⟩
end
theorem op_catL {X : Cx} : OpR X (binaryOp .Add) (rCatL X.g) := by
  intro pins s σ H x y v u Q I rx ry h
  obtain ⟨a, b, xs, ys, rfl, rfl, ha, hb, hz, q⟩ := h
  cases rx
  cases ry
  obtain ⟨i1, r1, ⟨⟨c1, d1, p1, s1⟩, n1, e1, g1, g2, g3⟩, _⟩ := I.list ha
  obtain ⟨i2, r2, ⟨⟨c2, d2, p2, s2⟩, n2, e2, k1, k2, k3⟩, _⟩ := I.list hb
  simp only at g1 g2 g3 k1 k2 k3
  subst g1 g2 g3 k1 k2 k3
  have hz2 : i1.toArray.size + i2.toArray.size ≤ sizeLine := by rw [List.size_toArray, List.size_toArray, ← r1.length, ← r2.length]; exact hz
  refine concat_meets ⟨_, e1, rfl⟩ ⟨_, e2, rfl⟩ noFill_list_add seq_list_add F.slot_list_add F.entry_list_add (F.args_list_add_2 _ _) (add_meets a i1.toArray n1 s1 b i2.toArray n2 s2 hz2) ⟨e1, e2, ?_⟩
  have ea : i1.toArray ++ i2.toArray = (i1 ++ i2).toArray := by simp
  rw [ea]
  exact ⟨.ref _, _, I.lnew (t' := s.toks) (r1.append r2) (by rw [List.length_append]; exact hz), rfl, q _ I.fresh⟩

/-! ### what an operation makes new -/
/-- an object of this content -/
def NewO (K : Fg) (mg : Mg) (G : Hp) (ad : List Addr) (o : HO) : D → Prop
  | .lst ds => ∃ vs, o = .lst vs ∧ Reps K mg G ad vs ds
  | .dct ds => ∃ vs, o = .dK vs ∧ RepK K mg G ad vs ds
  | _ => False
def ResF (K : Fg) (mg : Mg) (O : Addr → Prop) (ad : List Addr) (H : Hp) (z : D) (r : VK → Prop) : Prop :=
  ∀ Q : VK, (∀ p o, H p = none → NewO K mg (hide O H) ad o z → Q (.ref p) (upd H p o)) → r Q
theorem NewO.at {K : Fg} {mg : Mg} {G G' H' : Hp} {ad : List Addr} {o : HO} {z : D} {p : Addr} (n : NewO K mg G ad o z) (e : ∀ b o, G b = some o → G' b = some o) (h : H' p = some o) : MRep K mg G' ad H' p z := by
  cases z with
  | lst ds => obtain ⟨vs, rfl, r⟩ := n; exact ⟨vs, h, r.mono e fun _ _ q => q⟩
  | dct ds => obtain ⟨vs, rfl, r⟩ := n; exact ⟨vs, h, r.mono e fun _ _ q => q⟩
  | _ => exact n.elim
section
variable {K : Fg} {mg : Mg} {W : WX}
theorem ResF.go {ρ : Ro} {σ : L2.St} {O : Addr → Prop} {ad : List Addr} {H : Hp} {S : Sg} {z : D} {r : VK → Prop} {Q : VK} (h : ResF K mg O ad H z r) (s : Sto K mg O ad S H) (k : PostF K mg W ρ σ Q O ad H (.ok z S)) : r Q := by
  refine h Q fun p o hp n => ?_
  have hk : ∀ b o', hide O H b = some o' → hide O H b = some o' := fun _ _ e => e
  have m0 : MRep K mg (hide O H) ad (upd H p o) p z := n.at hk upd_same
  obtain ⟨t, s', np, m⟩ := new_own s hp m0
  exact k p _ ad _ t s' (.inr rfl) np hp m
def CallPF (K : Fg) (mg : Mg) (r : List V → Hp → VK → Prop) (f : List D → Option D) : Prop :=
  ∀ O ad H vs ds z, Paired (RepS K mg O ad H) vs ds → f ds = some z → ResF K mg O ad H z (r vs H)
def OpPF (K : Fg) (mg : Mg) (r : R2) (f : D → D → Option D) : Prop :=
  ∀ O ad H x y d e z, RepS K mg O ad H x d → RepS K mg O ad H y e → f d e = some z → ResF K mg O ad H z (r x y H)
def UnPF (K : Fg) (mg : Mg) (r : V → Hp → VK → Prop) (f : D → Option D) : Prop :=
  ∀ O ad H x d z, RepS K mg O ad H x d → f d = some z → ResF K mg O ad H z (r x H)
theorem liftO_okF {ρ : Ro} {σ : L2.St} {O : Addr → Prop} {ad : List Addr} {H : Hp} {S : Sg} {o : Option D} {Q : VK} (h : PostF K mg W ρ σ Q O ad H (liftO S o)) : ∃ z, o = some z := by
  cases o with
  | some z => exact ⟨z, rfl⟩
  | none => exact h.elim
theorem w_cbF {r : List V → Hp → VK → Prop} {f : List D → Option D} {a : MA} (hf : CallPF K mg r f) : ∀ σ H Q, Ef K mg W (e_cb f a) σ H Q → tCB r (Ea K mg W a) σ H Q := by
  intro σ H Q q
  refine (bindAF (f := fun ρ ds S1 => liftO S1 ((derefL ρ S1 ds).bind f)) q).imp fun vs H1 g => ?_
  obtain ⟨O, ad, S, ρ, ds, s, fr, r1, k⟩ := g
  obtain ⟨z, ez⟩ := liftO_okF k
  obtain ⟨d', ed, ez⟩ := Option.bind_eq_some_iff.mp ez
  have kv := hf O ad H1 vs d' z (derefL_rep fr s r1 ed) ez
  rw [ed] at k
  simp only [Option.bind_some, ez, liftO] at k
  exact kv.go s k
theorem w_op2F {r : R2} {f : D → D → Option D} {a b : ME} (hf : OpPF K mg r f) : ∀ σ H Q, Ef K mg W (e_op2 f a b) σ H Q → tOp r (Ee K mg W a) (Ee K mg W b) σ H Q := by
  intro σ H Q q
  refine (bind2F (f := fun ρ d e S2 => liftO S2 ((deref ρ S2 d).bind fun d' => (deref ρ S2 e).bind fun e' => f d' e')) q).imp fun x H1 g => ?_
  refine g.imp fun y H2 g => ?_
  obtain ⟨O, ad, S, ρ, d, e, s, fr, r1, r2, k⟩ := g
  obtain ⟨z, ez⟩ := liftO_okF k
  obtain ⟨d', ed, ez⟩ := Option.bind_eq_some_iff.mp ez
  obtain ⟨e', ee, ez⟩ := Option.bind_eq_some_iff.mp ez
  have kv := hf O ad H2 x y d' e' z (deref_rep fr s r1 ed) (deref_rep fr s r2 ee) ez
  rw [ed] at k
  simp only [Option.bind_some, ee, ez, liftO] at k
  exact kv.go s k
theorem w_op1F {r : V → Hp → VK → Prop} {f : D → Option D} {a : ME} (hf : UnPF K mg r f) : ∀ σ H Q, Ef K mg W (e_op1 f a) σ H Q → tUn r (Ee K mg W a) σ H Q := by
  intro σ H Q q
  refine (bindEF (f := fun ρ d S1 => liftO S1 ((deref ρ S1 d).bind f)) q).imp fun x H1 g => ?_
  obtain ⟨O, ad, S, ρ, d, s, fr, r1, k⟩ := g
  obtain ⟨z, ez⟩ := liftO_okF k
  obtain ⟨d', ed, ez⟩ := Option.bind_eq_some_iff.mp ez
  have kv := hf O ad H1 x d' z (deref_rep fr s r1 ed) ez
  rw [ed] at k
  simp only [Option.bind_some, ez, liftO] at k
  exact kv.go s k
end
/-! ### the operations -/
def d_list : D → Option D
  | .lst ds => some (.lst ds)
  | .tup ds => some (.lst ds)
  | _ => none
def d_tuple : D → Option D
  | .lst ds => some (.tup ds)
  | .tup ds => some (.tup ds)
  | _ => none
def d_addT : D → D → Option D := fun d e => match d, e with
  | .tup a, .tup b => if a.length + b.length ≤ 100000 then some (.tup (a ++ b)) else none
  | _, _ => none
def d_rev : D → Option D
  | .lst ds => some (.lst ds.reverse)
  | _ => none
def rList (K : Fg) : List V → Hp → VK → Prop := fun xs H Q => ∃ p ys, xs = [.ref p] ∧ (SqL K H p ys ∨ SqT K H p ys) ∧ ∀ l, H l = none → Q (.ref l) (upd H l (.lst ys))
def rTuple (K : Fg) : List V → Hp → VK → Prop := fun xs H Q => ∃ p ys, xs = [.ref p] ∧ ((SqL K H p ys ∧ ∀ l, H l = none → Q (.ref l) (upd H l (.tup ys))) ∨ (SqT K H p ys ∧ Q (.ref p) H))
theorem cr_list {X : Cx} : CallR X (.type "list") (rList X.g) := call_list_of
theorem cr_tuple {X : Cx} : CallR X (.type "tuple") (rTuple X.g) := call_tuple_of
section
variable {K : Fg} {mg : Mg}
theorem cpf_list : CallPF K mg (rList K) (d_1 d_list) := by
  intro O ad H vs ds z r h
  obtain ⟨d, rfl, h⟩ := d_1_some h
  obtain ⟨x, rfl, rx⟩ := paired1 r
  intro Q k
  cases d with
  | lst ds =>
    cases h
    obtain ⟨a, vs, rfl, h1, h2⟩ := rx.lst
    exact ⟨a, vs, rfl, .inl h1, fun l hl => k l _ hl ⟨vs, rfl, h2⟩⟩
  | tup ds =>
    cases h
    obtain ⟨a, vs, rfl, h1, h2⟩ := rx.tup
    exact ⟨a, vs, rfl, .inr h1, fun l hl => k l _ hl ⟨vs, rfl, h2⟩⟩
  | _ => cases h
theorem RepS.tupR {O : Addr → Prop} {ad : List Addr} {H : Hp} {x : V} {ds : List D} (r : RepS K mg O ad H x (.tup ds)) : Rep K mg (hide O H) ad x (.tup ds) := by
  rcases r with r | ⟨a, rfl, r⟩
  · exact r
  · exact r.elim
theorem cp_tuple : CallP K mg (rTuple K) (d_1 d_tuple) := by
  intro O ad H vs ds z r h
  obtain ⟨d, rfl, h⟩ := d_1_some h
  obtain ⟨x, rfl, rx⟩ := paired1 r
  cases d with
  | lst ds =>
    cases h
    obtain ⟨a, vs, rfl, h1, h2⟩ := rx.lst
    exact .inr ⟨rfl, .tup vs, fun p G e g => .tup (.inl (.inl g)) (h2.mono e fun _ _ q => q), fun Q k => ⟨a, vs, rfl, .inl ⟨h1, k⟩⟩⟩
  | tup ds =>
    cases h
    obtain ⟨a, vs, rfl, h1, h2⟩ := rx.tup
    exact res_v rx.tupR fun Q q => ⟨a, vs, rfl, .inr ⟨h1, q⟩⟩
  | _ => cases h
theorem opf_catL : OpPF K mg (rCatL K) d_addL := by
  intro O ad H x y d e z rx ry h
  intro Q k
  cases d with
  | lst a =>
    cases e with
    | lst b =>
      unfold d_addL at h
      dsimp only at h
      split at h
      · rename_i hz
        cases h
        obtain ⟨p, vs, rfl, h1, h2⟩ := rx.lst
        obtain ⟨q, ws, rfl, g1, g2⟩ := ry.lst
        exact ⟨p, q, vs, ws, rfl, rfl, h1, g1, Nat.le_trans (by rw [h2.length, g2.length]; exact hz) (by decide), fun l hl => k l _ hl ⟨_, rfl, h2.app g2⟩⟩
      · cases h
    | _ => cases h
  | _ => cases h
theorem op_addT : OpP K mg (rCatA K) d_addT := by
  intro O ad H x y d e z rx ry h
  cases d with
  | tup a =>
    cases e with
    | tup b =>
      unfold d_addT at h
      dsimp only at h
      split at h
      · rename_i hz
        cases h
        obtain ⟨p, vs, rfl, h1, h2⟩ := id rx.tup
        obtain ⟨q, ws, rfl, g1, g2⟩ := id ry.tup
        have hl : vs.length + ws.length ≤ sizeLine := Nat.le_trans (by rw [h2.length, g2.length]; exact hz) (by decide)
        by_cases ev : vs = []
        · subst ev
          cases h2
          exact res_v ry.tupR fun Q k => ⟨p, q, [], ws, rfl, rfl, h1, g1, hl, fun _ => k, fun z => absurd rfl z, fun z => absurd rfl z⟩
        · by_cases ew : ws = []
          · subst ew
            cases g2
            rw [List.append_nil]
            exact res_v rx.tupR fun Q k => ⟨p, q, vs, [], rfl, rfl, h1, g1, hl, fun z => absurd z ev, fun _ _ => k, fun _ z => absurd rfl z⟩
          · exact .inr ⟨rfl, .tup (vs ++ ws), fun l G e g => .tup (.inl (.inl g)) ((h2.app g2).mono e fun _ _ q => q), fun Q k => ⟨p, q, vs, ws, rfl, rfl, h1, g1, hl, fun z => absurd z ev, fun _ z => absurd z ew, fun _ _ => k⟩⟩
      · cases h
    | _ => cases h
  | _ => cases h
end
/-! builtin classes called -/
section
variable {X : Cx} {W : WX} {a b e : Expr} {es : List Expr} {r : MA} {p pos : Pos} {ma mb m : ME}
theorem E_ct {T : String} {x : Str} {rr : List V → Hp → VK → Prop} {f : List D → Option D} (hc : CallR X (.type T) rr) (cp : CallP X.g X.mg rr f) (hg : Gl X x) (hm : X.mg x = none) (hv : bootBuiltins x = some (.type T)) (ha : PA X (e :: es) (Ea X.g X.mg W r)) (hn : x ≠ "__name__" := by decide) (hdb : (x == ("__debug__" : Str)) = false := by decide)
    (he : starEach (e :: es) X.env = (false, eval e X.env) :: starEach es X.env := by rfl) (hpl : (backTo pos (starEach es X.env)).any (·.1) = false := by rfl) : PE X (.Call (.Name x p) (e :: es) [] pos) (Ee X.g X.mg W (e_cb f r)) :=
  pe_of (pe_callTy hc hg hm hv ha hn hdb he hpl) (w_cb cp)
theorem F_ct {T : String} {x : Str} {rr : List V → Hp → VK → Prop} {f : List D → Option D} (hc : CallR X (.type T) rr) (cp : CallPF X.g X.mg rr f) (hg : Gl X x) (hm : X.mg x = none) (hv : bootBuiltins x = some (.type T)) (ha : PA X (e :: es) (Ea X.g X.mg W r)) (hn : x ≠ "__name__" := by decide) (hdb : (x == ("__debug__" : Str)) = false := by decide)
    (he : starEach (e :: es) X.env = (false, eval e X.env) :: starEach es X.env := by rfl) (hpl : (backTo pos (starEach es X.env)).any (·.1) = false := by rfl) : PE X (.Call (.Name x p) (e :: es) [] pos) (Ef X.g X.mg W (e_cb f r)) :=
  pe_of (pe_callTy hc hg hm hv ha hn hdb he hpl) (w_cbF cp)
theorem F_cb {id : String} {x : Str} {rr : List V → Hp → VK → Prop} {f : List D → Option D} (hc : CallR X (.builtin id) rr) (cp : CallPF X.g X.mg rr f) (hg : Gl X x) (hm : X.mg x = none) (hv : bootBuiltins x = some (.builtin id)) (ha : PA X (e :: es) (Ea X.g X.mg W r)) (hn : x ≠ "__name__" := by decide) (hdb : (x == ("__debug__" : Str)) = false := by decide)
    (he : starEach (e :: es) X.env = (false, eval e X.env) :: starEach es X.env := by rfl) (hpl : (backTo pos (starEach es X.env)).any (·.1) = false := by rfl) : PE X (.Call (.Name x p) (e :: es) [] pos) (Ef X.g X.mg W (e_cb f r)) :=
  pe_of (pe_callB hc hg hm hv ha hn hdb he hpl) (w_cbF cp)
theorem F_addL (ha : PE X a (Ee X.g X.mg W ma)) (hb : PE X b (Ee X.g X.mg W mb)) : PE X (.BinOp a .Add b pos) (Ef X.g X.mg W (e_op2 d_addL ma mb)) := pe_of (pe_op op_catL ha hb) (w_op2F opf_catL)
theorem E_addT (ha : PE X a (Ee X.g X.mg W ma)) (hb : PE X b (Ee X.g X.mg W mb)) : PE X (.BinOp a .Add b pos) (Ee X.g X.mg W (e_op2 d_addT ma mb)) := E_bin op_catA op_addT ha hb
end
end Gd

/-! Gd, part 15: more statements: targets of several names, augmented ones; f-strings; slices. -/
namespace Gd
open PySem L2 PyProof.Rows

/-! ### a, *r = a list -/
/-- the first, and a new list of the rest -/
def gStarL (K : Fg) (t : TGs) : TG := fun v σ H Q => ∃ a x xs, v = .ref a ∧ SqL K H a (x :: xs) ∧ xs.length ≤ 16000 ∧ ∀ p, H p = none → t [x, .ref p] σ (upd H p (.lst xs)) Q
section
open PySem.W
variable {prog : Program} {w : World} {A : Around} {E : Value → Shared → Prop} {s : Shared}
theorem unpack_head {l : Addr} {x : Value} {xs : List Value} {Q : List Value → Shared → Prop} (hh : A.handled = none) (hl : s.heap.IsList l (x :: xs).toArray) (hz : xs.length ≤ 16000)
    (q : ∀ D h' tk, s.heap.get? D = none → (∀ b o, s.heap.get? b = some o → h'.get? b = some o) → h'.get? D = some { cls := .type "list", dict := none, data := .seq xs.toArray, slots := #[] } → Q [x, .ref D] { s with heap := h', toks := tk }) :
    wpAny (model prog w) A (unpackItems (.ref l) 2 (some 1)) Q E s := by
  obtain ⟨ol, el, more⟩ := id hl
  have small : l < s.heap.objs.size := Heap.lt_size el
  have ne : l ≠ s.heap.objs.size := Nat.ne_of_lt small
  unfold unpackItems
  refine wpAny_bind ?_
  unfold notIterableAtAll
  refine wpAny_bind (wpAny_specialOf hl.typeIs slot_list_iter.lookup (wpAny_pure ?_))
  simp only [Bool.false_eq_true, if_false]
  refine wpAny_bind (wpAny_holding (wpAny_pyIter_list hl ?_))
  refine wpAny_bind (wpAny_holding (kun_draw ne 1 0 _ _ ⟨_, Heap.get?_push_size _ rfl, rfl, rfl⟩ (hl.push _) (by simp) fun h1 it1 b1 => ?_))
  have l1 : h1.IsList l (x :: xs).toArray := (hl.push _).extBut b1.extBut ne
  rw [Nat.zero_add] at it1
  obtain ⟨oi, ei, _⟩ := id it1
  obtain ⟨ol2, el2, _⟩ := id l1
  simp only [List.drop_zero]
  rw [if_neg (show ¬ ((List.take 1 (x :: xs)).length < 1) by simp)]
  refine wpAny_bind (wpAny_holding (kun_collect (s := { s with heap := h1 }) (T := "list_iterator") (.inr (.inr (.inl rfl))) (Walks.list (A := A.in1) hh s.heap.objs.size l ne (x :: xs).toArray) (fun j u st => st.1.typeIs) (k := 1) (by simp) ⟨it1, l1⟩ (Heap.lt_size ei) (Heap.lt_size el2) (fun h2 tk kp => ?_) ?_))
  · show wpAny _ _ (if (List.drop 1 (x :: xs)).length < 2 - 1 - 1 then _ else _) _ _ _
    rw [if_neg (show ¬ ((List.drop 1 (x :: xs)).length < 2 - 1 - 1) by simp)]
    have all : ∀ b o, s.heap.get? b = some o → h2.get? b = some o := fun b o e => by
      have nb : b ≠ s.heap.objs.size := Nat.ne_of_lt (Heap.lt_size e)
      exact kp b o nb (b1.extBut b o nb (Heap.get?_push_of_some _ e))
    show wpAny _ _ (newList (xs.take xs.length) >>= fun d => pure ([x] ++ [d] ++ xs.drop xs.length)) _ _ _
    rw [List.take_length, List.drop_length]
    refine wpAny_bind (wpAny_newList (wpAny_pure (q h2.objs.size _ tk ?_ (fun b o e => Heap.get?_push_of_some _ (all b o e)) (Heap.get?_push_size _ rfl))) (Nat.le_trans hz (by decide)))
    cases e : s.heap.get? h2.objs.size with
    | none => rfl
    | some o => exact absurd (Heap.lt_size (all _ o e)) (Nat.lt_irrefl _)
  · simp; exact Nat.le_trans (Nat.succ_le_succ hz) (by decide)
end
section
variable {X : Cx} {e1 e2 : Expr} {p pos : Pos} {k : Nat} {t : TGs}
theorem pg_star (hc : X.calm = true) (h : PGs X [e1, e2] t) (he : (assignEach [e1, .Starred e2 p] X.env).map (·.2) = (assignEach [e1, e2] X.env).map (·.2) := by rfl) (hl : (assignEach [e1, .Starred e2 p] X.env).length = 2 := by rfl) (hs : (assignEach [e1, .Starred e2 p] X.env).findIdx? (·.1) = some 1 := by rfl) :
    PG X (.Tuple [e1, .Starred e2 p] k pos) (gStarL X.g t) := by
  refine ⟨fun pins s σ H v u Q I r hw => ?_⟩
  obtain ⟨a, x, xs, rfl, hq, hz, hw⟩ := hw
  cases r
  obtain ⟨its, rv, pl, _⟩ := I.list hq
  cases rv with
  | @cons _ u0 _ us rx rr =>
    rw [assign_Tuple]
    refine wpAny_bind (wpAny_standAt ?_)
    unfold unpack
    rw [hl, hs, he]
    refine wpAny_bind (wpAny_holding (unpack_head (I.ok.hd hc) pl.isList (by rw [← rr.length]; exact hz) fun D h' tk nd kp at_ => ?_))
    have hn : H D = none := I.hok.gone nd
    have I2 : L2.Inv X pins σ (upd H D (.lst xs)) { s with heap := h', toks := tk } := I.laidN kp nd hn ⟨Nat.le_trans hz (by decide), us, 0, rr, at_⟩
    exact h.run pins _ σ _ [x, .ref D] [u0, .ref D] Q I2 (.cons rx (.cons rfl .nil)) (hw D hn)
end
def s_star (i j : Nat) (m : ME) : MS := s_e m fun d ρ S => match deref ρ S d with
  | some (.lst (x :: xs)) => if isLoc x = false ∧ xs.length ≤ 16000 then .nx ((ρ.set i (.va x)).set j (.va (.lst xs))) S else .no
  | _ => .no
def s_asg (m : ME) (tgt : D → Ro → Option Ro) : MS := s_e m fun d ρ S => if isLoc d = true then .no else match tgt d ρ with
  | some ρ1 => .nx ρ1 S
  | none => .no
def s_aug (i : Nat) (f : D → D → Option D) (m : ME) : MS := fun ρ S => match ρ[i]? with
  | some (.va x) => s_e m (fun d ρ S => match (deref ρ S x).bind fun x' => (deref ρ S d).bind fun d' => f x' d' with
    | some z => if isLoc z = true then .no else .nx (ρ.set i (.va z)) S
    | none => .no) ρ S
  | _ => .no
section
variable {K : Fg} {mg : Mg} {W : WX}
theorem w_star {i j : Nat} {m : ME} : ∀ Dn σ H, Ss K mg W (s_star i j m) Dn σ H → tAsg (Ee K mg W m) (gStarL K (gCons (gName i) (gCons (gName j) gNil))) Dn σ H := by
  intro Dn σ H q
  refine (bindS q).imp fun v H1 g => ?_
  obtain ⟨c, O, ad, S, ρ, z, d, r, k⟩ := g
  cases ed : deref ρ S d with
  | none => simp only [ed] at k; exact k.elim
  | some d' =>
    simp only [ed] at k
    have rx := deref_rep z.fre z.sto r ed
    cases d' with
    | lst l =>
      cases l with
      | nil => exact k.elim
      | cons x xs =>
        dsimp only at k
        split at k
        · rename_i hc
          obtain ⟨a, vs, rfl, h1, h2⟩ := rx.lst
          cases h2 with
          | cons ra rb =>
            rename_i va vs
            refine ⟨a, va, vs, rfl, h1, by rw [rb.length]; exact hc.2, fun p hp => ?_⟩
            obtain ⟨t, s', hk, e⟩ := new_still (o := .lst vs) z.sto hp
            have z1 := z.step t s'
            have z2 := (z1.set_va (i := i) (ra.mono hk fun _ _ q => q)).set_va (i := j) (Rep.lst (.of e) (rb.mono hk fun _ _ q => q))
            exact ⟨va, [.ref p], rfl, .ref p, [], rfl, rfl, k _ _ _ _ (t.grow z.sto.hid) z2⟩
        · exact k.elim
    | _ => exact k.elim
theorem w_asg {ts : List Nat} {g : TG} {tgt : D → Ro → Option Ro} {m : ME} (hg : TgOk K mg ts g tgt) : ∀ Dn σ H, Ss K mg W (s_asg m tgt) Dn σ H → tAsg (Ee K mg W m) g Dn σ H := by
  intro Dn σ H q
  refine (bindS q).imp fun v H1 h => ?_
  obtain ⟨c, O, ad, S, ρ, z, d, r, k⟩ := h
  cases el : isLoc d with
  | true => rw [if_pos el] at k; exact k.elim
  | false =>
    rw [if_neg (by rw [el]; exact Bool.false_ne_true)] at k
    cases et : tgt d ρ with
    | none => rw [et] at k; exact k.elim
    | some ρ1 =>
      rw [et] at k
      obtain ⟨σ1, f1, own, _, q1⟩ := hg O ad ρ σ H1 v d ρ1 z.fre (r.rep el) et
      exact q1 _ (k σ1 O ad H1 (.refl _ _ _) ⟨z.sto, f1, z.cst, fun i e a h1 h2 => (fun w => z.owf i e a w.1 w.2) (own i e a h1 h2)⟩)
theorem w_aug {i : Nat} {f : D → D → Option D} {ti : TIp} {m : ME} (hf : OpP K mg ti f) : ∀ Dn σ H, Ss K mg W (s_aug i f m) Dn σ H → tAug i (Ee K mg W m) ti Dn σ H := by
  rintro Dn σ H ⟨c, O, ad, S, ρ, z, h⟩
  unfold s_aug at h
  cases ei : ρ[i]? with
  | none => rw [ei] at h; exact h.elim
  | some sl =>
    cases sl with
    | va x =>
      rw [ei] at h
      obtain ⟨v, hv, rv⟩ := z.fre.va i x ei
      refine ⟨v, hv, ?_⟩
      refine (bindK (vs := [v]) (ds := [x]) (f := fun d ρ S => match (deref ρ S x).bind fun x' => (deref ρ S d).bind fun d' => f x' d' with
        | some z => if isLoc z = true then .no else .nx (ρ.set i (.va z)) S
        | none => .no) z (.cons (repR_of rv) .nil) h).imp fun y H1 g => ?_
      obtain ⟨O, ad, S, d, z, ry, r2, k⟩ := g
      cases r2 with
      | cons rv _ =>
        cases ef : (deref ρ S x).bind fun x' => (deref ρ S d).bind fun d' => f x' d' with
        | none => simp only [ef] at k; exact k.elim
        | some u =>
          simp only [ef] at k
          cases el : isLoc u with
          | true => rw [if_pos el] at k; exact k.elim
          | false =>
            rw [if_neg (by rw [el]; exact Bool.false_ne_true)] at k
            obtain ⟨x', e1, e2⟩ := Option.bind_eq_some_iff.mp ef
            obtain ⟨d', e3, e4⟩ := Option.bind_eq_some_iff.mp e2
            have res := hf O ad H1 v y x' d' u (deref_rep z.fre z.sto rv e1) (deref_rep z.fre z.sto ry e3) e4
            rcases res with ⟨w, rw', q⟩ | ⟨_, o, rp, q⟩
            · exact q _ (k _ _ _ _ (.refl _ _ _) (z.set_va rw'))
            · refine q _ fun p hp => ?_
              obtain ⟨t, s', hk, e⟩ := new_still (o := o) z.sto hp
              exact k _ _ _ _ (t.grow z.sto.hid) ((z.step t s').set_va (rp p _ hk e))
    | _ => rw [ei] at h; exact h.elim
end
section
variable {X : Cx} {W : WX} {e : Expr} {pos : Pos} {m : ME}
theorem S_star {i j k : Nat} {x y : Str} {p1 p2 p3 p4 : Pos} (hc : X.calm = true) (hN : X.N.Nodup) (hi : X.N[i]? = some x) (hj : X.N[j]? = some y) (hx : Loc X.env.scope x) (hy : Loc X.env.scope y) (he : PE X e (Ee X.g X.mg W m))
    (h1 : (assignEach [.Name x p1, .Starred (.Name y p2) p3] X.env).map (·.2) = (assignEach [.Name x p1, .Name y p2] X.env).map (·.2) := by rfl) (h2 : (assignEach [.Name x p1, .Starred (.Name y p2) p3] X.env).length = 2 := by rfl) (h3 : (assignEach [.Name x p1, .Starred (.Name y p2) p3] X.env).findIdx? (·.1) = some 1 := by rfl)
    (hs : swapsWithSole [.Tuple [.Name x p1, .Starred (.Name y p2) p3] k p4] e pos.line X.env = pure false := by rfl) (hw : swappedStores [.Tuple [.Name x p1, .Starred (.Name y p2) p3] k p4] e X.env = pure none := by rfl)
    (h4 : (assignEach [.Tuple [.Name x p1, .Starred (.Name y p2) p3] k p4] X.env).map (·.2) = [assign (.Tuple [.Name x p1, .Starred (.Name y p2) p3] k p4) X.env] := by rfl)
    (fx : X.fn x = true ∨ X.env.scope.names.lookup x = some .local := by first | exact .inl rfl | exact .inr rfl | assumption) (fy : X.fn y = true ∨ X.env.scope.names.lookup y = some .local := by first | exact .inl rfl | exact .inr rfl | assumption) :
    PS X (.Assign [.Tuple [.Name x p1, .Starred (.Name y p2) p3] k p4] e pos) (Ss X.g X.mg W (s_star i j m)) :=
  ps_of (ps_asg he (pg_star hc (pgs_cons (pg_name hN hi hx fx) (pgs_cons (pg_name hN hj hy fy) pgs_nil)) h1 h2 h3) hs hw h4) w_star
theorem S_asg {tg : Expr} {ts : List Nat} {g : TG} {tgt : D → Ro → Option Ro} (he : PE X e (Ee X.g X.mg W m)) (hg : PG X tg g) (ok : TgOk X.g X.mg ts g tgt) (hs : swapsWithSole [tg] e pos.line X.env = pure false := by rfl) (hw : swappedStores [tg] e X.env = pure none := by rfl)
    (h1 : (assignEach [tg] X.env).map (·.2) = [assign tg X.env] := by rfl) : PS X (.Assign [tg] e pos) (Ss X.g X.mg W (s_asg m tgt)) := ps_of (ps_asg he hg hs hw h1) (w_asg ok)
theorem S_aug {i : Nat} {x : Str} {op : Operator} {ti : TIp} {f : D → D → Option D} {pos' : Pos} (ho : PIp X op ti) (hf : OpP X.g X.mg ti f) (hN : X.N.Nodup) (hi : X.N[i]? = some x) (hx : Loc X.env.scope x) (he : PE X e (Ee X.g X.mg W m))
    (hv : X.fn x = true ∨ X.env.scope.names.lookup x = some .local := by first | exact .inl rfl | exact .inr rfl | assumption) : PS X (.AugAssign (.Name x pos') op e pos) (Ss X.g X.mg W (s_aug i f m)) := ps_of (ps_aug hN hi hx he ho hv) (w_aug hf)
theorem ip_addI : PIp X .Add (ipI fun i j => i + j) := ip_add
theorem of_ipadd : OpP X.g X.mg (ipI fun i j => i + j) d_addI := by
  intro O ad H x y d e z rx ry h
  cases d with
  | int i =>
    cases e with
    | int j =>
      cases h
      cases rx.int
      cases ry.int
      exact res_v (.int _) fun Q q => ⟨i, j, rfl, rfl, q⟩
    | _ => cases h
  | _ => cases h
end
/-! ### f-strings -/
def e_fstr : List ME → Str → ME
  | [], acc => fun _ S => .ok (.str acc) S
  | m :: ms, acc => fun ρ S => (m ρ S).bind fun d S1 => match d with
    | .str y => if acc.length + y.length ≤ 100000 then e_fstr ms (acc ++ y) ρ S1 else .no
    | _ => .no
/-- {x} of a text -/
def e_fmt (m : ME) : ME := fun ρ S => (m ρ S).bind fun d S1 => match d with
  | .str y => if y.length ≤ 100000 then .ok (.str y) S1 else .no
  | _ => .no
inductive PM (X : Cx) (W : WX) : List Expr → List ME → Prop where
  | nil : PM X W [] []
  | cons {e : Expr} {m : ME} {es : List Expr} {ms : List ME} (h : PE X e (Ee X.g X.mg W m)) (r : PM X W es ms) : PM X W (e :: es) (m :: ms)
section
variable {X : Cx} {W : WX} {e : Expr} {pos : Pos} {m : ME}
theorem PM.pj {es : List Expr} {ms : List ME} (h : PM X W es ms) : PJ X es (ms.map fun m => Ee X.g X.mg W m) := by
  induction h with
  | nil => exact .nil
  | cons h _ ih => exact .cons h ih
theorem w_fstr {K : Fg} {mg : Mg} {W : WX} : ∀ (ms : List ME) (acc : Str) (σ : L2.St) (H : Hp) (Q : VK), acc.length ≤ 200000 → Ee K mg W (e_fstr ms acc) σ H Q → tJs (ms.map fun m => Ee K mg W m) acc σ H fun out H1 => Q (.str out) H1
  | [], acc, σ, H, Q, _, q => by
    obtain ⟨O, ad, S, ρ, s, fr, k⟩ := q
    exact k (.str acc) O ad H (.refl _ _ _) s (repR_of (d := .str acc) (.str acc))
  | m :: ms, acc, σ, H, Q, hz, q => by
    refine (bindE (f := fun ρ d S1 => match d with
      | .str y => if acc.length + y.length ≤ 100000 then e_fstr ms (acc ++ y) ρ S1 else .no
      | _ => .no) q).imp fun v H1 g => ?_
    obtain ⟨O, ad, S, ρ, d, s, fr, r, k⟩ := g
    cases d with
    | str y =>
      dsimp only at k
      obtain ⟨hc, k0⟩ := post_if (P := PostE K mg W ρ σ Q O ad H1) (fun z => z) k
      have r : Rep K mg (hide O H1) ad v (.str y) := r
      cases r
      have el : (acc ++ y).length = acc.length + y.length := by
        show (Str.append acc y).length = _
        simp [Str.append, Str.length]
      refine ⟨y, rfl, Nat.le_trans (by rw [el]; exact hc) (by decide), w_fstr ms (acc ++ y) σ H1 Q (by rw [el]; omega) ⟨O, ad, S, ρ, s, fr, k0⟩⟩
    | _ => exact k.elim
theorem w_fmt {K : Fg} {mg : Mg} {W : WX} {m : ME} : ∀ σ H Q, Ee K mg W (e_fmt m) σ H Q → tFmt (Ee K mg W m) σ H Q := by
  intro σ H Q q
  refine (bindE (f := fun ρ d S1 => match d with
    | .str y => if y.length ≤ 100000 then .ok (.str y) S1 else .no
    | _ => .no) q).imp fun v H1 g => ?_
  obtain ⟨O, ad, S, ρ, d, s, fr, r, k⟩ := g
  cases d with
  | str y =>
    dsimp only at k
    obtain ⟨hc, k0⟩ := post_if (P := PostE K mg W ρ σ Q O ad H1) (fun z => z) k
    have r : Rep K mg (hide O H1) ad v (.str y) := r
    cases r
    exact .inl ⟨y, rfl, Nat.le_trans hc (by decide), k0 (.str y) O ad H1 (.refl _ _ _) s (repR_of (d := .str y) (.str y))⟩
  | _ => exact k.elim
theorem E_fmt (h : PE X e (Ee X.g X.mg W m)) : PE X (.FormattedValue e (-1) none pos) (Ee X.g X.mg W (e_fmt m)) := pe_of (pe_fmt h) w_fmt
theorem E_fstr {v1 v2 : Expr} {rest : List Expr} {m1 m2 : ME} {ms : List ME} (h : PM X W (v1 :: v2 :: rest) (m1 :: m2 :: ms)) : PE X (.JoinedStr (v1 :: v2 :: rest) pos) (Ee X.g X.mg W (e_fstr (m1 :: m2 :: ms) Str.empty)) :=
  pe_of (pe_joined h.pj) fun σ H Q q => w_fstr _ _ σ H Q (by decide) q
theorem E_fstr1 (h : PE X e (Ee X.g X.mg W m)) : PE X (.JoinedStr [e] pos) (Ee X.g X.mg W m) := pe_joined1 h
end
/-! ### + of all kinds, slices of all kinds, xs[::-1] -/
def d_add4 : D → D → Option D := fun d e => (((d_addI d e).or (d_addS d e)).or (d_addT d e)).or (d_addL d e)
def d_slT (d : D) (lo hi : Option Int) : Option D := match d with
  | .tup ds => some (.tup (cutD ds lo hi))
  | _ => none
section
variable {K : Fg} {mg : Mg}
theorem op_addLv : OpP K mg (rCatL K) d_addL := by
  intro O ad H x y d e z rx ry h
  cases d with
  | lst a =>
    cases e with
    | lst b =>
      unfold d_addL at h
      dsimp only at h
      split at h
      · rename_i hz
        cases h
        obtain ⟨p, vs, rfl, h1, h2⟩ := rx.lst
        obtain ⟨q, ws, rfl, g1, g2⟩ := ry.lst
        exact .inr ⟨rfl, .lst (vs ++ ws), fun l G e g => .lst (.of g) ((h2.app g2).mono e fun _ _ q => q), fun Q k => ⟨p, q, vs, ws, rfl, rfl, h1, g1, Nat.le_trans (by rw [h2.length, g2.length]; exact hz) (by decide), k⟩⟩
      · cases h
    | _ => cases h
  | _ => cases h
theorem upf_rev : UnPF K mg (fun x H Q => ∃ a xs, x = .ref a ∧ SqL K H a xs ∧ ∀ p, H p = none → Q (.ref p) (upd H p (.lst xs.reverse))) d_rev := by
  intro O ad H x d z rx h
  intro Q k
  cases d with
  | lst ds =>
    cases h
    obtain ⟨a, vs, rfl, h1, h2⟩ := rx.lst
    refine ⟨a, vs, rfl, h1, fun p hp => k p _ hp ⟨_, rfl, ?_⟩⟩
    clear h1 k rx
    induction vs generalizing ds with
    | nil => cases h2; exact .nil
    | cons v vs ih =>
      cases h2 with
      | cons ra rb =>
        rw [List.reverse_cons, List.reverse_cons]
        exact (ih _ rb).app (.cons ra .nil)
  | _ => cases h
end
section
variable {X : Cx} {W : WX} {a b e : Expr} {pos : Pos} {ma mb m : ME}
theorem E_add4 (ha : PE X a (Ee X.g X.mg W ma)) (hb : PE X b (Ee X.g X.mg W mb)) : PE X (.BinOp a .Add b pos) (Ee X.g X.mg W (e_op2 d_add4 ma mb)) :=
  E_bin (((op_add.or op_add_str).or op_catA).or op_catL) (((op_int0.or op_addS).or op_addT).or op_addLv) ha hb
theorem F_rev {k : Nat} {p1 p2 p3 : Pos} (he : PE X e (Ee X.g X.mg W m)) : PE X (.Subscript e (.Slice none none (some (.UnaryOp .USub (.Constant (.int 1) k p1) p2)) p3) pos) (Ef X.g X.mg W (e_op1 d_rev m)) := pe_of (pe_revL he) (w_op1F upf_rev)
end
end Gd

/-! Gd, part 16: slices of all kinds, isinstance and == of own classes, str(o), try. -/
namespace Gd
open PySem L2 PyProof.Rows

/-! ### slices -/
def d_sl3 (d : D) (lo hi : Option Int) : Option D := (d_sl d lo hi).or (d_slT d lo hi)
section
variable {K : Fg} {mg : Mg}
theorem SlP.or {r r' : V → Option Int → Option Int → Hp → VK → Prop} {f g : D → Option Int → Option Int → Option D} (h : SlP K mg r f) (h' : SlP K mg r' g) : SlP K mg (fun x lo hi H Q => r x lo hi H Q ∨ r' x lo hi H Q) (fun d lo hi => (f d lo hi).or (g d lo hi)) := by
  intro O ad H x d lo hi z rx q
  cases e1 : f d lo hi with
  | some u =>
    have q' : (f d lo hi).or (g d lo hi) = some z := q
    rw [e1] at q'
    cases q'
    exact (h O ad H x d lo hi _ rx e1).imp fun Q k => .inl k
  | none =>
    have q' : (f d lo hi).or (g d lo hi) = some z := q
    rw [e1] at q'
    exact (h' O ad H x d lo hi _ rx q').imp fun Q k => .inr k
theorem sp_slT : SlP K mg (rSlA K) d_slT := by
  intro O ad H x d lo hi z r h
  unfold d_slT at h
  split at h
  · rename_i ds
    cases h
    obtain ⟨a, vs, rfl, h1, h2⟩ := id r.tup
    by_cases hw : HT.sIx vs.length 0 lo = 0 ∧ HT.sIx vs.length vs.length hi = vs.length
    · have e : cutD ds lo hi = ds := by
        unfold cutD
        rw [← h2.length, hw.1, hw.2, List.drop_zero, Nat.sub_zero, h2.length, List.take_length]
      rw [e]
      exact res_v r.tupR fun Q q => ⟨a, vs, rfl, h1, fun _ => q, fun n => absurd hw n⟩
    · refine .inr ⟨rfl, .tup (cutV vs lo hi), fun p G e ep => .tup (.inl (.inl ep)) ?_, fun Q q => ⟨a, vs, rfl, h1, fun n => absurd n hw, fun _ => q⟩⟩
      unfold cutV cutD
      rw [h2.length]
      exact ((h2.drop _).take _).mono e fun _ _ e => e
  · cases h
theorem sp_sl3 : SlP K mg (fun x lo hi H Q => rSl2 K x lo hi H Q ∨ rSlA K x lo hi H Q) d_sl3 := SlP.or sp_sl sp_slT
end
section
variable {X : Cx} {W : WX} {a b : Expr} {pos p2 : Pos} {ma mb : ME}
theorem E_slice3 {lo hi : Option Expr} {ml mh : MO} (ha : PE X a (Ee X.g X.mg W ma)) (hl : PO X lo (Eo X.g X.mg W ml)) (hh : PO X hi (Eo X.g X.mg W mh)) : PE X (.Subscript a (.Slice lo hi none p2) pos) (Ee X.g X.mg W (e_sl d_sl3 ma ml mh)) :=
  pe_of (pe_slice ((sl_list.or sl_str).or sl_tupA) ha hl hh) (w_sl sp_sl3)
end
/-! ### [..] * n -/
def d_rep : D → D → Option D := fun d e => match d, e with
  | .lst ds, .int k => if 0 ≤ k ∧ k ≤ 1000 ∧ ds.length ≤ 100 then some (.lst (List.replicate k.toNat ds).flatten) else none
  | _, _ => none
/-- the list is new itself -/
def e_rep (a b : ME) : ME := fun ρ S => (a ρ S).bind fun d S1 => (b ρ S1).bind fun e S2 => liftO S2 (d_rep d e)
section
variable {K : Fg} {mg : Mg} {W : WX}
theorem Reps.rep {G : Hp} {ad : List Addr} {vs : List V} {ds : List D} (h : Reps K mg G ad vs ds) : ∀ n : Nat, Reps K mg G ad (List.replicate n vs).flatten (List.replicate n ds).flatten
  | 0 => .nil
  | n + 1 => by
    rw [List.replicate_succ, List.replicate_succ, List.flatten_cons, List.flatten_cons]
    exact h.app (h.rep n)
theorem w_rep {a b : ME} : ∀ σ H Q, Ef K mg W (e_rep a b) σ H Q → tOp rRep (Ef K mg W a) (Ee K mg W b) σ H Q := by
  rintro σ H Q ⟨O, ad, S, ρ, s, fr, k⟩
  refine ⟨O, ad, S, ρ, s, fr, ?_⟩
  unfold e_rep at k
  cases e1 : a ρ S with
  | no => rw [e1] at k; exact k
  | er x fs S1 => rw [e1] at k; exact k
  | ok d S1 =>
    rw [e1] at k
    intro p O1 ad1 H1 t1 s1 hO hn h0 m
    have k1 := PostF.rebase k t1 s.hid s1.dom
    clear k
    refine ⟨O1, ad1, S1, ρ, s1, fr.step s.hid t1, ?_⟩
    dsimp only [Out.bind] at k1
    cases e2 : b ρ S1 with
    | no => rw [e2] at k1; exact k1
    | er x fs S2 => rw [e2] at k1; exact k1
    | ok e S2 =>
      rw [e2] at k1
      intro w O2 ad2 H2 t2 s2 r2
      have k2 := PostF.rebase k1 t2 s1.hid s2.dom
      clear k1
      dsimp only at k2
      obtain ⟨z, ez⟩ := liftO_okF k2
      rw [ez] at k2
      obtain ⟨o1, g1⟩ := m.there
      have m2 : MRep K mg (hide O2 H2) ad2 H2 p d := m.mono (t2.hide s1.hid) t2.get fun o q => t2.fr p o q hn
      cases d with
      | lst ds =>
        cases e with
        | int n =>
          unfold d_rep at ez
          dsimp only at ez
          split at ez
          · rename_i hc
            cases ez
            obtain ⟨vs, h1, h2⟩ := m2
            have r2 : Rep K mg (hide O2 H2) ad2 w (.int n) := r2
            cases r2
            refine ⟨p, n, vs, rfl, rfl, h1, by omega, by omega, ?_, fun q hq => ?_⟩
            · have l : vs.length ≤ 100 := by rw [h2.length]; exact hc.2.2
              exact Nat.le_trans (Nat.mul_le_mul l (show n.toNat ≤ 1000 by omega)) (by decide)
            · have m3 : MRep K mg (hide O2 H2) ad2 (upd H2 q (.lst (List.replicate n.toNat vs).flatten)) q (.lst (List.replicate n.toNat ds).flatten) := ⟨_, upd_same, h2.rep n.toNat⟩
              obtain ⟨t, s', np, m4⟩ := new_own (d := .lst (List.replicate n.toNat ds).flatten) s2 hq m3
              exact k2 q _ ad2 _ t s' (.inr rfl) np hq m4
          · cases ez
        | _ => cases ez
      | _ => cases e <;> cases ez
end
theorem F_rep {X : Cx} {W : WX} {a b : Expr} {pos : Pos} {ma mb : ME} (ha : PE X a (Ef X.g X.mg W ma)) (hb : PE X b (Ee X.g X.mg W mb)) : PE X (.BinOp a .Mult b pos) (Ef X.g X.mg W (e_rep ma mb)) := pe_of (pe_op op_rep ha hb) w_rep
/-! ### isinstance(x, C) -/
structure ClsTy (K : Fg) (C : Addr) : Prop where
  cl : Cls K C
  ha : PySem.W.findIn K (.ref C) "__class__" = some (some (.builtin "object.__class__"))
  hn : PySem.W.specialIn K (.builtin "object.__class__") "__get__" = some (some (.builtin "getset_descriptor.__get__"))
  ht : PySem.W.takesIn K (.builtin "object.__class__") = some true
  hm : PySem.W.mroIn K C (.type "object") = some true
/-- the answers of isinstance(.., C): of built-in types, of own classes -/
structure IsC (K : Fg) (mg : Mg) (C : Addr) (tb : List (String × Bool)) (tc : List (Str × Bool)) : Prop where
  ty : ∀ n b, tb.lookup n = some b → PySem.W.kitOne K (.type n) (.ref C) = some b
  ow : ∀ c b, tc.lookup c = some b → ∃ C', mg c = some (.ref C') ∧ ClsTy K C' ∧ PySem.W.kitOne K (.ref C') (.ref C) = some b
def d_isC (tb : List (String × Bool)) (tc : List (Str × Bool)) : D → Option D := fun d => match d with
  | .ins c _ => (tc.lookup c).map .bl
  | d => ((tyD d).bind fun n => tb.lookup n).map .bl
theorem isC_cases {tb : List (String × Bool)} {tc : List (Str × Bool)} {d z : D} (h : d_isC tb tc d = some z) : (∃ c gs b, d = .ins c gs ∧ tc.lookup c = some b ∧ z = .bl b) ∨ ∃ n b, tyD d = some n ∧ tb.lookup n = some b ∧ z = .bl b := by
  cases d with
  | ins c gs =>
    obtain ⟨b, h1, rfl⟩ := Option.map_eq_some_iff.mp (show Option.map D.bl (tc.lookup c) = some z from h)
    exact .inl ⟨c, gs, b, rfl, h1, rfl⟩
  | _ =>
    unfold d_isC at h
    dsimp only at h
    obtain ⟨b, h1, rfl⟩ := Option.map_eq_some_iff.mp h
    obtain ⟨n, h2, h3⟩ := Option.bind_eq_some_iff.mp h1
    exact .inr ⟨n, b, h2, h3, rfl⟩
section
variable {X : Cx} {W : WX} {e t : Expr} {m : ME} {p pos : Pos}
theorem E_isC {C : Addr} {tb : List (String × Bool)} {tc : List (Str × Bool)} (T : IsC X.g X.mg C tb tc) (hg : Gl X "isinstance") (hm : X.mg "isinstance" = none) (he : PE X e (Ee X.g X.mg W m)) (ht : PE X t (tC (.ref C))) (hs1 : starEach (t :: []) X.env = (false, eval t X.env) :: starEach [] X.env := by rfl)
    (hs : starEach (e :: [t]) X.env = (false, eval e X.env) :: starEach [t] X.env := by rfl) (hpl : (backTo pos (starEach [t] X.env)).any (·.1) = false := by rfl) :
    PE X (.Call (.Name "isinstance" p) [e, t] [] pos) (Ee X.g X.mg W (e_op1 (d_isC tb tc) m)) :=
  pe_of (pe_callB call_isi hg hm (by decide +kernel) (pa_cons he (pa_cons ht pa_nil hs1) hs) (by decide) (by decide) hs hpl) fun σ H Q q =>
    (w_op1 (r := fun x H Q => rIsi X.g [x, .ref C] H Q) (fun O ad H x d z r h => by
      rcases isC_cases h with ⟨c, gs, b, rfl, h1, rfl⟩ | ⟨n, b, h2, h3, rfl⟩
      · obtain ⟨C', hC, ct, hk⟩ := T.ow c b h1
        obtain ⟨a, C2, dx, fs, rfl, hC2, hp, _⟩ := r.ins
        rw [hC] at hC2
        cases hC2
        exact res_v (.bl _) fun Q q => ⟨.ref a, .ref C, .ref C', .ref C, b, rfl, .own C, .base (.ins hp ct.cl ct.ha ct.hn ct.ht ct.hm), hk, q⟩
      · exact res_v (.bl _) fun Q q => ⟨x, .ref C, .type n, .ref C, b, rfl, .own C, tyX_of r h2, T.ty n b h3, q⟩) σ H Q q)
end
/-! ### a == b by the class's own def; str(o) -/
def noErS {α : Type} (o : Out α) : Out α := match o with
  | .er _ _ _ => .no
  | o => o
def e_eqO (c : Str) (m : List D → Sg → Out D) (a b : ME) : ME := fun ρ S => (a ρ S).bind fun d S1 => (b ρ S1).bind fun e S2 =>
  if isLoc d = false ∧ isLoc e = false ∧ (deref ρ S2 d).any (isCls c) = true ∧ (deref ρ S2 e).any (isCls c) = true then noErS (m [d, e] S2) else .no
def e_strO (c : Str) (m : List D → Sg → Out D) (a : ME) : ME := fun ρ S => (a ρ S).bind fun d S1 =>
  if isLoc d = false ∧ (deref ρ S1 d).any (isCls c) = true then (noErS (m [d] S1)).bind fun z S2 => match z with
    | .str y => .ok (.str y) S2
    | _ => .no else .no
def rEqO (K : Fg) (C : Addr) (sp : Sp) : R2 := fun x y H Q => ∃ a b dx dy fs gs, x = .ref a ∧ y = .ref b ∧ H a = some (.ins C dx fs) ∧ H b = some (.ins C dy gs) ∧ sp [x, y] H Q fun _ _ _ => False
def rStrO (C : Addr) (sp : Sp) : List V → Hp → VK → Prop := fun xs H Q => ∃ a dx fs, xs = [V.ref a] ∧ H a = some (.ins C dx fs) ∧ sp [.ref a] H (fun z H' => ∃ y, z = .str y ∧ Q z H') fun _ _ _ => False
section
variable {X : Cx} {k : Nat} {f C : Addr} {fd : FuncData} {ps : List Str} {sp : Sp}
theorem run_atF {A : Around} {pins : List (Addr × Obj)} {σ : L2.St} {H : Hp} {s : Shared} {Q : VK} {us : List Value} {ws : List V} (F : FnOk X.prog X.w X.g X.mg X.base (L2.CX X.prog X.w) k f fd ps sp) (hb : Binds X.g fd ps []) (hr : Room k A) (e0 : Env0 X.prog X.w X.g X.mg X.base A X.stack s H) (I : L2.Inv X pins σ H s) (r : Vals ws us)
    (h : sp ws H Q fun _ _ _ => False) : codeAny (model X.prog X.w) A (.call (.ref f) ⟨us, []⟩) (fun r s' => match r with | .ok (.ret v) => EP X pins σ Q v s' | .ok _ => False | .error e => X.xe e s') s := by
  have hl : us.length = ps.length := by rw [← r.length]; exact F.len _ _ _ _ h
  have b := hb s us I.kIn (by rw [List.append_nil]; exact hl)
  rw [List.append_nil] at b
  refine codeAny_mono (F.run A X.stack s H ⟨us, []⟩ us ws Q _ hr e0 b r h) fun r s' hq => ?_
  cases r with
  | error e =>
    obtain ⟨_, _, _, _, _, _, _, _, _, _, _, _, z⟩ := hq
    exact z.elim
  | ok fl =>
    cases fl with
    | ret u => exact I.after hq
    | next => exact hq.elim
    | brk => exact hq.elim
    | cont => exact hq.elim
theorem op_eqO (hs : PySem.W.findIn X.g (.ref C) "__eq__" = some (some (.ref f))) (hf : PySem.W.isFn X.g (.ref f) = true) (F : FnOk X.prog X.w X.g X.mg X.base (L2.CX X.prog X.w) k f fd ps sp) (hb : Binds X.g fd ps []) (hr : Room k X.A) : OpR X (compareOp .Eq) (rEqO X.g C sp) := by
  intro pins s σ H x y v u Q I rx ry h
  obtain ⟨a, b, dx, dy, fs, gs, rfl, rfl, ha, hb', q⟩ := h
  cases rx
  cases ry
  obtain ⟨mA, J, _⟩ := ins_get I.hok ha
  obtain ⟨mB, J', _⟩ := ins_get I.hok hb'
  obtain ⟨od, J, _⟩ := J.look
  obtain ⟨od', J', _⟩ := J'.look
  obtain ⟨m, hF⟩ := I.fr
  refine PySem.W.cmp_K (op := .Eq) (tb := .ref C) hr.units0 hF I.ok.mod.kin J J'.type (by simp [PySem.W.notFirst]) hs hf ?_
  refine wpAny_mono (wpAny_call (run_atF (us := [.ref a, .ref b]) (ws := [.ref a, .ref b]) F hb hr I.env0 I (.cons rfl (.cons rfl .nil)) q)) (fun w s' z => ?_) fun _ _ x => x
  obtain ⟨z', H', I', rz, qz⟩ := z
  exact SlX.cmpback rz ⟨z', H', I', rz, qz⟩
theorem call_strO (hs : PySem.W.findIn X.g (.ref C) "__str__" = some (some (.ref f))) (hf : PySem.W.isFn X.g (.ref f) = true) (F : FnOk X.prog X.w X.g X.mg X.base (L2.CX X.prog X.w) k f fd ps sp) (hb : Binds X.g fd ps []) (hr : Room (k + 2) X.A) : CallR X (.type "str") (rStrO C sp) := by
  intro pins s σ H xs us Q I r h
  obtain ⟨a, dx, fs, rfl, ha, q⟩ := h
  obtain ⟨u, rfl, ru⟩ := r.one
  cases (show u = Value.ref a from ru)
  obtain ⟨mA, J, _⟩ := ins_get I.hok ha
  obtain ⟨od, J, _⟩ := J.look
  have hr2 : Room k X.A.in1.in1 := (show Room (k + 1) X.A.in1 from Room.in1 hr).in1
  refine PySem.W.kso_call hr2.units0 I.kIn J hs hf (wpAny_mono (wpAny_call (run_atF (us := [.ref a]) (ws := [.ref a]) F hb hr2 I.env0.in1.in1 I (.cons rfl .nil) q)) (fun w s' z => ?_) fun _ _ x => x)
  obtain ⟨z', H', I', rz, y, rfl, qz⟩ := z
  obtain ⟨t, rfl⟩ := (show ∃ t, w = Value.str y t from rz)
  exact ⟨.str y, H', I', ⟨t, rfl⟩, qz⟩
end
section
variable {K : Fg} {mg : Mg} {W : WX}
theorem any_cls {o : Option D} {c : Str} (h : o.any (isCls c) = true) : ∃ gs, o = some (.ins c gs) := by
  cases o with
  | none => cases h
  | some d =>
    cases d with
    | ins c' gs =>
      have e : c' = c := of_decide_eq_true h
      exact ⟨gs, by rw [e]⟩
    | _ => cases h
theorem w_eqO {c : Str} {C : Addr} (T : ClsAt K mg c C) {n : Nat} {m : List D → Sg → Out D} {a b : ME} (len : ∀ ds S, ds.length ≠ n → m ds S = .no) : ∀ σ H Q, Ee K mg W (e_eqO c m a b) σ H Q → tOp (rEqO K C (SpM K mg n m)) (Ee K mg W a) (Ee K mg W b) σ H Q := by
  intro σ H Q q
  refine (bind2E (f := fun ρ d e S2 => if isLoc d = false ∧ isLoc e = false ∧ (deref ρ S2 d).any (isCls c) = true ∧ (deref ρ S2 e).any (isCls c) = true then noErS (m [d, e] S2) else .no) q).imp fun x H1 g => ?_
  refine g.imp fun y H2 g => ?_
  obtain ⟨O, ad, S, ρ, d, e, s, fr, r1, r2, k⟩ := g
  obtain ⟨⟨c1, c2, c3, c4⟩, k0⟩ := post_if (P := PostE K mg W ρ σ Q O ad H2) (fun z => z) k
  obtain ⟨gs, e1⟩ := any_cls c3
  obtain ⟨hs, e2⟩ := any_cls c4
  obtain ⟨p, C1, dx, fs, rfl, g1, g2, _⟩ := (deref_rep fr s r1 e1).ins
  obtain ⟨p', C2, dy, fs', rfl, k1, k2, _⟩ := (deref_rep fr s r2 e2).ins
  rw [T.at_] at g1 k1
  cases g1
  cases k1
  refine ⟨p, p', dx, dy, fs, fs', rfl, rfl, g2, k2, O, ad, S, [d, e], s, .cons (r1.rep c1) (.cons (r2.rep c2) .nil), ?_, ?_⟩
  · by_cases el : [d, e].length = n
    · exact el
    · rw [len _ S el] at k0; exact k0.elim
  · cases em : m [d, e] S with
    | ok z S' => rw [em] at k0; exact fun v O' ad' H' t z r => k0 v O' ad' H' t z (repR_of r)
    | er x fs S' => rw [em] at k0; exact k0.elim
    | no => rw [em] at k0; exact k0.elim
theorem w_strO {c : Str} {C : Addr} (T : ClsAt K mg c C) {n : Nat} {m : List D → Sg → Out D} {a : ME} (len : ∀ ds S, ds.length ≠ n → m ds S = .no) : ∀ σ H Q, Ee K mg W (e_strO c m a) σ H Q → tCB (rStrO C (SpM K mg n m)) (Ea K mg W (a_cons a a_nil)) σ H Q := by
  rintro σ H Q ⟨O, ad, S, ρ, s, fr, k⟩
  refine ⟨O, ad, S, ρ, s, fr, ?_⟩
  unfold e_strO at k
  unfold a_cons
  cases e : a ρ S with
  | no => rw [e] at k; exact k
  | er x fs S1 => rw [e] at k; exact k
  | ok d S1 =>
    rw [e] at k
    intro vs O1 ad1 H1 t1 s1 r1
    have k1 := PostE.rebase k t1 s.hid s1.dom
    clear k
    have fr1 := fr.step s.hid t1
    obtain ⟨⟨c1, c3⟩, k0⟩ := post_if (P := PostE K mg W ρ σ Q O1 ad1 H1) (fun z => z) k1
    clear k1
    cases r1 with
    | cons rd rn =>
      cases rn
      obtain ⟨gs, e1⟩ := any_cls c3
      obtain ⟨p, C1, dx, fs, rfl, g1, g2, _⟩ := (deref_rep fr1 s1 rd e1).ins
      rw [T.at_] at g1
      cases g1
      refine ⟨p, dx, fs, rfl, g2, O1, ad1, S1, [d], s1, .cons (rd.rep c1) .nil, ?_, ?_⟩
      · by_cases el : [d].length = n
        · exact el
        · rw [len _ S1 el] at k0; exact k0.elim
      · cases em : m [d] S1 with
        | ok z S' =>
          rw [em] at k0
          cases z with
          | str y =>
            intro v O' ad' H' t z r
            cases r
            exact ⟨y, rfl, k0 (.str y) O' ad' H' t z (repR_of (d := .str y) (.str y))⟩
          | _ => exact k0.elim
        | er x fs S' => rw [em] at k0; exact k0.elim
        | no => rw [em] at k0; exact k0.elim
end
section
variable {X : Cx} {W : WX} {k : Nat} {f C : Addr} {fd : FuncData} {ps : List Str} {c : Str} {pos p : Pos} {a b : Expr} {ma mb : ME}
theorem E_eqO {n j : Nat} {mB : MS} (T : ClsAt X.g X.mg c C) (hs : PySem.W.findIn X.g (.ref C) "__eq__" = some (some (.ref f))) (hf : PySem.W.isFn X.g (.ref f) = true) (F : FnOk X.prog X.w X.g X.mg X.base (L2.CX X.prog X.w) k f fd ps (SpM X.g X.mg j (Gd.fn n mB j))) (hb : Binds X.g fd ps []) (hr : Room k X.A)
    (ha : PE X a (Ee X.g X.mg W ma)) (hb' : PE X b (Ee X.g X.mg W mb)) : PE X (.Compare a [.Eq] [b] pos) (Ee X.g X.mg W (e_eqO c (Gd.fn n mB j) ma mb)) := pe_of (pe_cmpR (op_eqO hs hf F hb hr) ha hb' (nomark _)) (w_eqO T fn_len)
theorem E_strO {n j : Nat} {mB : MS} (T : ClsAt X.g X.mg c C) (hs : PySem.W.findIn X.g (.ref C) "__str__" = some (some (.ref f))) (hf : PySem.W.isFn X.g (.ref f) = true) (F : FnOk X.prog X.w X.g X.mg X.base (L2.CX X.prog X.w) k f fd ps (SpM X.g X.mg j (Gd.fn n mB j))) (hb : Binds X.g fd ps []) (hr : Room (k + 2) X.A)
    (hg : Gl X "str") (hm : X.mg "str" = none) (ha : PE X a (Ee X.g X.mg W ma)) (he : starEach (a :: []) X.env = (false, eval a X.env) :: starEach [] X.env := by rfl) (hpl : (backTo pos (starEach [] X.env)).any (·.1) = false := by rfl) :
    PE X (.Call (.Name "str" p) [a] [] pos) (Ee X.g X.mg W (e_strO c (Gd.fn n mB j) ma)) := pe_of (pe_callTy (call_strO hs hf F hb hr) hg hm (by decide +kernel) (A_cons ha A_nil he) (by decide) (by decide) he hpl) (w_strO T fn_len)
end
/-! ### try: .. except C: .. -/
def noExS : OS → OS
  | .ex _ _ _ _ => .no
  | o => o
/-- tc: which classes C catches -/
def s_try (tc : List (Str × Bool)) (b h : MS) : MS := fun ρ S => match b ρ S with
  | .ex x fs ρ' S' => (match tc.lookup x with
    | some true => noExS (h ρ' S')
    | some false => .ex x fs ρ' S'
    | none => .no)
  | o => o
structure TryC (K : Fg) (mg : Mg) (C : Addr) (tc : List (Str × Bool)) : Prop where
  ow : ∀ c b C', tc.lookup c = some b → mg c = some (.ref C') → PySem.W.exmOne K (.ref C') (.ref C) = some b
section
variable {K : Fg} {mg : Mg} {W : WX}
theorem w_try {C : Addr} {tc : List (Str × Bool)} (T : TryC K mg C tc) {b h : MS} : ∀ Dn σ H, Ss K mg W (s_try tc b h) Dn σ H → Ss K mg (wOnly K (.ref C) (fun _ _ _ => Ss K mg W0 h) W Dn) b Dn σ H := by
  rintro Dn σ H ⟨c, O, ad, S, ρ, z, k⟩
  refine ⟨c, O, ad, S, ρ, z, ?_⟩
  unfold s_try at k
  cases e : b ρ S with
  | ex x fs ρ' S' =>
    simp only [e] at k
    intro cls dd σ' O' ad' H' g z' rx
    obtain ⟨X, hX, rfl, more⟩ := id rx
    cases et : tc.lookup x with
    | none => simp only [et] at k; exact k.elim
    | some bb =>
      refine ⟨bb, T.ow x bb X et hX, fun hb a _ => ?_, fun hb => ?_⟩
      · subst hb
        simp only [et] at k
        refine ⟨c, O', ad', S', ρ', z', ?_⟩
        have k' := PostS.rebase k g
        cases eh : h ρ' S' with
        | ex y gs ρ2 S2 => rw [eh] at k'; exact k'.elim
        | nx ρ2 S2 => rw [eh] at k'; exact k'
        | rt d S2 => rw [eh] at k'; exact k'
        | bk ρ2 S2 => rw [eh] at k'; exact k'
        | ct ρ2 S2 => rw [eh] at k'; exact k'
        | no => rw [eh] at k'; exact k'
      · subst hb
        simp only [et] at k
        exact k _ dd σ' O' ad' H' g z' rx
  | nx ρ2 S2 => simp only [e] at k; exact k
  | rt d S2 => simp only [e] at k; exact k
  | bk ρ2 S2 => simp only [e] at k; exact k
  | ct ρ2 S2 => simp only [e] at k; exact k
  | no => simp only [e] at k; exact k.elim
end
section
variable {X : Cx} {W : WX} {x : Str} {C : Addr} {body suite : List Stmt} {b₀ : Stmt} {np pos pos' : Pos} {mb mh : MS} {tc : List (Str × Bool)}
theorem S_try (T : TryC X.g X.mg C tc) (hs : X.stack = X.env :: X.outer) (hf : X.env.frame = some X.env.locals) (hc : Names X x (.ref C)) (tk : Takes X W)
    (hb : ∀ (W : WX) (pn : List (Addr × Obj)) (xe : Value → Shared → Prop), Takes (X.tr pn xe) W → PSs (X.tr pn xe) body (Ss X.g X.mg W mb))
    (hsu : ∀ (a : Addr) (oe : Obj) (pn : List (Addr × Obj)), PSs (X.suite a ((a, oe) :: pn)) (b₀ :: suite) (Ss X.g X.mg W0 mh)) :
    PS X (.Try body [.ExceptHandler (some (.Name x np)) none (b₀ :: suite) pos'] [] [] pos) (Ss X.g X.mg W (s_try tc mb mh)) :=
  ps_of (ps_try_only (tb := fun W => Ss X.g X.mg W mb) (ts := fun _ _ _ => Ss X.g X.mg W0 mh) hs hf hc tk (fun W pn xe t _ => hb W pn xe t) fun a oe cls d pn _ _ => hsu a oe pn) (w_try T)
end
end Gd

/-! Gd, part 17: defs with defaults, the facts of a class. -/
namespace Gd
open PySem L2 PyProof.Rows

theorem sp_start {K : Fg} {mg : Mg} {N : List Str} {n : Nat} {m : MS} {vs : List V} {H : Hp} {Q : VK} {E : XK} (h : SpM K mg n (fnM N.length m) vs H Q E) : Ss K mg (fun cls d _ H' => E cls d H') m { nx := fun _ H' => Q .non H', rt := Q } (start N vs) H := by
  obtain ⟨O, ad, S0, ds, z, r, hl, h⟩ := h
  have hvl : vs.length = ds.length := r.length
  refine ⟨⟨H, ad, O⟩, O, ad, S0, ds.map .va ++ List.replicate (N.length - ds.length) .un, ⟨z, ⟨?_, fun i d e => ?_, fun i d e => ?_, fun i j d e a n h1 => ?_⟩, ⟨fun b o e _ => e, fun _ h => h, fun _ h => .inl h, ⟨[], by simp, fun _ h => nomatch h⟩, z.hid, z.dom⟩, fun i d a e => ?_⟩, ?_⟩
  · unfold L2.start
    simp [hvl]
  · unfold L2.start
    rw [hvl]
    rcases start_va r i _ e with q | ⟨d', v, q, h1, h2⟩
    · cases q
    · cases q; exact ⟨v, h1, h2⟩
  · rcases start_va r i _ e with q | ⟨d', v, q, h1, h2⟩
    · cases q
    · cases q
  · rcases start_va r i _ h1 with q | ⟨d', v, q, h1, h2⟩
    · cases q
    · cases q
  · rcases start_va r i _ e with q | ⟨d', v, q, h1, h2⟩
    · cases q
    · cases q
  · unfold fnM at h
    cases e : m (ds.map .va ++ List.replicate (N.length - ds.length) .un) S0 with
    | nx ρ' S' =>
      simp only [e] at h
      intro σ' O' ad' H' g z'
      obtain ⟨b1, b2, b3⟩ := Cst.back z'.sto z'.cst
      exact h .non _ ad' H' b1 b2 .non
    | rt d S' =>
      simp only [e] at h
      intro v O' ad' H' z' c' r'
      obtain ⟨b1, b2, b3⟩ := Cst.back z' c'
      exact h v _ ad' H' b1 b2 (r'.mono b3 fun _ _ e => e)
    | ex x fs ρ' S' =>
      simp only [e] at h
      intro cls dd σ' O' ad' H' g z' r'
      obtain ⟨b1, b2, b3⟩ := Cst.back z'.sto z'.cst
      obtain ⟨C, q1, q2, q3⟩ := r'
      refine h cls dd _ ad' H' b1 b2 ⟨C, q1, q2, q3.imp id fun ⟨a, vs, q4, q5, q6⟩ => ⟨a, vs, q4, q5, q6.mono b3 fun _ _ e => e⟩⟩
    | bk ρ' S' => simp only [e] at h
    | ct ρ' S' => simp only [e] at h
    | no => simp only [e] at h
theorem def_okD {K : Fg} {mg : Mg} {base : Heap} {x qual : Str} {st : Stmt} {f : Addr} {fd : FuncData} {N ps : List Str} {k : Nat} {m : MS} {dvs : List V} {kws : List (Str × V)} (F : FunD K x qual (defArgs st) (defBody st) (defScope st) dvs kws f fd) (S : FnScope N ps (defScope st))
    (hb : ∀ (cdv : Value) (A : Around) (outer : List Env) (s : Shared) (H : Hp) (E : XK), Room k (A.deeper (PyProof.Rows.envOfC qual (defScope st) s.heap.objs.size f cdv)) →
      PSs (cxOf (L2.CX K.P K.w) K.P K.w K.F mg base N qual (defScope st) f cdv A outer s H E) (defBody st) (Ss K mg (fun cls d _ H' => E cls d H') m)) :
    FnOk K.P K.w K.F mg base (L2.CX K.P K.w) (k + 1) f fd ps (SpM K mg ps.length (Gd.fn N.length m ps.length)) :=
  FnOk.imp (sp := SpM K mg ps.length (fnM N.length m)) (F.ok S (fun vs H Q E h => by
    obtain ⟨O, ad, S0, ds, z, r, hl, _⟩ := h
    rw [r.length, hl]) fun cdv A outer s H vs Q E hr h => ⟨_, hb cdv A outer s H E hr, sp_start h⟩) SpM.fn
section
variable {K : Fg} {x qual : Str} {params : Arguments} {body : List Stmt} {scope : Scope} {dvs : List V} {kws : List (Str × V)} {f : Addr} {fd : FuncData} {ps : List Str}
/-- every parameter is written, though there are defaults -/
theorem binds_full (F : FunD K x qual params body scope dvs kws f fd) (hd : dvs ≠ []) (h : ∀ (T : Addr) (kV doc pm : Value) (an : Option Addr) (cdv ct : Value) (us its : List Value), us.length = ps.length → its.length = dvs.length →
      ∃ k, bindArgs (PySem.W.fnOf x qual params body scope (.ref T) kV doc pm an cdv ct) ⟨us, []⟩ = seqItems? (.ref T) >>= k ∧ k (some its.toArray) = pure (ps.zip us)) : Binds K fd ps [] := by
  obtain ⟨ds, r, b⟩ := F.binds1 ps.length dvs.length hd (by rw [Nat.sub_self]; rfl) fun T kV doc pm an cdv ct us its h1 h2 => by
    obtain ⟨k, e1, e2⟩ := h T kV doc pm an cdv ct us its h1 h2
    exact ⟨k, e1, by rw [e2, ← h2, List.drop_length, List.append_nil]⟩
  rw [List.drop_length] at r
  cases r
  exact b
theorem fund_mk {st : Stmt} {oc : Value} {od an : Option Addr} {osl : Array (Option Value)} {dV kV doc pm cdv ct : Value} (l : K.F.lookup f = some ⟨oc, od, .func (PySem.W.fnOf x qual (defArgs st) (defBody st) (defScope st) dV kV doc pm an cdv ct), osl⟩) (c : PySem.W.codeIn K cdv qual = true) (k : PySem.W.keepIn K (.ref f) = true)
    (d1 : DflV K dV dvs) (d2 : KwdV K kV kws) : FunD K x qual (defArgs st) (defBody st) (defScope st) dvs kws f (PySem.W.fnOf x qual (defArgs st) (defBody st) (defScope st) dV kV doc pm an cdv ct) := ⟨⟨oc, od, dV, kV, doc, pm, an, cdv, ct, osl, rfl, l, c, d1, d2⟩, k⟩
/-- an empty tuple of the written part -/
theorem rep_unit {mg : Mg} {a : Addr} {od : Option Addr} {sl : Array (Option Value)} {n : Nat} (l : K.F.lookup a = some ⟨.type "tuple", od, .seq #[] n, sl⟩) : ∀ G ad, Rep K mg G ad (.ref a) (.tup []) := rep_tup (xs := []) l (show 0 ≤ sizeLine by decide) .nil fun _ _ => .nil
end
end Gd

/-! Gd, part 18: what the printed walks lean on. -/
namespace Gd
open PySem L2 PyProof.Rows

theorem reps_at {K : Fg} {mg : Mg} {G : Hp} {ad : List Addr} {vs : List V} {ds : List D} (h : Reps K mg G ad vs ds) (i : Nat) : Reps K mg G ad (vs[i]?).toList (ds[i]?).toList := by
  cases e : ds[i]? with
  | none =>
    have : vs[i]? = none := by
      rw [List.getElem?_eq_none_iff] at e ⊢
      rw [h.length]; exact e
    rw [this]; exact .nil
  | some d =>
    obtain ⟨v, e2, r⟩ := h.get e
    rw [e2]; exact .cons r .nil
theorem vals_at {vs : List V} {us : List Value} (h : Vals vs us) (i : Nat) : Vals (vs[i]?).toList (us[i]?).toList := by
  induction h generalizing i with
  | nil => exact .nil
  | cons a b ih =>
    cases i with
    | zero => exact .cons a .nil
    | succ i => exact ih i
theorem tab_all {α β : Type} [BEq α] [LawfulBEq α] {P : α → β → Prop} {l : List (α × β)} (h : ∀ p ∈ l, P p.1 p.2) (n : α) (b : β) (e : l.lookup n = some b) : P n b := by
  induction l with
  | nil => cases e
  | cons p l ih =>
    obtain ⟨x, y⟩ := p
    rw [List.lookup_cons] at e
    cases q : n == x with
    | true =>
      rw [q] at e
      have e2 : y = b := Option.some.inj e
      have := eq_of_beq q
      subst this e2
      exact h _ (List.mem_cons_self ..)
    | false =>
      rw [q] at e
      exact ih (fun p hp => h p (List.mem_cons_of_mem _ hp)) e
section
variable {K : Fg} {x qual : Str} {params : Arguments} {body : List Stmt} {scope : Scope} {kws : List (Str × V)} {f : Addr} {fd : FuncData}
/-- a call that leaves out nothing, of a def without positional defaults -/
theorem kb_plain (F : FunD K x qual params body scope [] kws f fd) (n : Nat) (ks ps : List Str) (g : {α : Type} → List α → List α → List α)
    (hrel : ∀ {vs zs : List V} {us ws : List Value}, Vals vs us → Vals zs ws → Vals (g vs zs) (g us ws))
    (h : ∀ (kV doc pm : Value) (an : Option Addr) (cdv ct : Value) (us ws : List Value), us.length = n → ws.length = ks.length → bindArgs (PySem.W.fnOf x qual params body scope .none kV doc pm an cdv ct) ⟨us, ks.zip ws⟩ = pure (ps.zip (g us ws))) :
    KBn K fd ps n ks (fun us ws => g us ws) (fun vs zs => g vs zs) := by
  obtain ⟨oc, od, dV, kV, doc, pm, an, cdv, ct, osl, rfl, lk, hcd, hD, hK⟩ := F.ex
  rcases hD with ⟨_, rfl⟩ | ⟨e, _⟩
  · exact ⟨fun s us ws _ l1 l2 => .of_eq (h kV doc pm an cdv ct us ws l1 l2), fun r1 r2 => hrel r1 r2⟩
  · exact absurd rfl e
end
theorem kit_sub {K : Fg} {C : Addr} {t : Value} {b : Bool} (h1 : PySem.W.isClsIn K C = true) (h2 : PySem.W.typeIn K (.ref C) = some (.type "type")) (hn : (t == Value.ref C) = false) (h3 : PySem.W.subIn K t (.ref C) = some b) : PySem.W.kitOne K t (.ref C) = some b := by
  unfold PySem.W.kitOne
  rw [hn, if_neg Bool.false_ne_true]
  unfold PySem.W.kitCls
  have h4 : (PySem.W.clsIn K C).isSome = true := h1
  simp only [h4, h2]
  exact h3
theorem kit_self {K : Fg} {C : Addr} : PySem.W.kitOne K (.ref C) (.ref C) = some true := by
  unfold PySem.W.kitOne
  rw [if_pos (by simp)]
/-! ### len(set(xs)) -/
def keysOf : List D → Option (List Key)
  | [] => some []
  | d :: ds => match keyOf d, keysOf ds with
    | some k, some ks => some (k :: ks)
    | _, _ => none
def d_lenset : D → Option D := fun d => match d with
  | .lst ds => (keysOf ds).bind fun ks => if ks.length ≤ 4000 then some (.int ((dd [] ks).length : Nat)) else none
  | .tup ds => (keysOf ds).bind fun ks => if ks.length ≤ 4000 then some (.int ((dd [] ks).length : Nat)) else none
  | _ => none
theorem keysOf_V {K : Fg} {mg : Mg} {G : Hp} {ad : List Addr} : ∀ {vs : List V} {ds : List D} {ks : List Key}, Reps K mg G ad vs ds → keysOf ds = some ks → vs = ks.map kV
  | _, _, _, .nil, e => by cases e; rfl
  | _, _, _, .cons r t, e => by
    unfold keysOf at e
    split at e
    · rename_i k ks h1 h2
      cases e
      rw [keyOf_V r h1, keysOf_V t h2]
      rfl
    · cases e
section
variable {X : Cx} {W : WX} {a : Expr} {p p2 q pos : Pos} {m : ME}
theorem E_lenK (hg : Gl X "len") (hm : X.mg "len" = none) (hg2 : Gl X "set") (hm2 : X.mg "set" = none) (ha : PE X a (Ee X.g X.mg W m)) (hc : X.calm = true := by rfl)
    (na : starEach [a] X.env = (false, eval a X.env) :: starEach [] X.env := by rfl) : PE X (.Call (.Name "len" p) [.Call (.Name "set" p2) [a] [] q] [] pos) (Ee X.g X.mg W (e_op1 d_lenset m)) :=
  pe_of (pe_lenK hg hm hg2 hm2 ha hc na) fun σ H Q qq => by
    refine (bindE (f := fun ρ d S1 => liftO S1 ((deref ρ S1 d).bind d_lenset)) qq).imp fun x H1 g => ?_
    obtain ⟨O, ad, S, ρ, d, s, fr, r1, k⟩ := g
    obtain ⟨z, ez⟩ := liftO_ok k
    obtain ⟨d', ed, ez⟩ := Option.bind_eq_some_iff.mp ez
    rw [ed] at k
    simp only [Option.bind_some, ez, liftO] at k
    have rx := deref_rep fr s r1 ed
    have fin : ∀ (ks : List Key), (if ks.length ≤ 4000 then some (D.int ((dd [] ks).length : Nat)) else none) = some z → ks.length ≤ 4000 ∧ Q (.int ((dd [] ks).length : Nat)) H1 := fun ks e => by
      split at e
      · rename_i hl
        cases e
        exact ⟨hl, k (.int _) O ad H1 (.refl _ _ _) s (repR_of (d := .int _) (.int _))⟩
      · cases e
    cases d' with
    | lst ds =>
      obtain ⟨ks, h1, h2⟩ := Option.bind_eq_some_iff.mp (show (keysOf ds).bind _ = some z from ez)
      obtain ⟨l, vs, rfl, g1, g2⟩ := rx.lst
      obtain ⟨f1, f2⟩ := fin ks h2
      exact ⟨l, ks, rfl, .inl (by rw [← keysOf_V g2 h1]; exact g1), f1, f2⟩
    | tup ds =>
      obtain ⟨ks, h1, h2⟩ := Option.bind_eq_some_iff.mp (show (keysOf ds).bind _ = some z from ez)
      obtain ⟨l, vs, rfl, g1, g2⟩ := rx.tup
      obtain ⟨f1, f2⟩ := fin ks h2
      exact ⟨l, ks, rfl, .inr (by rw [← keysOf_V g2 h1]; exact g1), f1, f2⟩
    | _ => cases ez
end
/-! ### a, b = x, y -/
def s_par (i j : Nat) (r : MA) : MS := fun ρ S => match r ρ S with
  | .ok [x, y] S1 => if isLoc x = true ∨ isLoc y = true then .no else .nx ((ρ.set i (.va x)).set j (.va y)) S1
  | .ok _ _ => .no
  | .er x fs S1 => .ex x fs ρ S1
  | .no => .no
theorem w_par {K : Fg} {mg : Mg} {W : WX} {i j : Nat} {r : MA} : ∀ Dn σ H, Ss K mg W (s_par i j r) Dn σ H → tPar i j (Ea K mg W r) Dn σ H := by
  rintro Dn σ H ⟨c, O, ad, S, ρ, z, k⟩
  refine ⟨O, ad, S, ρ, z.sto, z.fre, ?_⟩
  unfold s_par at k
  cases e : r ρ S with
  | ok ds S1 =>
    simp only [e] at k
    intro vs O' ad' H' t z' rr
    cases rr with
    | nil => exact k.elim
    | @cons v x vs ds rx rr =>
      cases rr with
      | nil => exact k.elim
      | @cons w y vs ds ry rr =>
        cases rr with
        | cons _ _ => exact k.elim
        | nil =>
          dsimp only at k
          split at k
          · exact k.elim
          · rename_i hc
            have hx : isLoc x = false := Bool.eq_false_iff.mpr fun q => hc (.inl q)
            have hy : isLoc y = false := Bool.eq_false_iff.mpr fun q => hc (.inr q)
            exact ⟨v, w, rfl, k _ _ _ _ (t.grow z.sto.hid) (((z.step t z').set_va (rx.rep hx)).set_va (ry.rep hy))⟩
  | er x fs S1 =>
    simp only [e] at k
    exact fun cls dd O' ad' H' t z' r => k cls dd σ O' ad' H' (t.grow z.sto.hid) (z.step t z') r
  | no => simp only [e] at k; exact k
theorem S_par {X : Cx} {W : WX} {i j : Nat} {x y : Str} {a b : Expr} {r : MA} {px py pt pos : Pos} {kt k2 pt2} (hc : X.calm = true) (hN : X.N.Nodup) (hi : X.N[i]? = some x) (hj : X.N[j]? = some y) (hij : i ≠ j)
    (hx : X.env.scope.names.lookup x = some .local) (hy : X.env.scope.names.lookup y = some .local) (ha : PA X [a, b] (Ea X.g X.mg W r))
    (hw : swappedStores [.Tuple [.Name x px, .Name y py] kt pt] (.Tuple [a, b] k2 pt2) X.env = pure (some [x, y]) := by rfl)
    (hs : swapsWithSole [.Tuple [.Name x px, .Name y py] kt pt] (.Tuple [a, b] k2 pt2) pos.line X.env = pure false := by rfl) :
    PS X (.Assign [.Tuple [.Name x px, .Name y py] kt pt] (.Tuple [a, b] k2 pt2) pos) (Ss X.g X.mg W (s_par i j r)) := ps_of (ps_par hc hN hi hj hij hx hy ha hw hs) w_par
theorem T_eqO {X : Cx} {W : WX} {k : Nat} {f C : Addr} {fd : FuncData} {ps : List Str} {c : Str} {pos : Pos} {a b : Expr} {ma mb : ME} {n j : Nat} {mB : MS} (T : ClsAt X.g X.mg c C) (hs : PySem.W.findIn X.g (.ref C) "__eq__" = some (some (.ref f))) (hf : PySem.W.isFn X.g (.ref f) = true) (F : FnOk X.prog X.w X.g X.mg X.base (L2.CX X.prog X.w) k f fd ps (SpM X.g X.mg j (Gd.fn n mB j))) (hb : Binds X.g fd ps []) (hr : Room k X.A)
    (ha : PE X a (Ee X.g X.mg W ma)) (hb' : PE X b (Ee X.g X.mg W mb)) : PT X (.Compare a [.Eq] [b] pos) (Et X.g X.mg W (t_e (e_eqO c (Gd.fn n mB j) ma mb))) := pt_of (pt_cmpR (op_eqO hs hf F hb hr) ha hb' (nomark _)) (w_test (w_eqO T fn_len))
end Gd

/-! Gd, part 19: dicts are read: d[k], k in d, len(d), d == e. -/
namespace Gd
open PySem L2 PyProof.Rows

def kget {κ : Type} [DecidableEq κ] (kvs : List (κ × D)) (k : κ) : Option D := (kvs.find? fun kv => decide (kv.1 = k)).map (·.2)
theorem kget_pos {κ : Type} [DecidableEq κ] {p : κ × D} {r : List (κ × D)} {k : κ} (h : p.1 = k) : kget (p :: r) k = some p.2 := by unfold kget; rw [List.find?_cons_of_pos (by simpa using h)]; rfl
theorem kget_neg {κ : Type} [DecidableEq κ] {p : κ × D} {r : List (κ × D)} {k : κ} (h : ¬ p.1 = k) : kget (p :: r) k = kget r k := by unfold kget; rw [List.find?_cons_of_neg (by simpa using h)]
section
variable {K : Fg} {mg : Mg} {G : Hp} {ad : List Addr}
theorem RepK.get {k : Key} {vs : List (Key × V)} {ds : List (Key × D)} (r : RepK K mg G ad vs ds) : (∀ d, kget ds k = some d → ∃ v, valV vs k = some v ∧ Rep K mg G ad v d) ∧ (kget ds k = none → valV vs k = none) := by
  induction vs generalizing ds with
  | nil => cases r; exact ⟨fun d h => (nomatch h), fun _ => rfl⟩
  | cons p vs ih =>
    cases r with
    | @cons k2 v d2 vs2 ds2 a b =>
      by_cases e : k2 = k
      · rw [kget_pos (p := (k2, d2)) e, valV_pos (p := (k2, v)) e]
        exact ⟨fun d h => (by cases h; exact ⟨v, rfl, a⟩), fun h => nomatch h⟩
      · rw [kget_neg (p := (k2, d2)) e, valV_neg (p := (k2, v)) e]
        exact ih b
theorem RepL.get {k : Leaf} {vs : List (Leaf × V)} {ds : List (Leaf × D)} (r : RepL K mg G ad vs ds) : (∀ d, kget ds k = some d → ∃ v, valV vs k = some v ∧ Rep K mg G ad v d) ∧ (kget ds k = none → valV vs k = none) := by
  induction vs generalizing ds with
  | nil => cases r; exact ⟨fun d h => (nomatch h), fun _ => rfl⟩
  | cons p vs ih =>
    cases r with
    | @cons k2 v d2 vs2 ds2 a b =>
      by_cases e : k2 = k
      · rw [kget_pos (p := (k2, d2)) e, valV_pos (p := (k2, v)) e]
        exact ⟨fun d h => (by cases h; exact ⟨v, rfl, a⟩), fun h => nomatch h⟩
      · rw [kget_neg (p := (k2, d2)) e, valV_neg (p := (k2, v)) e]
        exact ih b
theorem RepL.length {kvs : List (Leaf × V)} {ds : List (Leaf × D)} (r : RepL K mg G ad kvs ds) : kvs.length = ds.length := by
  induction kvs generalizing ds with
  | nil => cases r; rfl
  | cons p vs ih => cases r with | cons a b => simp [ih b]
end
/-- the entries of a dict whose keys are ints and texts -/
def asDct : D → Option (List (Key × D))
  | .dct l => some l
  | .dcf l => some l
  | _ => none
def leafOf : D → Option Leaf
  | .non => some .none
  | .int i => some (.num i)
  | .str x => some (.text x)
  | _ => none
def leafV : Leaf → V
  | .none => .non
  | .num i => .int i
  | .text x => .str x
section
variable {K : Fg} {mg : Mg} {O : Addr → Prop} {ad : List Addr} {H : Hp} {x : V}
theorem RepS.asDct {d : D} {ds : List (Key × D)} (r : RepS K mg O ad H x d) (h : Gd.asDct d = some ds) : ∃ a vs, x = .ref a ∧ Rd H a (.dK vs) ∧ RepK K mg (hide O H) ad vs ds := by
  cases d with
  | dct l => cases h; exact r.dct
  | dcf l =>
    cases h
    rcases r with r | ⟨a, e, ob, vs, h1, h2⟩
    · cases r with | dcf h1 h2 => exact ⟨_, _, rfl, .inr ⟨_, un_hide _ _ h1⟩, h2⟩
    · exact ⟨a, vs, e, .inr ⟨ob, h1⟩, h2⟩
  | _ => cases h
theorem RepS.dcl {ds : List (Leaf × D)} (r : RepS K mg O ad H x (.dcl ds)) : ∃ a vs, x = .ref a ∧ Rd H a (dL K a vs) ∧ RepL K mg (hide O H) ad vs ds := by
  rcases r with r | ⟨a, e, vs, h1, h2⟩
  · cases r with | dcl h1 h2 => exact ⟨_, _, rfl, rd_mono un_hide h1, h2⟩
  · exact ⟨a, vs, e, .inl h1, h2⟩
theorem leafS {d : D} {k : Leaf} (r : RepS K mg O ad H x d) (h : leafOf d = some k) : x = leafV k := by
  cases d <;> cases h
  · exact r.non
  · exact r.int
  · exact r.str
end
theorem leaf_is {P : Program} {w : World} {k : Leaf} {u : Value} (r : RelV (leafV k) u) : (leafKind P w).is k u = true := by
  cases k with
  | none => cases (show u = Value.none from r); rfl
  | num i => obtain ⟨t, e⟩ := (show ∃ t, u = Value.int i t from r); subst e; exact decide_eq_true rfl
  | text x => obtain ⟨t, e⟩ := (show ∃ t, u = Value.str x t from r); subst e; exact keyIs_str x t
/-- d[k] -/
def d_ixD : D → D → Option D := fun d e => match d with
  | .dct l => (keyOf e).bind (kget l)
  | .dcf l => (keyOf e).bind (kget l)
  | .dcl l => (leafOf e).bind (kget l)
  | _ => none
def d_hasD : D → D → Option Bool := fun d e => match d with
  | .dct l => (keyOf e).map fun k => (kget l k).isSome
  | .dcf l => (keyOf e).map fun k => (kget l k).isSome
  | .dcl l => (leafOf e).map fun k => (kget l k).isSome
  | _ => none
def d_inD (neg : Bool) : D → D → Option D := fun e d => (d_hasD d e).map fun b => .bl (if neg then !b else b)
/-- what the dict at a holds at y -/
def LGet (K : Fg) (H : Hp) (a : Addr) (y : V) (r : Option V) : Prop := DGet H a y r ∨ ∃ kvs k, Rd H a (dL K a kvs) ∧ y = leafV k ∧ r = valV kvs k
def rIxDv (K : Fg) : R2 := fun x y H Q => ∃ a v, x = .ref a ∧ LGet K H a y (some v) ∧ Q v H
def rInDv (K : Fg) (neg : Bool) : R2 := fun y x H Q => ∃ a o, x = .ref a ∧ LGet K H a y o ∧ Q (.bl (if neg then !o.isSome else o.isSome)) H
section
variable {K : Fg} {mg : Mg}
theorem lget_of {O : Addr → Prop} {ad : List Addr} {H : Hp} {x y : V} {d e : D} (rx : RepS K mg O ad H x d) (ry : RepS K mg O ad H y e) :
    (∀ z, d_ixD d e = some z → ∃ a v, x = .ref a ∧ LGet K H a y (some v) ∧ Rep K mg (hide O H) ad v z) ∧ (∀ b, d_hasD d e = some b → ∃ a o, x = .ref a ∧ LGet K H a y o ∧ o.isSome = b) := by
  have one : ∀ l : List (Key × D), Gd.asDct d = some l → (∀ z, (keyOf e).bind (kget l) = some z → ∃ a v, x = .ref a ∧ LGet K H a y (some v) ∧ Rep K mg (hide O H) ad v z) ∧ (∀ b, ((keyOf e).map fun k => (kget l k).isSome) = some b → ∃ a o, x = .ref a ∧ LGet K H a y o ∧ o.isSome = b) := by
    intro l hl
    obtain ⟨a, vs, rfl, h1, h2⟩ := rx.asDct hl
    have key : ∀ k, keyOf e = some k → y = kV k := fun k hk => by
      cases e <;> cases hk
      · exact ry.int
      · exact ry.str
    constructor
    · intro z hz
      obtain ⟨k, hk, hz⟩ := Option.bind_eq_some_iff.mp hz
      obtain ⟨v, h3, h4⟩ := (h2.get (k := k)).1 z hz
      exact ⟨a, v, rfl, .inl (.inl ⟨vs, k, h1, key k hk, h3.symm⟩), h4⟩
    · intro b hb
      obtain ⟨k, hk, rfl⟩ := Option.map_eq_some_iff.mp hb
      refine ⟨a, valV vs k, rfl, .inl (.inl ⟨vs, k, h1, key k hk, rfl⟩), ?_⟩
      cases hg : kget l k with
      | none => rw [(h2.get (k := k)).2 hg]; rfl
      | some z =>
        obtain ⟨v, h3, _⟩ := (h2.get (k := k)).1 z hg
        rw [h3]; rfl
  cases d with
  | dct l => exact one l rfl
  | dcf l => exact one l rfl
  | dcl l =>
    obtain ⟨a, vs, rfl, h1, h2⟩ := rx.dcl
    constructor
    · intro z hz
      obtain ⟨k, hk, hz⟩ := Option.bind_eq_some_iff.mp hz
      obtain ⟨v, h3, h4⟩ := (h2.get (k := k)).1 z hz
      exact ⟨a, v, rfl, .inr ⟨vs, k, h1, leafS ry hk, h3.symm⟩, h4⟩
    · intro b hb
      obtain ⟨k, hk, rfl⟩ := Option.map_eq_some_iff.mp hb
      refine ⟨a, valV vs k, rfl, .inr ⟨vs, k, h1, leafS ry hk, rfl⟩, ?_⟩
      cases hg : kget l k with
      | none => rw [(h2.get (k := k)).2 hg]; rfl
      | some z =>
        obtain ⟨v, h3, _⟩ := (h2.get (k := k)).1 z hg
        rw [h3]; rfl
  | _ => exact ⟨fun _ h => (by cases h), fun _ h => (by cases h)⟩
theorem op_dIxD : OpP K mg (rIxDv K) d_ixD := by
  intro O ad H x y d e z rx ry h
  obtain ⟨a, v, h1, h2, h3⟩ := (lget_of rx ry).1 z h
  exact res_v h3 fun Q q => ⟨a, v, h1, h2, q⟩
theorem op_dInD {neg : Bool} : OpP K mg (rInDv K neg) (d_inD neg) := by
  intro O ad H y x e d z ry rx h
  obtain ⟨b, hb, rfl⟩ := Option.map_eq_some_iff.mp h
  obtain ⟨a, o, h1, h2, h3⟩ := (lget_of rx ry).2 b hb
  subst h3
  exact res_v (.bl _) fun Q q => ⟨a, o, h1, h2, q⟩
end
section
variable {X : Cx} {pins : List (Addr × Obj)} {σ : L2.St} {H : Hp} {s : Shared}
theorem dl_ok {a : Addr} {kvs : List (Leaf × V)} (I : L2.Inv X pins σ H s) (h : Rd H a (dL X.g a kvs)) : kvs.length ≤ sizeLine ∧ (a == sysModules) = false ∧ ∃ vs, KV kvs vs ∧ s.heap.DictOf (leafKind X.prog X.w) a vs :=
  (show ObjOk X.prog X.w H s.heap a (dL X.g a kvs) from h.ok I.hok).1
theorem ix_dictL (hu : X.A.units + 1 < cLine) : IxR X (rIxDv X.g) := by
  intro value slice pins s σ H x y v u Q I rx ry h hs
  obtain ⟨a, z, rfl, g, q⟩ := h
  obtain rfl : v = Value.ref a := rx
  rcases g with g | ⟨kvs, k, h1, rfl, h2⟩
  · exact tail_any (dict_typeIs I g) slot_dict_getitem.lookup (d_getItem hu I g ry fun w' s' I' r' => ⟨z, H, I', r', q⟩) hs
  · obtain ⟨hz, hd, vs, rel, dd⟩ := dl_ok I h1
    obtain ⟨w', hw, rw'⟩ := RelO.some_of (v := z) (o := valueAt vs k) (by rw [h2]; exact rel.val k)
    exact tail_any dd.typeIs slot_dict_getitem.lookup (wpAny_getItem_of (leaf_is ry) dd.mapOf hw ⟨z, H, I.tok _, rw', q⟩) hs
theorem or_inL (hu : X.A.units + 1 < cLine) : OpR X (compareOp .In) (rInDv X.g false) := by
  intro pins s σ H y x u v Q I ry rx h
  obtain ⟨a, o, rfl, g, q⟩ := h
  obtain rfl : v = Value.ref a := rx
  rcases g with g | ⟨kvs, k, h1, rfl, h2⟩
  · exact L2.d_in hu I g ry fun s' I' => ⟨.bl o.isSome, H, I', rfl, q⟩
  · obtain ⟨hz, hd, vs, rel, dd⟩ := dl_ok I h1
    refine wpAny_in_of (leaf_is ry) hd dd.mapOf ?_
    rw [← (rel.val k).isSome_eq, ← h2]
    exact ⟨.bl o.isSome, H, I.tok _, rfl, q⟩
theorem or_ninL (hu : X.A.units + 1 < cLine) : OpR X (compareOp .NotIn) (rInDv X.g true) := by
  intro pins s σ H y x u v Q I ry rx h
  obtain ⟨a, o, rfl, g, q⟩ := h
  obtain rfl : v = Value.ref a := rx
  rcases g with g | ⟨kvs, k, h1, rfl, h2⟩
  · exact L2.d_notIn hu I g ry fun s' I' => ⟨.bl (!o.isSome), H, I', rfl, q⟩
  · obtain ⟨hz, hd, vs, rel, dd⟩ := dl_ok I h1
    refine wpAny_notIn_of (leaf_is ry) hd dd.mapOf ?_
    rw [← (rel.val k).isSome_eq, ← h2]
    exact ⟨.bl (!o.isSome), H, I.tok _, rfl, q⟩
end
/-! ### all kinds together -/
def d_ix5 : D → D → Option D := fun d e => (d_ix d e).or (d_ixD d e)
def d_in5 (neg : Bool) : D → D → Option D := fun d e => (d_in neg d e).or (d_inD neg d e)
section
variable {X : Cx} {W : WX} {a b : Expr} {ma mb : ME} {pos : Pos}
theorem E_index5 (hu : X.A.units + 64 < cLine) (ha : PE X a (Ee X.g X.mg W ma)) (hb : PE X b (Ee X.g X.mg W mb)) (hs : PlainIx b) : PE X (.Subscript a b pos) (Ee X.g X.mg W (e_op2 d_ix5 ma mb)) :=
  E_ix (ix_seq.or (ix_dictL (by omega))) (op_dIx.or op_dIxD) hs ha hb
theorem or_in5 (hu : X.A.units + 64 < cLine) : OpR X (compareOp .In) (fun x y H Q => rIn2 X.g false x y H Q ∨ rInDv X.g false x y H Q) := or_in.or (or_inL (by omega))
theorem or_nin5 (hu : X.A.units + 64 < cLine) : OpR X (compareOp .NotIn) (fun x y H Q => rIn2 X.g true x y H Q ∨ rInDv X.g true x y H Q) := or_nin.or (or_ninL (by omega))
theorem op_dIn5 {neg : Bool} : OpP X.g X.mg (fun x y H Q => rIn2 X.g neg x y H Q ∨ rInDv X.g neg x y H Q) (d_in5 neg) := op_dIn.or op_dInD
end
/-! ### len -/
def d_lenD : D → Option D
  | .dct l => some (.int l.length)
  | .dcf l => some (.int l.length)
  | .dcl l => some (.int l.length)
  | _ => none
def d_len5 : D → Option D := fun d => (d_len d).or (d_lenD d)
def rLenDv (K : Fg) : List V → Hp → VK → Prop := fun xs H Q => ∃ a, xs = [.ref a] ∧ ((∃ kvs, Rd H a (.dK kvs) ∧ Q (.int kvs.length) H) ∨ ∃ kvs, Rd H a (dL K a kvs) ∧ Q (.int kvs.length) H)
section
variable {X : Cx} {K : Fg} {mg : Mg}
theorem cr_lenD : CallR X (.builtin "len") (rLenDv X.g) := by
  intro pins s σ H xs us Q I r h
  obtain ⟨a, rfl, ⟨kvs, h1, q⟩ | ⟨kvs, h1, q⟩⟩ := h
  · obtain ⟨u, rfl, rx⟩ := vals1 r
    obtain rfl : u = Value.ref a := rx
    exact L2.d_len I h1 fun t s' I' => ⟨.int kvs.length, H, I', ⟨t, rfl⟩, q⟩
  · obtain ⟨u, rfl, rx⟩ := vals1 r
    obtain rfl : u = Value.ref a := rx
    obtain ⟨z, hd, vs, rel, dd⟩ := dl_ok I h1
    refine call_len_dict hd dd (by rw [← rel.length]; rw [sizeLine_eq] at z; omega) ?_
    rw [← rel.length]
    exact ⟨.int kvs.length, H, I.tok _, ⟨_, rfl⟩, q⟩
theorem cp_lenD : CallP K mg (rLenDv K) (d_1 d_lenD) := by
  intro O ad H vs ds z p h
  obtain ⟨d, rfl, h⟩ := d_1_some h
  obtain ⟨x, rfl, r⟩ := paired1 p
  have one : ∀ l : List (Key × D), Gd.asDct d = some l → z = .int l.length → Res K mg O ad H z (rLenDv K [x] H) := by
    intro l hl hz
    obtain ⟨a, vs, rfl, h1, h2⟩ := r.asDct hl
    subst hz
    exact res_v (.int _) fun Q q => ⟨a, rfl, .inl ⟨vs, h1, by rw [h2.length]; exact q⟩⟩
  cases d with
  | dct l => cases h; exact one l rfl rfl
  | dcf l => cases h; exact one l rfl rfl
  | dcl l =>
    cases h
    obtain ⟨a, vs, rfl, h1, h2⟩ := r.dcl
    exact res_v (.int _) fun Q q => ⟨a, rfl, .inr ⟨vs, h1, by rw [h2.length]; exact q⟩⟩
  | _ => cases h
theorem CallP.or {r r' : List V → Hp → VK → Prop} {f g : List D → Option D} (h : CallP K mg r f) (h' : CallP K mg r' g) : CallP K mg (fun xs H Q => r xs H Q ∨ r' xs H Q) (fun d => (f d).or (g d)) := by
  intro O ad H vs ds z p e
  have e : (f ds).or (g ds) = some z := e
  cases e1 : f ds with
  | some y =>
    rw [e1] at e
    cases e
    exact (h O ad H vs ds z p e1).imp fun Q q => .inl q
  | none =>
    rw [e1] at e
    exact (h' O ad H vs ds z p e).imp fun Q q => .inr q
theorem cr_len5 : CallR X (.builtin "len") (fun xs H Q => rLen2 X.g xs H Q ∨ rLenDv X.g xs H Q) := cr_len2.or cr_lenD
theorem cp_len5 : CallP K mg (fun xs H Q => rLen2 K xs H Q ∨ rLenDv K xs H Q) (d_1 d_len5) := by
  have h := (cp_len (K := K) (mg := mg)).or cp_lenD
  have e : (fun d => (d_1 d_len d).or (d_1 d_lenD d)) = d_1 d_len5 := by
    funext ds
    match ds with
    | [] => rfl
    | [d] => rfl
    | _ :: _ :: _ => rfl
  rw [← e]
  exact h
end
end Gd

/-! Gd, part 20: dicts compared, a dict with None as its key. -/
namespace Gd
open PySem L2 PyProof.Rows

theorem roomU {k : Nat} {A : Around} (r : L2.Room k A) : A.units + 100 < cLine := by have := r.un; omega
def leafK : Key → Leaf
  | .inl i => .num i
  | .inr x => .text x
theorem leafK_inj {a b : Key} (h : leafK a = leafK b) : a = b := by
  cases a <;> cases b <;> simp [leafK] at h <;> rw [h]
theorem leaf_mix {P : Program} {w : World} {k : Key} {v : Value} (h : (mixKind P w).is k v = true) : (leafKind P w).is (leafK k) v = true := by
  rcases keyIs_shape h with ⟨i, t, rfl, rfl⟩ | ⟨x, t, rfl, rfl⟩
  · exact decide_eq_true rfl
  · exact keyIs_str x t
theorem leaf_hash {P : Program} {w : World} (k : Key) : (leafKind P w).hash (leafK k) = (mixKind P w).hash k := by
  cases k <;> rfl
theorem dictOf_leaf {P : Program} {w : World} {h : Heap} {a : Addr} {vs : List (Key × Value)} (d : h.DictOf (mixKind P w) a vs) : h.DictOf (leafKind P w) a (vs.map fun kv => (leafK kv.1, kv.2)) := by
  obtain ⟨o, es, ep, h1, h2, h3, h4, h5, h6⟩ := d
  refine ⟨o, es, ep, h1, h2, h3, fun e he => ?_, ?_, ?_⟩
  · obtain ⟨k, k1, k2⟩ := h4 e he
    exact ⟨leafK k, leaf_mix k1, by rw [leaf_hash]; exact k2⟩
  · generalize es.toList = l at h5
    clear h6
    induction h5 with
    | nil => exact .nil
    | cons a b _ ih => exact .cons (leaf_mix a) b ih
  · rw [List.map_map]
    have : (vs.map ((fun x => x.1) ∘ fun kv => (leafK kv.1, kv.2))) = (vs.map (·.1)).map leafK := by rw [List.map_map]; rfl
    rw [this]
    exact List.pairwise_map.mpr (h6.imp fun n e => n (leafK_inj e))
theorem kv_leaf {kvs : List (Key × V)} {vs : List (Key × Value)} (r : KV kvs vs) : KV (kvs.map fun kv => (leafK kv.1, kv.2)) (vs.map fun kv => (leafK kv.1, kv.2)) := by
  unfold KV at r ⊢
  induction r with
  | nil => exact .nil
  | cons a b ih => exact .cons ⟨congrArg leafK a.1, a.2⟩ ih
/-- the entries of any dict -/
def asL : D → Option (List (Leaf × D))
  | .dct l => some (l.map fun kv => (leafK kv.1, kv.2))
  | .dcf l => some (l.map fun kv => (leafK kv.1, kv.2))
  | .dcl l => some l
  | _ => none
/-- the dict at a holds these -/
def HasL (K : Fg) (H : Hp) (a : Addr) (vs : List (Leaf × V)) : Prop := (∃ kvs, Rd H a (.dK kvs) ∧ vs = kvs.map fun kv => (leafK kv.1, kv.2)) ∨ Rd H a (dL K a vs)
section
variable {K : Fg} {mg : Mg}
theorem repL_of {G : Hp} {ad : List Addr} {vs : List (Key × V)} {ds : List (Key × D)} (r : RepK K mg G ad vs ds) : RepL K mg G ad (vs.map fun kv => (leafK kv.1, kv.2)) (ds.map fun kv => (leafK kv.1, kv.2)) := by
  induction vs generalizing ds with
  | nil => cases r; exact .nil
  | cons p vs ih => cases r with | cons a b => exact .cons a (ih b)
theorem RepS.asL {O : Addr → Prop} {ad : List Addr} {H : Hp} {x : V} {d : D} {ds : List (Leaf × D)} (r : RepS K mg O ad H x d) (h : Gd.asL d = some ds) : ∃ a vs, x = .ref a ∧ HasL K H a vs ∧ RepL K mg (hide O H) ad vs ds := by
  cases d with
  | dct l =>
    cases h
    obtain ⟨a, vs, h1, h2, h3⟩ := r.asDct (d := .dct l) rfl
    exact ⟨a, _, h1, .inl ⟨vs, h2, rfl⟩, repL_of h3⟩
  | dcf l =>
    cases h
    obtain ⟨a, vs, h1, h2, h3⟩ := r.asDct (d := .dcf l) rfl
    exact ⟨a, _, h1, .inl ⟨vs, h2, rfl⟩, repL_of h3⟩
  | dcl l =>
    cases h
    obtain ⟨a, vs, h1, h2, h3⟩ := r.dcl
    exact ⟨a, vs, h1, .inr h2, h3⟩
  | _ => cases h
end
theorem hasL_ok {X : Cx} {pins : List (Addr × Obj)} {σ : L2.St} {H : Hp} {s : Shared} {a : Addr} {kvs : List (Leaf × V)} (I : L2.Inv X pins σ H s) (h : HasL X.g H a kvs) : (a == sysModules) = false ∧ ∃ vs, KV kvs vs ∧ s.heap.DictOf (leafKind X.prog X.w) a vs := by
  rcases h with ⟨kvs, h, rfl⟩ | h
  · obtain ⟨z, hd, vs, rel, dd⟩ := dk_rd I.hok h
    exact ⟨hd, _, kv_leaf rel, dictOf_leaf dd⟩
  · obtain ⟨z, hd, vs, rel, dd⟩ := dl_ok I h
    exact ⟨hd, vs, rel, dd⟩
/-! ### == -/
/-- what the walk over the left dict's entries comes to -/
def hitsD (r : List (Leaf × D)) : List (Leaf × D) → Option Bool
  | [] => some true
  | (k, x) :: t => match kget r k with
    | none => some false
    | some y => (eqDp x y).bind fun e => (hitsD r t).map fun b => e && b
def eqDc (d e : D) : Option Bool := match asL d, asL e with
  | some l, some r => if l.length = r.length then hitsD r l else some false
  | _, _ => none
inductive HitsV (K : Fg) (H : Hp) (ks : List (Leaf × V)) : List (Leaf × V) → Bool → Prop where
  | nil : HitsV K H ks [] true
  | miss {k : Leaf} {v : V} {r : List (Leaf × V)} : valV ks k = none → HitsV K H ks ((k, v) :: r) false
  | hit {k : Leaf} {v y : V} {r : List (Leaf × V)} {p q : PyData} {b : Bool} : valV ks k = some y → Dp K H v p → Dp K H y q → SeqAt.shaped p = true → SeqAt.shaped q = true → HitsV K H ks r b → HitsV K H ks ((k, v) :: r) (PyData.eqv p q && b)
def rEqL (K : Fg) (neg : Bool) : R2 := fun x y H Q => ∃ a b vs us c, x = .ref a ∧ y = .ref b ∧ HasL K H a vs ∧ HasL K H b us ∧ (vs.length = us.length → HitsV K H us vs c) ∧ Q (.bl (if neg then !(decide (vs.length = us.length) && c) else decide (vs.length = us.length) && c)) H
section
variable {K : Fg} {mg : Mg}
theorem hitsV_of {O : Addr → Prop} {ad : List Addr} {H : Hp} {us : List (Leaf × V)} {rs : List (Leaf × D)} (ru : RepL K mg (hide O H) ad us rs) : ∀ {vs : List (Leaf × V)} {ls : List (Leaf × D)} {b : Bool}, RepL K mg (hide O H) ad vs ls → hitsD rs ls = some b → HitsV K H us vs b
  | _, [], b, r, h => by cases r; cases h; exact .nil
  | _, (k, x) :: t, b, r, h => by
    cases r with
    | @cons _ v _ vs _ ra rb =>
      unfold hitsD at h
      cases hg : kget rs k with
      | none =>
        rw [hg] at h
        cases h
        exact .miss ((ru.get (k := k)).2 hg)
      | some y =>
        rw [hg] at h
        obtain ⟨yv, h1, h2⟩ := (ru.get (k := k)).1 y hg
        obtain ⟨e, he, h⟩ := Option.bind_eq_some_iff.mp h
        obtain ⟨c, hc, rfl⟩ := Option.map_eq_some_iff.mp h
        obtain ⟨p, q, k1, k2, k3, k4, rfl⟩ := eqDp_some he
        exact .hit h1 (RepS.dp (RepS.of ra) k1) (RepS.dp (RepS.of h2) k2) k3 k4 (hitsV_of ru rb hc)
theorem repL_len {G : Hp} {ad : List Addr} {vs : List (Leaf × V)} {ds : List (Leaf × D)} (r : RepL K mg G ad vs ds) : vs.length = ds.length := r.length
theorem op_eqL {neg : Bool} : OpP K mg (rEqL K neg) (fun d e => (eqDc d e).map fun b => .bl (if neg then !b else b)) := by
  intro O ad H x y d e z rx ry h
  obtain ⟨b, hb, rfl⟩ := Option.map_eq_some_iff.mp h
  unfold eqDc at hb
  split at hb
  · rename_i l r hl hr
    obtain ⟨a, vs, rfl, h1, h2⟩ := rx.asL hl
    obtain ⟨a2, us, rfl, h3, h4⟩ := ry.asL hr
    refine res_v (.bl _) fun Q q => ?_
    split at hb
    · rename_i hlen
      have hv : vs.length = us.length := by rw [h2.length, h4.length]; exact hlen
      refine ⟨a, a2, vs, us, b, rfl, rfl, h1, h3, fun _ => hitsV_of h4 h2 hb, ?_⟩
      rw [decide_eq_true hv]
      simpa using q
    · rename_i hlen
      cases hb
      have hv : ¬ vs.length = us.length := by rw [h2.length, h4.length]; exact hlen
      refine ⟨a, a2, vs, us, true, rfl, rfl, h1, h3, fun e => (hv e).elim, ?_⟩
      rw [decide_eq_false hv]
      simpa using q
  · cases hb
end
section
variable {X : Cx}
theorem hits_of {pins : List (Addr × Obj)} {σ : L2.St} {H : Hp} {s : Shared} (I : L2.Inv X pins σ H s) (hu : X.A.units + 100 < cLine) {us : List (Leaf × V)} {ws : List (Leaf × Value)} (ru : KV us ws) :
    ∀ {vs : List (Leaf × V)} {zs : List (Leaf × Value)} {c : Bool}, KV vs zs → HitsV X.g H us vs c → PySem.W.KeqHits X.A.in1 s ws zs c := by
  intro vs zs c r h
  induction h generalizing zs with
  | nil => cases r; exact .nil
  | @miss k v r1 hk =>
    cases r with
    | @cons p q ps qs a t =>
      obtain ⟨k', u⟩ := q
      obtain rfl : k = k' := a.1
      exact .miss (RelO.none_of (by rw [← hk]; exact ru.val k))
  | @hit k v y r1 p q b hk d1 d2 s1 s2 _ ih =>
    cases r with
    | @cons p' q' ps qs a t =>
      obtain ⟨k', u⟩ := q'
      obtain rfl : k = k' := a.1
      have rr : RelO (some y) (valueAt ws k) := by rw [← hk]; exact ru.val k
      obtain ⟨w', hw, rw'⟩ := rr.some_of
      obtain ⟨as, r1⟩ := Dp.reads I p v u d1 a.2
      obtain ⟨bs, r2⟩ := Dp.reads I q y w' d2 rw'
      have hu1 : X.A.in1.units + 64 < cLine := by
        show X.A.units + 1 + 64 < cLine
        omega
      exact .hit hw (PySem.W.keq_at (A := X.A) r1 r2 s1 s2 hu1) (ih t)
theorem or_eqL (hu : X.A.units + 100 < cLine) : OpR X (compareOp .Eq) (rEqL X.g false) := by
  intro pins s σ H x y v u Q I rx ry h
  obtain ⟨a, b, vs, us, c, rfl, rfl, h1, h2, h3, q⟩ := h
  obtain rfl : v = Value.ref a := rx
  obtain rfl : u = Value.ref b := ry
  obtain ⟨ya, va, ra, da⟩ := hasL_ok I h1
  obtain ⟨yb, vb, rb, db⟩ := hasL_ok I h2
  have l1 := ra.length
  have l2 := rb.length
  refine PySem.W.keq_eq (knd := leafKind X.prog X.w) (r := c) ya yb da db (by omega) (fun e => hits_of I hu rb ra (h3 (by omega))) ⟨.bl (decide (vs.length = us.length) && c), H, I, ?_, q⟩
  show Value.bool _ = Value.bool _
  rw [← l1, ← l2]
  congr 2
theorem or_neL (hu : X.A.units + 100 < cLine) : OpR X (compareOp .NotEq) (rEqL X.g true) := by
  intro pins s σ H x y v u Q I rx ry h
  obtain ⟨a, b, vs, us, c, rfl, rfl, h1, h2, h3, q⟩ := h
  obtain rfl : v = Value.ref a := rx
  obtain rfl : u = Value.ref b := ry
  obtain ⟨ya, va, ra, da⟩ := hasL_ok I h1
  obtain ⟨yb, vb, rb, db⟩ := hasL_ok I h2
  have l1 := ra.length
  have l2 := rb.length
  refine PySem.W.keq_ne (knd := leafKind X.prog X.w) (r := c) ya yb da db (by omega) (fun e => hits_of I hu rb ra (h3 (by omega))) ⟨.bl (!(decide (vs.length = us.length) && c)), H, I, ?_, q⟩
  show Value.bool _ = Value.bool _
  rw [← l1, ← l2]
  congr 3
end
/-! ### all kinds together -/
def d_eq5 : D → D → Option D := fun d e => (d_eq d e).or ((eqDc d e).map fun b => .bl (if false then !b else b))
def d_ne5 : D → D → Option D := fun d e => (d_ne d e).or ((eqDc d e).map fun b => .bl (if true then !b else b))
section
variable {X : Cx}
theorem or_eq5 (hu : X.A.units + 100 < cLine) : OpR X (compareOp .Eq) (fun x y H Q => (rEq x y H Q ∨ rEqD X.g x y H Q) ∨ rEqL X.g false x y H Q) := (or_eq (by omega)).or (or_eqL hu)
theorem or_ne5 (hu : X.A.units + 100 < cLine) : OpR X (compareOp .NotEq) (fun x y H Q => (rNe x y H Q ∨ rNeD X.g x y H Q) ∨ rEqL X.g true x y H Q) := (or_ne (by omega)).or (or_neL hu)
theorem op_dEq5 : OpP X.g X.mg (fun x y H Q => (rEq x y H Q ∨ rEqD X.g x y H Q) ∨ rEqL X.g false x y H Q) d_eq5 := op_dEq.or op_eqL
theorem op_dNe5 : OpP X.g X.mg (fun x y H Q => (rNe x y H Q ∨ rNeD X.g x y H Q) ∨ rEqL X.g true x y H Q) d_ne5 := op_dNe.or op_eqL
end
/-! ### {None: None} -/
def f_none1 : ME := fun _ S => .ok (.dcl [(.none, .non)]) S
def tNone1 (K : Fg) : TE := fun _ H Q => ∀ p, H p = none → Q (.ref p) (upd H p (dL K p [(.none, .non)]))
theorem pe_none1 {X : Cx} {j1 j2 p1 p2 pos} : PE X (.Dict [some (.Constant .none j1 p1)] [.Constant .none j2 p2] pos) (tNone1 X.g) := by
  refine ⟨fun pins s σ H Q I q => ?_⟩
  have hn := I.hok.fresh (Nat.le_refl s.heap.objs.size)
  have I1 := I.laid (a := s.heap.objs.size) (o := .dK []) (h' := s.heap.push { cls := .type "dict", data := .dict #[] }) (t' := s.toks) (fun _ _ q => Heap.get?_push_of_some _ q) (Nat.le_refl _) (dk_empty s.heap I.big)
  refine wpAny_Dict_walk (knd := leafKind X.prog X.w) rfl rfl (fun z => by cases z) (by show 1 ≤ 15; decide) (thn ((pps_cons pe_non pe_non pps_nil).run pins _ σ _ (fun ps H2 => ps = [(.non, .non)] ∧ H2 = upd H s.heap.objs.size (.dK [])) I1 ⟨rfl, rfl⟩) fun ws s2 ⟨ps, H2, I2, rel, e1, e2⟩ => ?_)
  subst e1 e2
  cases rel with
  | @cons a b as bs h t =>
    cases t
    obtain ⟨b1, b2⟩ := b
    obtain rfl : b1 = Value.none := h.1
    obtain rfl : b2 = Value.none := h.2
    obtain ⟨z, hd, vs0, r0, dd⟩ := dk_of I2.hok (upd_same (H := H) (a := s.heap.objs.size) (o := .dK []))
    cases r0
    refine ⟨[(.none, .none)], ⟨rfl, rfl, trivial⟩, dictOf_leaf dd, fun h' dd' hs => ⟨.ref s.heap.objs.size, upd H s.heap.objs.size (dL X.g s.heap.objs.size [(.none, .non)]), ?_, rfl, q _ hn⟩⟩
    have he : ∃ q, h'.get? s.heap.objs.size = some q := let ⟨q, _, _, hq, _⟩ := dd'; ⟨q, hq⟩
    have new : ObjOk X.prog X.w (upd (upd H s.heap.objs.size (.dK [])) s.heap.objs.size (dL X.g s.heap.objs.size [(.none, .non)])) h' s.heap.objs.size (dL X.g s.heap.objs.size [(.none, .non)]) := by
      refine ⟨⟨by rw [sizeLine_eq]; decide, hd, _, ?_, dd'⟩, he, fun h1 h2 ⟨a1, a2, vs, a3, a4⟩ st => ?_⟩
      · exact .cons ⟨rfl, rfl⟩ .nil
      · obtain ⟨o, es, ep, k1, k2⟩ := a4
        exact ⟨a1, a2, vs, a3, o, es, ep, st _ k1, k2⟩
    have := d_write (t' := s2.toks + 1) I2 (by rw [upd_same]; exact True.intro) hs he new
    rw [upd_upd] at this
    exact this
theorem w_none1 {K : Fg} {mg : Mg} {W : WX} : ∀ σ H Q, Ef K mg W f_none1 σ H Q → tNone1 K σ H Q := by
  rintro σ H Q ⟨O, ad, S, ρ, s, fr, k⟩ p hp
  obtain ⟨t, z, np, mr⟩ := new_own (K := K) (mg := mg) (o := dL K p [(.none, .non)]) (d := .dcl [(.none, .non)]) s hp ⟨_, upd_same, .cons .non .nil⟩
  exact k p _ _ _ t z (.inr rfl) np hp mr
theorem F_none1 {X : Cx} {W : WX} {j1 j2 p1 p2 pos} : PE X (.Dict [some (.Constant .none j1 p1)] [.Constant .none j2 p2] pos) (Ef X.g X.mg W f_none1) := pe_of pe_none1 w_none1
end Gd

/-! Gd, part 21: walks over things of the store, too, that must stay as they are; enumerate, zip, items. -/
namespace Gd
open PySem L2 PyProof.Rows
open Classical

abbrev MJ := Ro → Sg → Out (List D × List Nat)
/-- these things of the store are as they were -/
def Same (gs : List Nat) (S0 S : Sg) : Prop := ∀ n ∈ gs, S[n]? = S0[n]?
theorem Same.nil {S0 S : Sg} : Same [] S0 S := fun _ h => nomatch h
abbrev RelS := (Addr → Prop) → List Addr → Sg → Hp → Prop
/-- a walk whose items are ds, as long as ok holds of the state -/
def SrcG (K : Fg) (mg : Mg) (ok : RelS) (J : It) (ds : List D) : Prop :=
  ∃ G Y, Walk J ds.length G Y ∧ (∀ O2 ad2 S2 H2, ok O2 ad2 S2 H2 → Sto K mg O2 ad2 S2 H2 → G H2) ∧ ∀ (i : Nat) H2 x H3 O2 ad2 S2, ok O2 ad2 S2 H2 → Sto K mg O2 ad2 S2 H2 → i < ds.length → Y i H2 x H3 →
    ∃ d, ds[i]? = some d ∧ Stp O2 ad2 H2 O2 ad2 H3 ∧ Sto K mg O2 ad2 S2 H3 ∧ Rep K mg (hide O2 H3) ad2 x d
section
variable (K : Fg) (mg : Mg) (rel : Rel)
def PostJ (W : WX) (ρ : Ro) (σ : L2.St) (R : It → Hp → Prop) (O : Addr → Prop) (ad : List Addr) (H : Hp) : Out (List D × List Nat) → Prop
  | .ok p S' => ∀ O' ad' H' J, Stp O ad H O' ad' H' → Sto K mg O' ad' S' H' → SrcG K mg (fun O2 ad2 S2 H2 => rel O' ad' H' O2 ad2 H2 ∧ Same p.2 S' S2) J p.1 → R J H'
  | .er x fs S' => ∀ cls dd O' ad' H', Stp O ad H O' ad' H' → Sto K mg O' ad' S' H' → XRep K mg O' ad' H' cls dd x fs → W cls dd σ H'
  | .no => False
def Ej (W : WX) (m : MJ) : TI := fun σ H R => ∃ O ad S ρ, Sto K mg O ad S H ∧ Fre K mg O ad ρ σ H ∧ PostJ K mg rel W ρ σ R O ad H (m ρ S)
end
noncomputable def s_loopG (gs : List Nat) (S0 : Sg) (tgt : D → Ro → Option Ro) (b : MS) : List D → MS
  | [] => fun ρ S => if Same gs S0 S then .nx ρ S else .no
  | d :: ds => fun ρ S => if Same gs S0 S then (match tgt d ρ with
    | none => .no
    | some ρ1 => match b ρ1 S with
      | .nx ρ2 S2 => s_loopG gs S0 tgt b ds ρ2 S2
      | .ct ρ2 S2 => s_loopG gs S0 tgt b ds ρ2 S2
      | .bk ρ2 S2 => .nx ρ2 S2
      | o => o) else .no
noncomputable def s_forG (mi : MJ) (tgt : D → Ro → Option Ro) (b : MS) : MS := fun ρ S => match mi ρ S with
  | .ok p S1 => s_loopG p.2 S1 tgt b p.1 ρ S1
  | .er x fs S1 => .ex x fs ρ S1
  | .no => .no
noncomputable def lcLG (gs : List Nat) (S0 : Sg) (tgt : D → Ro → Option Ro) (t : MT) (e : ME) (ρ : Ro) : List D → Sg → Out (List D)
  | [], S => if Same gs S0 S then .ok [] S else .no
  | d :: ds, S => if Same gs S0 S then (match tgt d ρ with
    | none => .no
    | some ρ1 => (noEr (t ρ1 S)).bind fun b S1 => if b = true then (noEr (e ρ1 S1)).bind fun y S2 => if isLoc y = true then .no else (lcLG gs S0 tgt t e ρ ds S2).bind fun ys S3 => .ok (y :: ys) S3 else lcLG gs S0 tgt t e ρ ds S1) else .no
noncomputable def f_lcG (vs : List Nat) (mi : MJ) (tgt : D → Ro → Option Ro) (t : MT) (e : ME) : ME := fun ρ S => (mi ρ S).bind fun p S1 => (lcLG p.2 S1 tgt t e (wipeR ρ vs) p.1 S1).bind fun ys S2 => if ys.length ≤ 100000 then .ok (.lst ys) S2 else .no
section
variable {K : Fg} {mg : Mg} {W : WX} {c : Ctx} {O O1 : Addr → Prop} {ad ad1 : List Addr} {S S1 : Sg} {ρ : Ro} {σ : L2.St} {H H1 : Hp} {Dn : Ends}
theorem loopG_ok {gs : List Nat} {S0 : Sg} {tgt : D → Ro → Option Ro} {b : MS} {ds : List D} (h : PostS K mg W c Dn O ad H (s_loopG gs S0 tgt b ds ρ S)) : Same gs S0 S := by
  cases ds with
  | nil =>
    unfold s_loopG at h
    by_cases q : Same gs S0 S
    · exact q
    · rw [if_neg q] at h; exact h.elim
  | cons d ds =>
    unfold s_loopG at h
    by_cases q : Same gs S0 S
    · exact q
    · rw [if_neg q] at h; exact h.elim
theorem w_forG {mi : MJ} {ts : List Nat} {g : TG} {tgt : D → Ro → Option Ro} {b : MS} (hg : TgOk K mg ts g tgt) : ∀ Dn σ H, Ss K mg W (s_forG mi tgt b) Dn σ H → tFor (Ej K mg Grow W mi) g (Ss K mg W b) Dn σ H := by
  rintro Dn σ H ⟨c, O, ad, S, ρ, z, h⟩
  refine ⟨O, ad, S, ρ, z.sto, z.fre, ?_⟩
  unfold s_forG at h
  cases e : mi ρ S with
  | no => simp only [e] at h; exact h
  | er x fs S1 =>
    simp only [e] at h
    exact fun cls dd O' ad' H' t z' r => h cls dd σ O' ad' H' (t.grow z.sto.hid) (z.step t z') r
  | ok p S1 =>
    obtain ⟨ds, gs⟩ := p
    simp only [e] at h
    intro O1 ad1 H1 J t s1 src
    obtain ⟨G, Y, wk, hG, hY⟩ := src
    have z1 := z.step t s1
    have h1 := h.rebase (t.grow z.sto.hid)
    refine for_it wk (fun i σ' H' => ∃ O' ad' S' ρ', Grow O1 ad1 H1 O' ad' H' ∧ Sta K mg c O' ad' S' ρ' σ' H' ∧ PostS K mg W c Dn O' ad' H' (s_loopG gs S1 tgt b (ds.drop i) ρ' S')) ⟨O1, ad1, S1, ρ, .refl _ _ _, z1, by simpa using h1⟩ ?_ ?_ ?_
    · rintro i σ' H' hi ⟨O', ad', S', ρ', gr, zz, hp⟩
      exact hG O' ad' S' H' ⟨gr, loopG_ok hp⟩ zz.sto
    · rintro i x σ' H' H2 hi ⟨O', ad', S', ρ', gr, zz, hp⟩ y
      have sm := loopG_ok hp
      obtain ⟨d, hd, t2, s2, rx⟩ := hY i H' x H2 O' ad' S' ⟨gr, sm⟩ zz.sto hi y
      have zz2 := zz.step t2 s2
      have hp2 := hp.rebase (t2.grow zz.sto.hid)
      have ed : ds.drop i = d :: ds.drop (i + 1) := by
        obtain ⟨hl, hd'⟩ := List.getElem?_eq_some_iff.mp hd
        rw [List.drop_eq_getElem_cons hl, hd']
      rw [ed] at hp2
      unfold s_loopG at hp2
      rw [if_pos sm] at hp2
      cases et : tgt d ρ' with
      | none => simp only [et] at hp2; exact hp2.elim
      | some ρ1 =>
        simp only [et] at hp2
        obtain ⟨σ1, f1, ow1, _, kg⟩ := hg O' ad' ρ' σ' H2 x d ρ1 zz2.fre rx et
        refine kg _ ?_
        have z3 : Sta K mg c O' ad' S' ρ1 σ1 H2 := ⟨s2, f1, zz2.cst, fun j e a q1 q2 => let q := ow1 j e a q1 q2; zz2.owf j e a q.1 q.2⟩
        refine ⟨c, O', ad', S', ρ1, z3, ?_⟩
        have gr2 := gr.trans (t2.grow zz.sto.hid)
        cases eb : b ρ1 S' with
        | nx ρ2 S2 =>
          simp only [eb] at hp2
          exact fun σ'' O'' ad'' H3 g3 z4 => ⟨O'', ad'', S2, ρ2, gr2.trans g3, z4, PostS.rebase hp2 g3⟩
        | ct ρ2 S2 =>
          simp only [eb] at hp2
          exact fun σ'' O'' ad'' H3 g3 z4 => ⟨O'', ad'', S2, ρ2, gr2.trans g3, z4, PostS.rebase hp2 g3⟩
        | bk ρ2 S2 => simp only [eb] at hp2; exact hp2
        | rt d2 S2 => simp only [eb] at hp2; exact hp2
        | ex x2 fs2 ρ2 S2 => simp only [eb] at hp2; exact hp2
        | no => simp only [eb] at hp2; exact hp2
    · rintro σ' H' ⟨O', ad', S', ρ', gr, zz, hp⟩
      have sm := loopG_ok hp
      rw [List.drop_length] at hp
      unfold s_loopG at hp
      rw [if_pos sm] at hp
      exact hp σ' O' ad' H' (.refl _ _ _) zz
theorem lcLG_ok {α : Type} {gs : List Nat} {S0 : Sg} {tgt : D → Ro → Option Ro} {t : MT} {e : ME} {ds : List D} {f : List D → Sg → Out α} {P : Out α → Prop} (hn : ¬ P .no) (h : P ((lcLG gs S0 tgt t e ρ ds S).bind f)) : Same gs S0 S := by
  cases ds with
  | nil =>
    unfold lcLG at h
    by_cases q : Same gs S0 S
    · exact q
    · rw [if_neg q] at h; exact (hn h).elim
  | cons d ds =>
    unfold lcLG at h
    by_cases q : Same gs S0 S
    · exact q
    · rw [if_neg q] at h; exact (hn h).elim
theorem wipe_still (vs : List Nat) (σ : L2.St) : L2.wipe (L2.wipe σ vs) vs = L2.wipe σ vs := by
  have ww : ∀ (l : List Nat) (τ : L2.St), (∀ j ∈ l, j < τ.length → τ[j]? = some none) → L2.wipe τ l = τ := by
    intro l
    induction l with
    | nil => intro τ _; rfl
    | cons a l ih =>
      intro τ hτ
      have e0 : τ.set a none = τ := by
        by_cases hl : a < τ.length
        · have := hτ a List.mem_cons_self hl
          rw [List.getElem?_eq_getElem hl] at this
          have e1 : τ[a] = none := Option.some.inj this
          rw [← e1]; exact List.set_getElem_self hl
        · exact List.set_eq_of_length_le (by omega)
      show (L2.wipe τ l).set a none = τ
      rw [ih τ fun j hj hl => hτ j (List.mem_cons_of_mem _ hj) hl]
      exact e0
  refine ww vs _ fun j hj hl => ?_
  have hc : ∀ o, (L2.wipe σ vs)[j]? = some o → o = none := fun o ho => by
    cases o with
    | none => rfl
    | some v => exact absurd hj (wipe_some ho).2
  rw [List.getElem?_eq_getElem hl]
  exact congrArg some (hc _ (List.getElem?_eq_getElem hl))
theorem w_lcG {vs : List Nat} {mi : MJ} {g : TG} {tgt : D → Ro → Option Ro} {t : MT} {e : ME} (hg : TgOk K mg vs g tgt) :
    ∀ σ H Q, Ef K mg W (f_lcG vs mi tgt t e) σ H Q → tLc (Ej K mg Stp W mi) g (Et K mg W0 t) (Ee K mg W0 e) vs σ H Q := by
  rintro σ H Q ⟨O, ad, S, ρ, s, fr, h⟩
  refine ⟨O, ad, S, ρ, s, fr, ?_⟩
  unfold f_lcG at h
  cases em : mi ρ S with
  | no => rw [em] at h; exact h
  | er x fs S1 => rw [em] at h; exact h
  | ok p S1 =>
    obtain ⟨ds, gs⟩ := p
    rw [em] at h
    intro O1 ad1 H1 J t1 s1 src Dl hD
    obtain ⟨G, Y, wk, hG, hY⟩ := src
    have f1 : Fre K mg O1 ad1 ρ σ H1 := fr.step s.hid t1
    have h1 : PostF K mg W ρ σ Q O1 ad1 H1 ((lcLG gs S1 tgt t e (wipeR ρ vs) ds S1).bind fun ys S2 => if ys.length ≤ 100000 then .ok (.lst ys) S2 else .no) := PostF.rebase h t1 s.hid s1.dom
    have fw : Fre K mg O1 ad1 (wipeR ρ vs) (L2.wipe σ vs) H1 := f1.wipe vs
    refine lc_it wk (fun i H' => ∃ O2 ad2 S2 acc ys, Stp O1 ad1 H1 O2 ad2 H' ∧ Sto K mg O2 ad2 S2 H' ∧ O2 Dl ∧ Dl ∉ ad2 ∧ H' Dl = some (.lst acc) ∧ Reps K mg (hide O2 H') ad2 acc ys ∧
      PostF K mg W ρ σ Q O1 ad1 H1 ((lcLG gs S1 tgt t e (wipeR ρ vs) (ds.drop i) S2).bind fun zs S3 => if (ys ++ zs).length ≤ 100000 then .ok (.lst (ys ++ zs)) S3 else .no)) ?_ ?_ ?_ ?_
    · obtain ⟨t2, z2, np, mr⟩ := new_own (K := K) (mg := mg) (o := .lst []) (d := .lst []) s1 hD ⟨[], upd_same, .nil⟩
      exact ⟨_, ad1, S1, [], [], t2, z2, .inr rfl, np, upd_same, .nil, by simpa using h1⟩
    · rintro i H' hi ⟨O2, ad2, S2, acc, ys, t2, z2, _, _, _, _, hp⟩
      exact hG O2 ad2 S2 H' ⟨t2, lcLG_ok (P := PostF K mg W ρ σ Q O1 ad1 H1) (fun z => z) hp⟩ z2
    · rintro i x H' H2 hi ⟨O2, ad2, S2, acc, ys, t2, z2, oD, nD, hDl, rs, hp⟩ y
      have sm := lcLG_ok (P := PostF K mg W ρ σ Q O1 ad1 H1) (fun z => z) hp
      obtain ⟨d, hd, t3, z3, rx⟩ := hY i H' x H2 O2 ad2 S2 ⟨t2, sm⟩ z2 hi y
      have ed : ds.drop i = d :: ds.drop (i + 1) := by
        obtain ⟨hl, hd'⟩ := List.getElem?_eq_some_iff.mp hd
        rw [List.drop_eq_getElem_cons hl, hd']
      rw [ed] at hp
      have t23 := t2.trans t3 s1.hid z2.dom
      have f3 : Fre K mg O2 ad2 (wipeR ρ vs) (L2.wipe σ vs) H2 := fw.step s1.hid t23
      have hDl3 := t3.fr Dl _ hDl nD
      have rs3 : Reps K mg (hide O2 H2) ad2 acc ys := rs.mono (t3.hide z2.hid) t3.get
      unfold lcLG at hp
      rw [if_pos sm] at hp
      cases et : tgt d (wipeR ρ vs) with
      | none => simp only [et] at hp; exact hp.elim
      | some ρ1 =>
        simp only [et] at hp
        obtain ⟨σ1, g1, _, wp, kg⟩ := hg O2 ad2 _ _ H2 x d ρ1 f3 rx et
        refine kg _ ⟨by rw [wp]; exact wipe_still vs σ, ?_⟩
        refine ⟨O2, ad2, S2, ρ1, z3, g1, ?_⟩
        cases et2 : t ρ1 S2 with
        | no => simp only [et2] at hp; exact hp.elim
        | er x2 fs2 S3 => simp only [et2] at hp; exact hp.elim
        | ok b S3 =>
          simp only [et2, noEr, Out.bind] at hp
          intro O3 ad3 H3 t4 z4
          have t24 := t23.trans t4 s1.hid z3.dom
          have oD4 := t4.op Dl oD
          have nD4 := t4.nmem nD hDl3
          have hDl4 := t4.fr Dl _ hDl3 nD
          have rs4 : Reps K mg (hide O3 H3) ad3 acc ys := rs3.mono (t4.hide z3.hid) t4.get
          cases b with
          | false =>
            rw [if_neg Bool.false_ne_true] at hp ⊢
            exact ⟨O3, ad3, S3, acc, ys, t24, z4, oD4, nD4, hDl4, rs4, hp⟩
          | true =>
            rw [if_pos rfl] at hp ⊢
            refine ⟨O3, ad3, S3, ρ1, z4, g1.step z3.hid t4, ?_⟩
            cases ee : e ρ1 S3 with
            | no => simp only [ee] at hp; exact hp.elim
            | er x2 fs2 S4 => simp only [ee] at hp; exact hp.elim
            | ok yd S4 =>
              simp only [ee] at hp
              intro v O4 ad4 H4 t5 z5 ry
              cases el : isLoc yd with
              | true => simp only [el, if_true] at hp; exact hp.elim
              | false =>
                simp only [el, Bool.false_eq_true, if_false] at hp
                have t25 := t24.trans t5 s1.hid z4.dom
                have oD5 := t5.op Dl oD4
                have nD5 := t5.nmem nD4 hDl4
                have hDl5 := t5.fr Dl _ hDl4 nD4
                have rs5 : Reps K mg (hide O4 H4) ad4 acc ys := rs4.mono (t5.hide z4.hid) t5.get
                have hlen : acc.length < sizeLine := by
                  rw [rs5.length]
                  have hp' := hp
                  cases el2 : lcLG gs S1 tgt t e (wipeR ρ vs) (ds.drop (i + 1)) S4 with
                  | no => simp only [el2] at hp'; exact hp'.elim
                  | er x2 fs2 S5 =>
                    simp only [el2] at hp'
                    refine absurd el2 ?_
                    have noer : ∀ (l : List D) (S6 : Sg) x3 fs3 S7, lcLG gs S1 tgt t e (wipeR ρ vs) l S6 ≠ .er x3 fs3 S7 := by
                      intro l
                      induction l with
                      | nil => intro S6 x3 fs3 S7 q; unfold lcLG at q; split at q <;> cases q
                      | cons d2 l ih =>
                        intro S6 x3 fs3 S7 q
                        unfold lcLG at q
                        split at q
                        · cases et3 : tgt d2 (wipeR ρ vs) with
                          | none => rw [et3] at q; cases q
                          | some ρ3 =>
                            rw [et3] at q
                            cases et4 : t ρ3 S6 with
                            | no => simp only [et4] at q; cases q
                            | er x4 fs4 S8 => simp only [et4] at q; cases q
                            | ok b2 S8 =>
                              simp only [et4, noEr, Out.bind] at q
                              cases b2 with
                              | false => rw [if_neg Bool.false_ne_true] at q; exact ih _ _ _ _ q
                              | true =>
                                rw [if_pos rfl] at q
                                cases et5 : e ρ3 S8 with
                                | no => simp only [et5] at q; cases q
                                | er x4 fs4 S9 => simp only [et5] at q; cases q
                                | ok y2 S9 =>
                                  simp only [et5] at q
                                  split at q
                                  · cases q
                                  · cases et6 : lcLG gs S1 tgt t e (wipeR ρ vs) l S9 with
                                    | no => simp only [et6] at q; cases q
                                    | er x5 fs5 S10 => exact ih _ _ _ _ et6
                                    | ok ys2 S10 => simp only [et6] at q; cases q
                        · cases q
                    exact noer _ _ _ _ _
                  | ok zs S5 =>
                    simp only [el2] at hp'
                    obtain ⟨c1, _⟩ := post_if (P := PostF K mg W ρ σ Q O1 ad1 H1) (fun z => z) hp'
                    rw [List.length_append, List.length_cons] at c1
                    rw [sizeLine_eq]; omega
                refine ⟨acc, hDl5, hlen, O4, ad4, S4, acc ++ [v], ys ++ [yd], ⟨fun b o hb m => ?_, fun a ha => t25.op a ha, fun a ha => t25.oq a ha, t25.ap⟩, z5.upd_out oD5 nD5, oD5, nD5, upd_same, ?_, ?_⟩
                · rw [upd_ne (ne_of_none hb hD)]
                  exact t25.fr b o hb m
                · exact (rs5.app (.cons (ry.rep el) .nil)).mono (hide_upd oD5) fun _ _ q => q
                · cases el2 : lcLG gs S1 tgt t e (wipeR ρ vs) (ds.drop (i + 1)) S4 with
                  | no => simp only [el2] at hp; exact hp.elim
                  | er x2 fs2 S5 => simp only [el2] at hp; exact hp
                  | ok zs S5 =>
                    simp only [el2] at hp
                    simpa [Out.bind, List.append_assoc] using hp
    · rintro H' ⟨O2, ad2, S2, acc, ys, t2, z2, oD, nD, hDl, rs, hp⟩
      have sm := lcLG_ok (P := PostF K mg W ρ σ Q O1 ad1 H1) (fun z => z) hp
      rw [List.drop_length] at hp
      unfold lcLG at hp
      rw [if_pos sm] at hp
      simp only [Out.bind, List.append_nil] at hp
      obtain ⟨c1, hp⟩ := post_if (P := PostF K mg W ρ σ Q O1 ad1 H1) (fun z => z) hp
      exact hp Dl O2 ad2 H' t2 z2 oD nD hD ⟨acc, hDl, rs⟩
end
end Gd

/-! Gd, part 22: enumerate(tuple). -/
namespace Gd
open PySem L2 PyProof.Rows
open AutoSeq1 (wpAny_loadPart')

/-- the two things that enumerate(x) lays: x's iterator, the enumerate itself -/
abbrev oTupIt (a : Addr) : Obj := { cls := .type "tuple_iterator", data := .fields #[.ref a, .int 0 0] }
abbrev oEnum (p : Addr) : Obj := { cls := .type "enumerate", data := .fields #[.none, .bool false, .ref p, rawInt 0, .none, .none] }
theorem new_enumT (a : Addr) (its : Array Value) (k : Nat) (dd : Option Addr) (sl : Array (Option Value)) :
    Meets (Builtin.«enumerate.__new__» ⟨[.type "enumerate", .ref a], []⟩) (fun _ R s => s.heap.get? a = some { cls := .type "tuple", dict := dd, data := .seq its k, slots := sl } ∧
      R (.ok (.ret (.ref (s.heap.push (oTupIt a)).objs.size))) { s with heap := (s.heap.push (oTupIt a)).push (oEnum s.heap.objs.size) }) :=
  .of_wp fun prog w A R s h => by
    obtain ⟨g, d, e, t, u⟩ := s
    obtain ⟨ho, h⟩ := h
    have sb := sub_enumerate
    have it : Heap.IsTuple (Shared.heap ⟨g, d, e, t, u⟩) a its := ⟨_, ho, rfl, k, rfl⟩
    wp_walk using wpAny_loadPart' ho
    refine wpAny_stack_any fun q => wpAny_pure ?_
    split
    · rename_i c _ _ _ _ _
      cases (c == Value.type "enumerate") <;>
      · wp_walk using wpAny_loadPart' ho, wpAny_pyIter_tuple it
        exact ⟨_, rfl, h⟩
    · wp_walk using wpAny_loadPart' ho, wpAny_pyIter_tuple it
      exact ⟨_, rfl, h⟩
section
variable {prog : Program} {w : World} {A : Around} {E : Value → Shared → Prop} {s : Shared}
theorem enum_tuple {a : Addr} {its : Array Value} {Q : Value → Shared → Prop} (hT : s.heap.IsTuple a its)
    (h : ∀ g, IsEnum g (s.heap.objs.size + 1) s.heap.objs.size 0 .none → g.IsTupleIter s.heap.objs.size a 0 → g.objs.size = s.heap.objs.size + 2 →
      (∀ b o, s.heap.get? b = some o → g.get? b = some o) → Q (.ref (s.heap.objs.size + 1)) { s with heap := g }) : wpAny (model prog w) A (call (.type "enumerate") [.ref a]) Q E s := by
  obtain ⟨⟨c, dd, dt, sl⟩, ho, hc, k, hd⟩ := hT
  replace hc : c = .type "tuple" := hc
  replace hd : dt = .seq its k := hd
  subst hc hd
  refine callType_new F.called_enumerate (by decide) (F.typeCall_enumerate_1 _) (F.newCall_enumerate_1 _) (fun obj => F.args_object_init_2 obj _) F.entry_enumerate_new (new_enumT a its k dd sl) ⟨ho, ?_⟩
  have sz : (s.heap.push (oTupIt a)).objs.size = s.heap.objs.size + 1 := Heap.size_push ..
  show _ ∧ _
  rw [sz]
  have he : IsEnum ((s.heap.push (oTupIt a)).push (oEnum s.heap.objs.size)) (s.heap.objs.size + 1) s.heap.objs.size 0 .none := by
    have q := Heap.get?_push_size (s.heap.push (oTupIt a)) (o := oEnum s.heap.objs.size) rfl
    rw [sz] at q
    exact q
  exact ⟨⟨_, he, rfl⟩, h _ he ⟨_, Heap.get?_push_of_some _ (Heap.get?_push_size _ rfl), rfl, rfl⟩ (by rw [Heap.size_push, sz]) fun b o x => Heap.get?_push_of_some _ (Heap.get?_push_of_some _ x)⟩
end
/-- the tuple at a, each item in a new pair with its place -/
def IteT (K : PySem.W.Frag) (a : Addr) : It :=
  ⟨fun i H => ∃ (xs : List V) (x : V), SqT K H a xs ∧ xs[i]? = some x, fun i H v H' => ∃ T x, v = .ref T ∧ H T = none ∧ H' = upd H T (.tup [.int (i : Nat), x]) ∧ ∀ xs, SqT K H a xs → xs[i]? = some x, fun i H => ∃ xs : List V, SqT K H a xs ∧ xs.length ≤ i⟩
theorem turn_enumT {P : Program} {w : World} {K : PySem.W.Frag} {elts : List Expr} {kk : Nat} {tpos : Pos} (a e it : Addr) (nai : a ≠ it) (nae : a ≠ e) :
    Turn P w K (.Tuple elts kk tpos) (IteT K a) [e, it] e (fun i h => (∃ old, IsEnum h e it ((i : Nat) : Int) old) ∧ h.IsTupleIter it a i ∧ e ≠ it) where
  mem := by simp
  obj := fun i h st b hb => by
    obtain ⟨⟨old, he⟩, ⟨o, ho, hc, hd⟩, _⟩ := st
    rcases (show b = e ∨ b = it by simpa using hb) with z | z
    · rw [z]; exact ⟨_, he, fun v q => nomatch q⟩
    · rw [z]; exact ⟨o, ho, fun v q => by rw [hd] at q; cases q⟩
  keep := fun i h h' st k => let ⟨⟨old, he⟩, hi, hne⟩ := st; ⟨⟨old, k e (by simp) _ he⟩, hi.at fun o q => k it (by simp) o q, hne⟩
  item := by
    intro X hP hw hK hc i pins s σ H E I hf st hg
    subst hP hw hK
    obtain ⟨⟨old, he⟩, hit, hne⟩ := st
    obtain ⟨xs, x, hq, hx⟩ := hg
    obtain ⟨its, rv, p, hz⟩ := I.tuple hq
    obtain ⟨u, hu, ru⟩ := rv.get hx
    have hel : e < s.heap.objs.size := Heap.lt_size he
    have hil : it < s.heap.objs.size := by obtain ⟨_, q, _⟩ := hit; exact Heap.lt_size q
    have lt : i < its.toArray.size := by
      obtain ⟨hl, _⟩ := List.getElem?_eq_some_iff.mp hu
      simpa using hl
    have h1 : X.A.in1.handled = none := I.ok.hd hc
    refine wpAny_pyNext_enum_itemD (Draws.tuple h1 it a nai its.toArray) he ⟨hit, p⟩ lt hne (by simp [hne, nae.symm]) fun y h' tk py ho st' hT sz hk => ?_
    obtain ⟨hit', _⟩ := st'
    have ey : y = u := by
      have q : its.toArray[i]? = some y := py
      rw [List.getElem?_toArray, hu] at q
      exact (Option.some.inj q).symm
    subst ey
    refine ⟨_, rfl, wpAny_letOwnedTupleGo_enum (s := { s with heap := h', toks := tk + 1 }) ho fun h'' he' sb => ?_⟩
    have hT2 : h''.get? s.heap.objs.size = some { cls := .type "tuple", data := .seq #[.int i tk, y] } := (sb.2 _ (Nat.ne_of_gt hel)).trans hT
    have new : ObjOk X.prog X.w (upd H s.heap.objs.size (.tup [.int (i : Nat), x])) h'' s.heap.objs.size (.tup [.int (i : Nat), x]) :=
      ⟨by show 2 ≤ sizeLine; decide, [.int i tk, y], .cons ⟨_, rfl⟩ (.cons ru .nil), ⟨_, hT2, rfl, _, rfl⟩⟩
    have I1 : L2.Inv X pins σ (upd H s.heap.objs.size (.tup [.int (i : Nat), x])) { s with heap := h'', toks := tk + 1 } :=
      I.turnedNew (ch := [e, it]) (fun b ob hb q => (sb.2 b (fun z => hb (by simp [z]))).trans (hk b ob (fun z => hb (by simp [z])) (fun z => hb (by simp [z])) q)) hf (Nat.le_refl _) new
    refine ⟨.ref s.heap.objs.size, _, I1, rfl, ⟨_, x, rfl, I.hok.fresh (Nat.le_refl _), rfl, fun ys hy => by rw [I.tuple_inj hy hq]; exact hx⟩, ⟨⟨y, ?_⟩, hit'.at fun o q => (sb.2 it (Ne.symm hne)).trans q, hne⟩, fun b hb => ?_⟩
    · have e1 : ((i + 1 : Nat) : Int) = (i : Int) + 1 := by omega
      rw [e1]; exact he'
    · have hb' : b < s.heap.objs.size := by
        rcases (show b = e ∨ b = it by simpa using hb) with z | z
        · rw [z]; exact hel
        · rw [z]; exact hil
      rw [upd_ne (Nat.ne_of_lt hb')]
      exact (hf b hb).1
  done := by
    intro X hP hw hK hc i pins s σ H E I hf st hg
    subst hP hw hK
    obtain ⟨⟨old, he⟩, hit, hne⟩ := st
    obtain ⟨xs, hq, hx⟩ := hg
    obtain ⟨its, rv, p, hz⟩ := I.tuple hq
    obtain ⟨f0, f1, f2, f3, f4, f5⟩ := hf it (by simp)
    have hl := rv.length
    have h1 : X.A.in1.handled = none := I.ok.hd hc
    have st0 : s.heap.IsTupleIter it a its.toArray.size ∨ its.toArray.size < i := by
      rcases Nat.lt_or_ge its.toArray.size i with q | q
      · exact .inr q
      · refine .inl ?_
        have : i = its.toArray.size := by simp at q ⊢; omega
        rw [← this]; exact hit
    rcases st0 with q | q
    · exact wpAny_pyNext_enum_endD (Draws.tuple h1 it a nai its.toArray) he ⟨q, p⟩ fun h' eb => ⟨rfl, I.turned (t' := s.toks) (fun b o hb r => eb b o hb r) f0 f1 f3 f4 f5⟩
    · have hT : s.TypeIs (.ref e) "enumerate" := ⟨_, he, rfl⟩
      unfold pyNext
      refine wpAny_bind (wpAny_attempt (wpAny_callSpecial?_slot (name := Str.ofString "__next__") hT F.slot_enumerate_next (wpAny_call_entry F.slot_enumerate_next hT F.entry_enumerate_next ?_ (F.args_enumerate_next_1 _))))
      show wpAny _ _ (field (.ref e) 2 >>= _) _ _ _
      refine wpAny_bind (wpAny_field he rfl (x := .ref it) rfl ?_)
      exact wpAny_bind (wpAny_nextOf_tuple_end h1 hit p (Array.getElem?_eq_none (by omega)) fun h' x eb hx' => by
        obtain ⟨o, ho, hc'⟩ := hx'
        exact wpAny_bind (wpAny_isInstance (T := "StopIteration") (b := true) ⟨o, ho, hc'⟩ isSubtype_stop (wpAny_pure ⟨rfl, I.turned (t' := s.toks) (fun b o hb r => eb b o hb r) f0 f1 f3 f4 f5⟩)))
  self := fun A i s Q E st h => let ⟨⟨_, he⟩, _⟩ := st; wpAny_pyIter_enum he h
/-- enumerate of a list or a tuple -/
def iEnum2 (K : PySem.W.Frag) (ta : TE) : TI := fun σ H R => ta σ H fun v H1 => ∃ a xs, v = .ref a ∧ ((SqL K H1 a xs ∧ R (Ite K a) H1) ∨ (SqT K H1 a xs ∧ R (IteT K a) H1))
end Gd

/-! Gd, part 23: sources of walks: lists, tuples, texts, locked dicts, things of the store; enumerate, zip. -/
namespace Gd
open PySem L2 PyProof.Rows

/-! ### the iterators, by what reads the items -/
def ItS (Sq : Hp → Addr → List V → Prop) (a : Addr) : It :=
  ⟨fun i H => ∃ (xs : List V) (x : V), Sq H a xs ∧ xs[i]? = some x, fun i H x H' => H' = H ∧ ∀ xs, Sq H a xs → xs[i]? = some x, fun i H => ∃ xs : List V, Sq H a xs ∧ xs.length ≤ i⟩
def ItE (Sq : Hp → Addr → List V → Prop) (a : Addr) : It :=
  ⟨fun i H => ∃ (xs : List V) (x : V), Sq H a xs ∧ xs[i]? = some x, fun i H v H' => ∃ T x, v = .ref T ∧ H T = none ∧ H' = upd H T (.tup [.int (i : Nat), x]) ∧ ∀ xs, Sq H a xs → xs[i]? = some x, fun i H => ∃ xs : List V, Sq H a xs ∧ xs.length ≤ i⟩
def ItZ (Sq : Hp → Addr → List V → Prop) (a b : Addr) : It :=
  ⟨fun i H => ∃ (xs ys : List V) (x y : V), Sq H a xs ∧ Sq H b ys ∧ xs[i]? = some x ∧ ys[i]? = some y,
    fun i H v H' => ∃ T x y, v = .ref T ∧ H T = none ∧ H' = upd H T (.tup [x, y]) ∧ (∀ xs, Sq H a xs → xs[i]? = some x) ∧ ∀ ys, Sq H b ys → ys[i]? = some y,
    fun i H => ∃ xs ys : List V, Sq H a xs ∧ Sq H b ys ∧ (xs.length ≤ i ∨ ys.length ≤ i)⟩
theorem itl_eq {K : PySem.W.Frag} {a : Addr} : Itl K a = ItS (SqL K) a := rfl
theorem itt_eq {K : PySem.W.Frag} {a : Addr} : Itt K a = ItS (SqT K) a := rfl
theorem ite_eq {K : PySem.W.Frag} {a : Addr} : Ite K a = ItE (SqL K) a := rfl
theorem iteT_eq {K : PySem.W.Frag} {a : Addr} : IteT K a = ItE (SqT K) a := rfl
theorem itz_eq {K : PySem.W.Frag} {a b : Addr} : Itz K a b = ItZ (SqL K) a b := rfl
theorem itzT_eq {K : PySem.W.Frag} {a b : Addr} : RZ.ItzT K a b = ItZ (SqT K) a b := rfl
/-- as long as ok holds, the items at a are ds -/
def SqAt (K : Fg) (mg : Mg) (Sq : Hp → Addr → List V → Prop) (ok : RelS) (a : Addr) (ds : List D) : Prop :=
  ∀ O2 ad2 S2 H2, ok O2 ad2 S2 H2 → Sto K mg O2 ad2 S2 H2 → ∃ vs, Sq H2 a vs ∧ Reps K mg (hide O2 H2) ad2 vs ds
def enumD (ds : List D) : List D := (List.range ds.length).map fun i => .tup [.int (i : Nat), ds.getD i .non]
def zipD (ds es : List D) : List D := (List.range (min ds.length es.length)).map fun i => .tup [ds.getD i .non, es.getD i .non]
section
variable {K : Fg} {mg : Mg} {Sq : Hp → Addr → List V → Prop} {ok : RelS} {a b : Addr} {ds es : List D}
theorem src_S (h : SqAt K mg Sq ok a ds) : SrcG K mg ok (ItS Sq a) ds := by
  refine ⟨fun H => ∃ vs, Sq H a vs ∧ vs.length = ds.length, fun i H x H' => H' = H ∧ ∀ xs, Sq H a xs → xs[i]? = some x, ⟨fun i H hi ⟨vs, h1, h2⟩ => ?_, fun H ⟨vs, h1, h2⟩ => ?_, fun _ _ _ _ _ _ y => y⟩, fun O2 ad2 S2 H2 h1 h2 => ?_, fun i H2 x H3 O2 ad2 S2 h1 h2 hi y => ?_⟩
  · have hl : i < vs.length := by omega
    exact ⟨vs, vs[i], h1, by simp [hl]⟩
  · exact ⟨vs, h1, by omega⟩
  · obtain ⟨vs, q1, q2⟩ := h O2 ad2 S2 H2 h1 h2
    exact ⟨vs, q1, q2.length⟩
  · obtain ⟨rfl, y⟩ := y
    obtain ⟨vs, q1, q2⟩ := h O2 ad2 S2 H3 h1 h2
    obtain ⟨d, h3, h4⟩ := q2.getV (y vs q1)
    exact ⟨d, h3, .refl _ _ _, h2, h4⟩
/-- a new pair stands still -/
theorem pair_new {O : Addr → Prop} {ad : List Addr} {S : Sg} {H : Hp} {T : Addr} {u v : V} {d e : D} (s : Sto K mg O ad S H) (hT : H T = none) (ru : Rep K mg (hide O H) ad u d) (rv : Rep K mg (hide O H) ad v e) :
    Stp O ad H O ad (upd H T (.tup [u, v])) ∧ Sto K mg O ad S (upd H T (.tup [u, v])) ∧ Rep K mg (hide O (upd H T (.tup [u, v]))) ad (.ref T) (.tup [d, e]) := by
  have nO : ¬ O T := fun z => by
    obtain ⟨o, q⟩ := s.dom T z
    rw [hT] at q; cases q
  have k : ∀ b o, H b = some o → upd H T (.tup [u, v]) b = some o := fun b o e => by rw [upd_ne (ne_of_none e hT)]; exact e
  have hk : ∀ b o, hide O H b = some o → hide O (upd H T (.tup [u, v])) b = some o := fun b o e => by
    obtain ⟨n, e⟩ := of_hide e
    exact hide_of n (k b o e)
  refine ⟨⟨fun b o e _ => k b o e, fun _ h => h, fun _ h => .inl h, [], by simp, fun _ h => nomatch h⟩, ⟨s.len, s.nd, s.hid, fun a ha => ?_, fun n d hd => ?_⟩, .tup (.of (hide_of nO upd_same)) (.cons (ru.mono hk fun _ _ e => e) (.cons (rv.mono hk fun _ _ e => e) .nil))⟩
  · obtain ⟨o, q⟩ := s.dom a ha
    exact ⟨o, k _ _ q⟩
  · obtain ⟨a, h1, h2⟩ := s.ob n d hd
    exact ⟨a, h1, h2.mono hk (fun _ _ e => e) fun o e => k _ _ e⟩
theorem src_E (h : SqAt K mg Sq ok a ds) : SrcG K mg ok (ItE Sq a) (enumD ds) := by
  have len : (enumD ds).length = ds.length := by simp [enumD]
  refine ⟨fun H => ∃ vs, Sq H a vs ∧ vs.length = ds.length, fun i H v H' => ∃ T x, v = .ref T ∧ H T = none ∧ H' = upd H T (.tup [.int (i : Nat), x]) ∧ ∀ xs, Sq H a xs → xs[i]? = some x, ⟨fun i H hi ⟨vs, h1, h2⟩ => ?_, fun H ⟨vs, h1, h2⟩ => ?_, fun _ _ _ _ _ _ y => y⟩, fun O2 ad2 S2 H2 h1 h2 => ?_, fun i H2 x H3 O2 ad2 S2 h1 h2 hi y => ?_⟩
  · have hl : i < vs.length := by omega
    exact ⟨vs, vs[i], h1, by simp [hl]⟩
  · exact ⟨vs, h1, by omega⟩
  · obtain ⟨vs, q1, q2⟩ := h O2 ad2 S2 H2 h1 h2
    exact ⟨vs, q1, q2.length⟩
  · obtain ⟨T, z, rfl, hT, rfl, y⟩ := y
    obtain ⟨vs, q1, q2⟩ := h O2 ad2 S2 H2 h1 h2
    obtain ⟨d, h3, h4⟩ := q2.getV (y vs q1)
    obtain ⟨p1, p2, p3⟩ := pair_new h2 hT (.int (i : Nat)) h4
    refine ⟨_, ?_, p1, p2, p3⟩
    obtain ⟨hl, hd⟩ := List.getElem?_eq_some_iff.mp h3
    have hg : ds.getD i .non = d := by rw [List.getD_eq_getElem?_getD, h3]; rfl
    rw [enumD, List.getElem?_map, List.getElem?_range hl]
    simp only [Option.map_some, hg]
theorem src_Z (h : SqAt K mg Sq ok a ds) (h' : SqAt K mg Sq ok b es) : SrcG K mg ok (ItZ Sq a b) (zipD ds es) := by
  have len : (zipD ds es).length = min ds.length es.length := by simp [zipD]
  refine ⟨fun H => (∃ vs, Sq H a vs ∧ vs.length = ds.length) ∧ ∃ ws, Sq H b ws ∧ ws.length = es.length, fun i H v H' => ∃ T x y, v = .ref T ∧ H T = none ∧ H' = upd H T (.tup [x, y]) ∧ (∀ xs, Sq H a xs → xs[i]? = some x) ∧ ∀ ys, Sq H b ys → ys[i]? = some y, ⟨fun i H hi ⟨⟨vs, h1, h2⟩, ws, h3, h4⟩ => ?_, fun H ⟨⟨vs, h1, h2⟩, ws, h3, h4⟩ => ?_, fun _ _ _ _ _ _ y => y⟩, fun O2 ad2 S2 H2 h1 h2 => ?_, fun i H2 x H3 O2 ad2 S2 h1 h2 hi y => ?_⟩
  · have hl : i < vs.length := by omega
    have hl2 : i < ws.length := by omega
    exact ⟨vs, ws, vs[i], ws[i], h1, h3, by simp [hl], by simp [hl2]⟩
  · exact ⟨vs, ws, h1, h3, by omega⟩
  · obtain ⟨vs, q1, q2⟩ := h O2 ad2 S2 H2 h1 h2
    obtain ⟨ws, q3, q4⟩ := h' O2 ad2 S2 H2 h1 h2
    exact ⟨⟨vs, q1, q2.length⟩, ws, q3, q4.length⟩
  · obtain ⟨T, z, z2, rfl, hT, rfl, y, y2⟩ := y
    obtain ⟨vs, q1, q2⟩ := h O2 ad2 S2 H2 h1 h2
    obtain ⟨ws, q3, q4⟩ := h' O2 ad2 S2 H2 h1 h2
    obtain ⟨d, h3, h4⟩ := q2.getV (y vs q1)
    obtain ⟨d2, h5, h6⟩ := q4.getV (y2 ws q3)
    obtain ⟨p1, p2, p3⟩ := pair_new h2 hT h4 h6
    refine ⟨_, ?_, p1, p2, p3⟩
    obtain ⟨hl, hd⟩ := List.getElem?_eq_some_iff.mp h3
    obtain ⟨hl2, hd2⟩ := List.getElem?_eq_some_iff.mp h5
    have hlt : i < min ds.length es.length := by omega
    have hg : ds.getD i .non = d := by rw [List.getD_eq_getElem?_getD, h3]; rfl
    have hg2 : es.getD i .non = d2 := by rw [List.getD_eq_getElem?_getD, h5]; rfl
    rw [zipD, List.getElem?_map, List.getElem?_range hlt]
    simp only [Option.map_some, hg, hg2]
end
/-! ### what stands behind a value -/
/-- lists: frozen, of the store; (in a comprehension) a slot's own -/
def lstJ (own : Bool) (ρ : Ro) (S : Sg) : D → Option (List D × List Nat)
  | .lst ds => some (ds, [])
  | .obj n => match S[n]? with
    | some (.lst ds) => some (ds, [n])
    | _ => none
  | .loc i => if own = true then (match ρ[i]? with
    | some (.ow (.lst ds)) => some (ds, [])
    | _ => none) else none
  | _ => none
structure RelOk (rel : Rel) (own : Bool) : Prop where
  refl : ∀ O ad H, rel O ad H O ad H
  grow : ∀ O ad H O' ad' H', (∀ a, a ∈ ad → O a) → rel O ad H O' ad' H' → Grow O ad H O' ad' H'
  stp : own = true → ∀ O ad H O' ad' H', rel O ad H O' ad' H' → Stp O ad H O' ad' H'
theorem rel_grow : RelOk Grow false := ⟨Grow.refl, fun _ _ _ _ _ _ _ g => g, fun h => nomatch h⟩
theorem rel_stp : RelOk Stp true := ⟨Stp.refl, fun _ _ _ _ _ _ h g => g.grow h, fun _ _ _ _ _ _ _ g => g⟩
section
variable {K : Fg} {mg : Mg} {rel : Rel} {own : Bool} {O : Addr → Prop} {ad : List Addr} {S : Sg} {H : Hp} {ρ : Ro} {σ : L2.St} {v : V} {d : D} {ds : List D} {gs : List Nat}
theorem at_lst (R : RelOk rel own) (s : Sto K mg O ad S H) (f : Fre K mg O ad ρ σ H) (r : RepR K mg O ad ρ σ H v d) (h : lstJ own ρ S d = some (ds, gs)) :
    ∃ a, v = .ref a ∧ SqAt K mg (SqL K) (fun O2 ad2 S2 H2 => rel O ad H O2 ad2 H2 ∧ Same gs S S2) a ds := by
  cases d with
  | lst l =>
    cases h
    cases r with
    | lst h1 h2 => exact ⟨_, rfl, fun O2 ad2 S2 H2 ⟨g, _⟩ _ => ⟨_, sql_mono un_hide (sql_mono (R.grow _ _ _ _ _ _ s.hid g).ex h1), h2.mono (R.grow _ _ _ _ _ _ s.hid g).ex (R.grow _ _ _ _ _ _ s.hid g).ap⟩⟩
  | obj n =>
    simp only [lstJ] at h
    cases e : S[n]? with
    | none => simp only [e] at h; cases h
    | some c =>
      simp only [e] at h
      cases c with
      | lst l =>
        cases h
        cases r with
        | obj hn =>
          refine ⟨_, rfl, fun O2 ad2 S2 H2 ⟨g, sm⟩ s2 => ?_⟩
          have e2 : S2[n]? = some (.lst ds) := (sm n (by simp)).trans e
          obtain ⟨a2, h1, vs, h2, h3⟩ := s2.ob n _ e2
          have h4 := (R.grow _ _ _ _ _ _ s.hid g).ap n _ hn
          rw [h1] at h4
          cases h4
          exact ⟨vs, .of h2, h3⟩
      | _ => cases h
  | loc i =>
    simp only [lstJ] at h
    cases own with
    | false => simp at h
    | true =>
      simp only [if_true] at h
      obtain ⟨_, hv⟩ := r
      cases e : ρ[i]? with
      | none => simp only [e] at h; cases h
      | some z =>
        simp only [e] at h
        cases z with
        | ow c =>
          cases c with
          | lst l =>
            cases h
            obtain ⟨a, h1, h2, h3, vs, h4, h5⟩ := f.ow i _ e
            rw [hv] at h1
            cases h1
            exact ⟨a, rfl, fun O2 ad2 S2 H2 ⟨g, _⟩ _ => let t := R.stp rfl _ _ _ _ _ _ g; ⟨vs, .of (t.fr a _ h4 h3), h5.mono (t.hide s.hid) t.get⟩⟩
          | _ => cases h
        | _ => cases h
  | _ => cases h
theorem at_tup (R : RelOk rel own) (s : Sto K mg O ad S H) (r : RepR K mg O ad ρ σ H v (.tup ds)) : ∃ a, v = .ref a ∧ SqAt K mg (SqT K) (fun O2 ad2 S2 H2 => rel O ad H O2 ad2 H2 ∧ Same gs S S2) a ds := by
  cases r with
  | tup h1 h2 => exact ⟨_, rfl, fun O2 ad2 S2 H2 ⟨g, _⟩ _ => ⟨_, sqt_mono un_hide (sqt_mono (R.grow _ _ _ _ _ _ s.hid g).ex h1), h2.mono (R.grow _ _ _ _ _ _ s.hid g).ex (R.grow _ _ _ _ _ _ s.hid g).ap⟩⟩
theorem SqAt.now {Sq : Hp → Addr → List V → Prop} {a : Addr} (R : RelOk rel own) (s : Sto K mg O ad S H) (h : SqAt K mg Sq (fun O2 ad2 S2 H2 => rel O ad H O2 ad2 H2 ∧ Same gs S S2) a ds) : ∃ vs, Sq H a vs := by
  obtain ⟨vs, q, _⟩ := h O ad S H ⟨R.refl _ _ _, fun _ _ => rfl⟩ s
  exact ⟨vs, q⟩
end
/-! ### mirrors of sources -/
def liftJ (S : Sg) : Option (List D × List Nat) → Out (List D × List Nat)
  | some z => .ok z S
  | none => .no
def keyD : Key → D
  | .inl i => .int i
  | .inr x => .str x
def seqJ (own : Bool) (ρ : Ro) (S : Sg) (d : D) : Option (List D × List Nat) := match d with
  | .tup ds => some (ds, [])
  | .str z => some (signs z, [])
  | .dcf l => some (l.map fun kv => keyD kv.1, [])
  | d => lstJ own ρ S d
def j_seq (own : Bool) (m : ME) : MJ := fun ρ S => (m ρ S).bind fun d S1 => liftJ S1 (seqJ own ρ S1 d)
def enumJ (own : Bool) (ρ : Ro) (S : Sg) (d : D) : Option (List D × List Nat) := match d with
  | .tup ds => some (enumD ds, [])
  | d => (lstJ own ρ S d).map fun p => (enumD p.1, p.2)
def j_enum (own : Bool) (m : ME) : MJ := fun ρ S => (m ρ S).bind fun d S1 => liftJ S1 (enumJ own ρ S1 d)
def zipJ (own : Bool) (ρ : Ro) (S : Sg) (d e : D) : Option (List D × List Nat) := match d, e with
  | .tup ds, .tup es => some (zipD ds es, [])
  | d, e => (lstJ own ρ S d).bind fun p => (lstJ own ρ S e).map fun q => (zipD p.1 q.1, p.2 ++ q.2)
def j_zip (own : Bool) (m m2 : ME) : MJ := fun ρ S => (m ρ S).bind fun d S1 => (m2 ρ S1).bind fun e S2 => liftJ S2 (zipJ own ρ S2 d e)
def j_rng (r : MA) : MJ := fun ρ S => (r ρ S).bind fun ds S1 => liftJ S1 ((rngOf ds).map fun l => (l, []))
section
variable {K : Fg} {mg : Mg} {W : WX} {rel : Rel} {own : Bool} {ρ : Ro} {σ : L2.St} {O : Addr → Prop} {ad : List Addr} {H : Hp} {S : Sg}
theorem liftJ_ok {o : Option (List D × List Nat)} {Q : It → Hp → Prop} (h : PostJ K mg rel W ρ σ Q O ad H (liftJ S o)) : ∃ z, o = some z := by
  cases o with
  | some z => exact ⟨z, rfl⟩
  | none => exact h.elim
theorem PostJ.rebase {Q : It → Hp → Prop} {o : Out (List D × List Nat)} {O1 : Addr → Prop} {ad1 : List Addr} {H1 : Hp} (h : PostJ K mg rel W ρ σ Q O ad H o) (s : Stp O ad H O1 ad1 H1) (hid : ∀ a, a ∈ ad → O a) (dom : ∀ a, O1 a → ∃ o, H1 a = some o) : PostJ K mg rel W ρ σ Q O1 ad1 H1 o := by
  cases o with
  | ok p S' => exact fun O' ad' H' J t z sr => h O' ad' H' J (s.trans t hid dom) z sr
  | er x fs S' => exact fun cls dd O' ad' H' t z r => h cls dd O' ad' H' (s.trans t hid dom) z r
  | no => exact h
theorem bindEJ {m : ME} {f : Ro → D → Sg → Out (List D × List Nat)} {σ : L2.St} {H : Hp} {Q : It → Hp → Prop} (h : Ej K mg rel W (fun ρ S => (m ρ S).bind (f ρ)) σ H Q) :
    Ee K mg W m σ H fun v H1 => AtE K mg σ H1 v fun O ad ρ S d => PostJ K mg rel W ρ σ Q O ad H1 (f ρ d S) := by
  obtain ⟨O, ad, S, ρ, s, fr, h⟩ := h
  refine ⟨O, ad, S, ρ, s, fr, ?_⟩
  dsimp only at h
  cases e : m ρ S with
  | ok d S1 =>
    rw [e] at h
    exact fun v O' ad' H' t z r => ⟨O', ad', S1, ρ, d, z, fr.step s.hid t, r, PostJ.rebase (o := f ρ d S1) h t s.hid z.dom⟩
  | er x fs S1 => rw [e] at h; exact h
  | no => rw [e] at h; exact h
/-- of a list, a tuple, a text or a locked dict -/
def iSeqK (K : PySem.W.Frag) (tl : TE) : TI := fun σ H R => tl σ H fun x H1 => ((∃ a xs, x = .ref a ∧ SqL K H1 a xs ∧ R (Itl K a) H1) ∨ (∃ a xs, x = .ref a ∧ SqT K H1 a xs ∧ R (Itt K a) H1) ∨ ∃ z, x = .str z ∧ R (Its z) H1) ∨
  ∃ d o kvs, x = .ref d ∧ H1 d = some (.frz o (.dK kvs)) ∧ R (Itk d o kvs) H1
theorem pi_seqK {X : Cx} {tg l : Expr} {tl : TE} (hl : PE X l tl) : PI X tg l (iSeqK X.K tl) := by
  refine ⟨fun pins s σ H R I h => ?_⟩
  refine thn (hl.run pins s σ H _ I h) ?_
  rintro v s1 ⟨x, H1, I1, r1, (⟨a, xs, rfl, hq, q⟩ | ⟨a, xs, rfl, hq, q⟩ | ⟨z, rfl, q⟩) | ⟨d, o, kvs, rfl, hd, q⟩⟩
  · cases r1
    obtain ⟨its, rv, p, _⟩ := I1.list hq
    exact wpAny_pyIter_list p.isList (pi_one (tk := s1.toks) I1 _ (turn_list a _) ⟨_, Heap.get?_push_size _ rfl, rfl, rfl⟩ q)
  · cases r1
    obtain ⟨its, rv, p, _⟩ := I1.tuple hq
    exact wpAny_pyIter_tuple (show s1.heap.IsTuple a its.toArray from p) (pi_one (tk := s1.toks) I1 _ (turn_tuple a _) ⟨_, Heap.get?_push_size _ rfl, rfl, rfl⟩ q)
  · obtain ⟨t, rfl⟩ := r1
    cases hz : z.cps.all (· < 128) with
    | false => exact wpAny_pyIter_wide hz (pi_one (tk := s1.toks) I1 _ (turn_str _ z t "str_iterator" (.inr rfl)) ⟨_, Heap.get?_push_size _ rfl, rfl, rfl⟩ q)
    | true => exact wpAny_pyIter_ascii hz (pi_one (tk := s1.toks) I1 _ (turn_str _ z t "str_ascii_iterator" (.inl rfl)) ⟨_, Heap.get?_push_size _ rfl, rfl, rfl⟩ q)
  · cases r1
    obtain ⟨hs, hgd, hx, es, ep, vs, hdt, hsz, kv, hm⟩ := I1.frzK hd
    refine iter_keys hs hgd hx hdt (pi_one (tk := s1.toks) I1 _ (turn_keys _ hdt) ⟨_, Heap.get?_push_size _ rfl, rfl, ?_⟩ q)
    rw [hsz] <;> rfl
theorem src_strG {z : Str} {ok : RelS} : SrcG K mg ok (Its z) (signs z) := by
  refine ⟨fun _ => True, _, (by unfold signs; rw [List.length_map, Array.length_toList]; exact walk_str), fun _ _ _ _ _ _ => trivial, fun i H2 x H3 O2 ad2 S2 h2 s2 hi y => ?_⟩
  obtain ⟨rfl, c, hc, rfl⟩ := y
  exact ⟨_, signs_get hc, .refl _ _ _, s2, .str _⟩
theorem src_rngG {lo : Int} {n : Nat} {ok : RelS} : SrcG K mg ok (Itr lo n) (rng lo n) := by
  refine ⟨fun _ => True, _, (by unfold rng; rw [List.length_map, List.length_range]; exact walk_range), fun _ _ _ _ _ _ => trivial, fun i H2 x H3 O2 ad2 S2 h2 s2 hi y => ?_⟩
  obtain ⟨rfl, rfl⟩ := y
  have hl : i < n := by simpa [rng] using hi
  exact ⟨.int (lo + (i : Int)), by simp [rng, hl], .refl _ _ _, s2, .int _⟩
theorem src_keysG {d : Addr} {ob : Obj} {kvs : List (Key × V)} {l : List (Key × D)} {ok : RelS} (hf : ∀ O2 ad2 S2 H2, ok O2 ad2 S2 H2 → H2 d = some (.frz ob (.dK kvs))) (e : kvs.map (·.1) = l.map (·.1)) :
    SrcG K mg ok (Itk d ob kvs) (l.map fun kv => keyD kv.1) := by
  have hl : kvs.length = l.length := by simpa using congrArg List.length e
  refine ⟨_, _, (by rw [List.length_map, ← hl]; exact walk_keys), fun O2 ad2 S2 H2 h2 _ => hf O2 ad2 S2 H2 h2, fun i H2 x H3 O2 ad2 S2 h2 s2 hi y => ?_⟩
  obtain ⟨rfl, k, v, hk, rfl⟩ := y
  have e1 : (l.map (·.1))[i]? = some k := by rw [← e, List.getElem?_map, hk]; rfl
  rw [List.getElem?_map] at e1
  obtain ⟨p, hp, rfl⟩ := Option.map_eq_some_iff.mp e1
  refine ⟨_, by rw [List.getElem?_map, hp]; rfl, .refl _ _ _, s2, ?_⟩
  show Rep K mg (hide O2 H3) ad2 (kV p.1) (keyD p.1)
  cases p.1 with
  | inl i => exact .int i
  | inr x => exact .str x
theorem w_jseq (R : RelOk rel own) {m : ME} : ∀ σ H R', Ej K mg rel W (j_seq own m) σ H R' → iSeqK K (Ee K mg W m) σ H R' := by
  intro σ H R' q
  refine (bindEJ (f := fun ρ d S1 => liftJ S1 (seqJ own ρ S1 d)) q).imp fun v H1 g => ?_
  obtain ⟨O, ad, S, ρ, d, s, fr, r, k⟩ := g
  obtain ⟨⟨ds, gs⟩, ez⟩ := liftJ_ok k
  rw [ez] at k
  have lst : lstJ own ρ S d = some (ds, gs) → (∃ a xs, v = .ref a ∧ SqL K H1 a xs ∧ R' (Itl K a) H1) := fun h => by
    obtain ⟨a, hv, hA⟩ := at_lst R s fr r h
    obtain ⟨vs, hq⟩ := hA.now R s
    exact ⟨a, vs, hv, hq, k O ad H1 _ (.refl _ _ _) s (src_S hA)⟩
  cases d with
  | tup l =>
    cases ez
    obtain ⟨a, hv, hA⟩ := at_tup (gs := []) R s r
    obtain ⟨vs, hq⟩ := hA.now R s
    exact .inl (.inr (.inl ⟨a, vs, hv, hq, k O ad H1 _ (.refl _ _ _) s (src_S hA)⟩))
  | str z =>
    cases ez
    cases r
    exact .inl (.inr (.inr ⟨z, rfl, k O ad H1 _ (.refl _ _ _) s src_strG⟩))
  | dcf l =>
    cases ez
    cases r with
    | dcf h1 h2 =>
      exact .inr ⟨_, _, _, rfl, un_hide _ _ h1, k O ad H1 _ (.refl _ _ _) s (src_keysG (fun O2 ad2 S2 H2 ⟨g, _⟩ => un_hide _ _ ((R.grow _ _ _ _ _ _ s.hid g).ex _ _ h1)) h2.keys)⟩
  | _ => exact .inl (.inl (lst ez))
theorem w_jenum (R : RelOk rel own) {m : ME} : ∀ σ H R', Ej K mg rel W (j_enum own m) σ H R' → iEnum2 K (Ee K mg W m) σ H R' := by
  intro σ H R' q
  refine (bindEJ (f := fun ρ d S1 => liftJ S1 (enumJ own ρ S1 d)) q).imp fun v H1 g => ?_
  obtain ⟨O, ad, S, ρ, d, s, fr, r, k⟩ := g
  obtain ⟨⟨ds, gs⟩, ez⟩ := liftJ_ok k
  rw [ez] at k
  have lst : (lstJ own ρ S d).map (fun p => (enumD p.1, p.2)) = some (ds, gs) → ∃ a xs, v = .ref a ∧ ((SqL K H1 a xs ∧ R' (Ite K a) H1) ∨ (SqT K H1 a xs ∧ R' (IteT K a) H1)) := fun h => by
    obtain ⟨⟨l, gl⟩, hl, e⟩ := Option.map_eq_some_iff.mp h
    cases e
    obtain ⟨a, hv, hA⟩ := at_lst R s fr r hl
    obtain ⟨vs, hq⟩ := hA.now R s
    exact ⟨a, vs, hv, .inl ⟨hq, k O ad H1 _ (.refl _ _ _) s (src_E hA)⟩⟩
  cases d with
  | tup l =>
    cases ez
    obtain ⟨a, hv, hA⟩ := at_tup (gs := []) R s r
    obtain ⟨vs, hq⟩ := hA.now R s
    exact ⟨a, vs, hv, .inr ⟨hq, k O ad H1 _ (.refl _ _ _) s (src_E hA)⟩⟩
  | _ => exact lst ez
/-- zip of two lists, of two tuples -/
def iZip2 (K : PySem.W.Frag) (ta tb : TE) : TI := fun σ H R => ta σ H fun v H1 => tb σ H1 fun w H2 => ∃ a b xs ys, v = .ref a ∧ w = .ref b ∧ ((SqL K H2 a xs ∧ SqL K H2 b ys ∧ R (Itz K a b) H2) ∨ (SqT K H2 a xs ∧ SqT K H2 b ys ∧ R (RZ.ItzT K a b) H2))
theorem Same.app {gs hs : List Nat} {S0 S : Sg} (h : Same (gs ++ hs) S0 S) : Same gs S0 S ∧ Same hs S0 S := ⟨fun n m => h n (List.mem_append_left _ m), fun n m => h n (List.mem_append_right _ m)⟩
theorem w_jzip (R : RelOk rel own) {m m2 : ME} : ∀ σ H R', Ej K mg rel W (j_zip own m m2) σ H R' → iZip2 K (Ee K mg W m) (Ee K mg W m2) σ H R' := by
  rintro σ H R' ⟨O, ad, S, ρ, s, fr, h⟩
  refine ⟨O, ad, S, ρ, s, fr, ?_⟩
  unfold j_zip at h
  cases e : m ρ S with
  | no => rw [e] at h; exact h
  | er x fs S1 => rw [e] at h; exact h
  | ok d S1 =>
    rw [e] at h
    intro v O1 ad1 H1 t1 s1 r1
    have h1 := PostJ.rebase (o := (m2 ρ S1).bind fun e S2 => liftJ S2 (zipJ own ρ S2 d e)) h t1 s.hid s1.dom
    clear h
    have fr1 := fr.step s.hid t1
    refine ⟨O1, ad1, S1, ρ, s1, fr1, ?_⟩
    cases e2 : m2 ρ S1 with
    | no => rw [e2] at h1; exact h1
    | er x fs S2 => rw [e2] at h1; exact h1
    | ok d2 S2 =>
      rw [e2] at h1
      intro w O2 ad2 H2 t2 s2 r2
      have h2 := PostJ.rebase (o := liftJ S2 (zipJ own ρ S2 d d2)) h1 t2 s1.hid s2.dom
      clear h1
      have fr2 := fr1.step s1.hid t2
      have r1' := r1.step s1.hid t2
      obtain ⟨⟨ds, gs⟩, ez⟩ := liftJ_ok h2
      rw [ez] at h2
      have lst : ((lstJ own ρ S2 d).bind fun p => (lstJ own ρ S2 d2).map fun q => (zipD p.1 q.1, p.2 ++ q.2)) = some (ds, gs) → ∃ a b xs ys, v = .ref a ∧ w = .ref b ∧ ((SqL K H2 a xs ∧ SqL K H2 b ys ∧ R' (Itz K a b) H2) ∨ (SqT K H2 a xs ∧ SqT K H2 b ys ∧ R' (RZ.ItzT K a b) H2)) := fun h => by
        obtain ⟨⟨l, gl⟩, hl, h⟩ := Option.bind_eq_some_iff.mp h
        obtain ⟨⟨l2, gl2⟩, hl2, e⟩ := Option.map_eq_some_iff.mp h
        cases e
        obtain ⟨a, hv, hA⟩ := at_lst R s2 fr2 r1' hl
        obtain ⟨b, hw, hB⟩ := at_lst R s2 fr2 r2 hl2
        obtain ⟨vs, hq⟩ := hA.now R s2
        obtain ⟨ws, hq2⟩ := hB.now R s2
        exact ⟨a, b, vs, ws, hv, hw, .inl ⟨hq, hq2, h2 O2 ad2 H2 _ (.refl _ _ _) s2 (src_Z (fun O3 ad3 S3 H3 ⟨g, sm⟩ z => hA O3 ad3 S3 H3 ⟨g, sm.app.1⟩ z) (fun O3 ad3 S3 H3 ⟨g, sm⟩ z => hB O3 ad3 S3 H3 ⟨g, sm.app.2⟩ z))⟩⟩
      by_cases hb : ∃ l l2, d = .tup l ∧ d2 = .tup l2
      · obtain ⟨l, l2, rfl, rfl⟩ := hb
        cases ez
        obtain ⟨a, hv, hA⟩ := at_tup (gs := []) R s2 r1'
        obtain ⟨b, hw, hB⟩ := at_tup (gs := []) R s2 r2
        obtain ⟨vs, hq⟩ := hA.now R s2
        obtain ⟨ws, hq2⟩ := hB.now R s2
        exact ⟨a, b, vs, ws, hv, hw, .inr ⟨hq, hq2, h2 O2 ad2 H2 _ (.refl _ _ _) s2 (src_Z hA hB)⟩⟩
      · refine lst ?_
        unfold zipJ at ez
        split at ez
        · exact (hb ⟨_, _, rfl, rfl⟩).elim
        · exact ez
theorem w_jrngA {r : MA} : ∀ σ H R, Ej K mg rel W (j_rng r) σ H R → Ea K mg W r σ H fun vs H1 => (∃ j : Int, vs = [.int j] ∧ -(2 ^ 62) ≤ j ∧ j < 2 ^ 62 ∧ R (Itr 0 j.toNat) H1) ∨ ∃ i j : Int, vs = [.int i, .int j] ∧ (-(2 ^ 62) ≤ i ∧ i < 2 ^ 62 ∧ -(2 ^ 62) ≤ j ∧ j < 2 ^ 62) ∧ R (Itr i (j - i).toNat) H1 := by
  rintro σ H R ⟨O, ad, S, ρ, s, fr, h⟩
  refine ⟨O, ad, S, ρ, s, fr, ?_⟩
  unfold j_rng at h
  cases e : r ρ S with
  | no => rw [e] at h; exact h
  | er x fs S1 => rw [e] at h; exact h
  | ok ds S1 =>
    rw [e] at h
    intro vs O1 ad1 H1 t1 s1 r1
    have h1 := PostJ.rebase (o := liftJ S1 ((rngOf ds).map fun l => (l, []))) h t1 s.hid s1.dom
    obtain ⟨z, ez⟩ := liftJ_ok h1
    rw [ez] at h1
    obtain ⟨l, el, rfl⟩ := Option.map_eq_some_iff.mp ez
    unfold rngOf at el
    split at el
    · rename_i n
      split at el
      · rename_i hb
        cases el
        cases r1 with
        | cons ra rb =>
          cases rb
          cases rint ra
          exact .inl ⟨n, rfl, by omega, by omega, h1 O1 ad1 H1 _ (.refl _ _ _) s1 src_rngG⟩
      · cases el
    · rename_i a b
      split at el
      · rename_i hb
        cases el
        cases r1 with
        | cons ra rb =>
          cases rb with
          | cons rb rc =>
            cases rc
            cases rint ra
            cases rint rb
            exact .inr ⟨a, b, rfl, by omega, h1 O1 ad1 H1 _ (.refl _ _ _) s1 src_rngG⟩
      · cases el
    · cases el
end
section
variable {X : Cx} {W : WX} {rel : Rel} {own : Bool} {tg e e2 : Expr} {m m2 : ME} {p pos tpos : Pos} {elts : List Expr} {kk : Nat}
theorem J_seq (R : RelOk rel own) (h : PE X e (Ee X.g X.mg W m)) : PI X tg e (Ej X.g X.mg rel W (j_seq own m)) := pi_of (pi_seqK h) (w_jseq R)
theorem J_enum (R : RelOk rel own) (hg : Gl X "enumerate") (hm : X.mg "enumerate" = none) (h : PE X e (Ee X.g X.mg W m)) (hs : starEach [e] X.env = [(false, eval e X.env)] := by rfl) :
    PI X (.Tuple elts kk tpos) (.Call (.Name "enumerate" p) [e] [] pos) (Ej X.g X.mg rel W (j_enum own m)) := by
  refine ⟨fun pins s σ H R' I q => ?_⟩
  refine Call_ (ld_blt I hg hm boot_enumerate (PyProof.Rows.callWith_type1 (thn ((pa_cons h pa_nil hs).run pos pins s σ H (fun vs H1 => ∃ a xs, vs = [V.ref a] ∧ ((SqL X.K H1 a xs ∧ R' (Ite X.K a) H1) ∨ (SqT X.K H1 a xs ∧ R' (IteT X.K a) H1))) I ((w_jenum R σ H R' q).imp fun v H1 g => ?_)) fun us s1 ⟨vs, H1, I1, r1, q1⟩ => ?_) hs rfl))
  · obtain ⟨a, xs, rfl, g⟩ := g
    exact ⟨a, xs, rfl, g⟩
  · obtain ⟨a, xs, rfl, q1⟩ := q1
    cases r1 with
    | cons r rr =>
      cases rr
      cases r
      have fp : ∀ b ∈ [s1.heap.objs.size + 1, s1.heap.objs.size], s1.heap.objs.size ≤ b := fun b hb => by
        rcases (show b = s1.heap.objs.size + 1 ∨ b = s1.heap.objs.size by simpa using hb) with z | z
        · rw [z]; exact Nat.le_add_right _ _
        · rw [z]; exact Nat.le_refl _
      rcases q1 with ⟨hq, g⟩ | ⟨hq, g⟩
      · obtain ⟨its, rv, p', hz⟩ := I1.list hq
        refine call_enumerate_list p'.isList fun h' he hit hsz hk => wpAny_pyIter_enum he ?_
        exact ⟨s1.heap.objs.size + 1, [s1.heap.objs.size + 1, s1.heap.objs.size], _, _, H1, rfl, I1.kept (t' := s1.toks) hk, turn_enum a (s1.heap.objs.size + 1) s1.heap.objs.size, ⟨⟨.none, he⟩, hit, Nat.succ_ne_self _⟩, fun b hb => I1.fpOk (fp b hb) (I1.hok.fresh (fp b hb)), g⟩
      · obtain ⟨its, rv, p', hz⟩ := I1.tuple hq
        have la : a < s1.heap.objs.size := p'.lt
        refine enum_tuple (show s1.heap.IsTuple a its.toArray from p') fun h' he hit hsz hk => wpAny_pyIter_enum he ?_
        exact ⟨s1.heap.objs.size + 1, [s1.heap.objs.size + 1, s1.heap.objs.size], _, _, H1, rfl, I1.kept (t' := s1.toks) hk, turn_enumT a (s1.heap.objs.size + 1) s1.heap.objs.size (Nat.ne_of_lt la) (Nat.ne_of_lt (Nat.lt_succ_of_lt la)), ⟨⟨.none, he⟩, hit, Nat.succ_ne_self _⟩, fun b hb => I1.fpOk (fp b hb) (I1.hok.fresh (fp b hb)), g⟩
theorem J_zip (R : RelOk rel own) (hg : Gl X "zip") (hm : X.mg "zip" = none) (h : PE X e (Ee X.g X.mg W m)) (h2 : PE X e2 (Ee X.g X.mg W m2))
    (hs : starEach [e, e2] X.env = (false, eval e X.env) :: starEach [e2] X.env := by rfl) (hs2 : starEach [e2] X.env = (false, eval e2 X.env) :: starEach [] X.env := by rfl) (hpl : (backTo pos (starEach [e2] X.env)).any (·.1) = false := by rfl) :
    PI X (.Tuple elts kk tpos) (.Call (.Name "zip" p) [e, e2] [] pos) (Ej X.g X.mg rel W (j_zip own m m2)) := by
  refine pi_of (RZ.pi_zipA hg hm (pa_cons h (pa_cons h2 pa_nil hs2) hs) hs hpl) fun σ H R' q => ?_
  refine (w_jzip R σ H R' q).imp fun v H1 g => Ee.imp g fun w H2 g => ?_
  obtain ⟨a, b, xs, ys, rfl, rfl, g⟩ := g
  exact ⟨a, b, xs, ys, rfl, g⟩
end
end Gd

/-! Gd, part 24: targets of any shape; for and list comprehensions over the sources of part 23. -/
namespace Gd
open PySem L2 PyProof.Rows

theorem wipe_len : ∀ (l : List Nat) (τ : L2.St), (L2.wipe τ l).length = τ.length
  | [], _ => rfl
  | a :: l, τ => by
    show ((L2.wipe τ l).set a none).length = _
    rw [List.length_set, wipe_len l τ]
theorem wipe_at : ∀ (l : List Nat) (τ : L2.St) (j : Nat), (L2.wipe τ l)[j]? = if j ∈ l then (τ[j]?).map fun _ => none else τ[j]?
  | [], τ, j => by simp [L2.wipe]
  | a :: l, τ, j => by
    show ((L2.wipe τ l).set a none)[j]? = _
    by_cases e : a = j
    · subst e
      rw [if_pos List.mem_cons_self, List.getElem?_set_self', wipe_at l τ a]
      split <;> cases τ[a]? <;> rfl
    · rw [List.getElem?_set_ne e, wipe_at l τ j]
      by_cases m : j ∈ l
      · rw [if_pos m, if_pos (List.mem_cons_of_mem _ m)]
      · rw [if_neg m, if_neg (by simp [m, Ne.symm e])]
theorem wipe_iff {l : List Nat} {a b : L2.St} : L2.wipe a l = L2.wipe b l ↔ a.length = b.length ∧ ∀ j, j ∉ l → a[j]? = b[j]? := by
  constructor
  · intro h
    refine ⟨by have := congrArg List.length h; rwa [wipe_len, wipe_len] at this, fun j n => ?_⟩
    have := congrArg (fun z : L2.St => z[j]?) h
    simp only [wipe_at, if_neg n] at this
    exact this
  · rintro ⟨h1, h2⟩
    refine List.ext_getElem? fun j => ?_
    rw [wipe_at, wipe_at]
    by_cases m : j ∈ l
    · rw [if_pos m, if_pos m]
      by_cases hl : j < a.length
      · rw [List.getElem?_eq_getElem hl, List.getElem?_eq_getElem (h1 ▸ hl)]; rfl
      · rw [List.getElem?_eq_none (by omega), List.getElem?_eq_none (by omega)]
    · rw [if_neg m, if_neg m]; exact h2 j m
abbrev Tgt := D → Ro → Option Ro
/-- targets of the items of a tuple -/
def t_items : List Tgt → List D → Ro → Option Ro
  | [], [], ρ => some ρ
  | t :: ts, d :: ds, ρ => if isLoc d = true then none else (t d ρ).bind (t_items ts ds)
  | _, _, _ => none
def t_tup (ts : List Tgt) : Tgt := fun d ρ => match d with
  | .tup ds => t_items ts ds ρ
  | _ => none
/-- targets of items, one by one -/
def TgsOk (K : Fg) (mg : Mg) (ts : List Nat) (g : TGs) (tgt : List D → Ro → Option Ro) : Prop :=
  ∀ O ad ρ σ H vs ds ρ1, Fre K mg O ad ρ σ H → Reps K mg (hide O H) ad vs ds → tgt ds ρ = some ρ1 →
    ∃ σ1, Fre K mg O ad ρ1 σ1 H ∧ (∀ (j : Nat) e a, ρ1[j]? = some (.ow e) → σ1[j]? = some (some (.ref a)) → ρ[j]? = some (.ow e) ∧ σ[j]? = some (some (.ref a))) ∧ wipe σ1 ts = wipe σ ts ∧ ∀ Q : L2.St → Hp → Prop, Q σ1 H → g vs σ H Q
section
variable {K : Fg} {mg : Mg}
theorem tgs_nil : TgsOk K mg [] gNil (t_items []) := by
  intro O ad ρ σ H vs ds ρ1 f r h
  cases ds with
  | nil =>
    cases h
    cases r
    exact ⟨σ, f, fun _ _ _ h1 h2 => ⟨h1, h2⟩, rfl, fun Q q => ⟨rfl, q⟩⟩
  | cons d ds => cases h
theorem tgs_cons {t1 t2 : List Nat} {g : TG} {gs : TGs} {t : Tgt} {ts : List Tgt} (h1 : TgOk K mg t1 g t) (h2 : TgsOk K mg t2 gs (t_items ts)) : TgsOk K mg (t1 ++ t2) (gCons g gs) (t_items (t :: ts)) := by
  intro O ad ρ σ H vs ds ρ1 f r h
  cases ds with
  | nil => cases h
  | cons d ds =>
    cases r with
    | @cons v _ vs _ ra rb =>
      unfold t_items at h
      split at h
      · cases h
      · obtain ⟨ρ2, e1, e2⟩ := Option.bind_eq_some_iff.mp h
        obtain ⟨σ1, f1, o1, w1, k1⟩ := h1 O ad ρ σ H v d ρ2 f ra e1
        obtain ⟨σ2, f2, o2, w2, k2⟩ := h2 O ad ρ2 σ1 H vs ds ρ1 f1 rb e2
        refine ⟨σ2, f2, fun j e a q1 q2 => ?_, ?_, fun Q q => ⟨v, vs, rfl, k1 _ (k2 Q q)⟩⟩
        · obtain ⟨q3, q4⟩ := o2 j e a q1 q2
          exact o1 j e a q3 q4
        · rw [wipe_iff] at w1 w2 ⊢
          exact ⟨w2.1.trans w1.1, fun j n => (w2.2 j fun m => n (List.mem_append_right _ m)).trans (w1.2 j fun m => n (List.mem_append_left _ m))⟩
theorem tg_tup {n : Nat} {l : List Nat} {gs : TGs} {ts : List Tgt} (h : TgsOk K mg l gs (t_items ts)) (hn : ts.length = n) : TgOk K mg l (gTup K n gs) (t_tup ts) := by
  intro O ad ρ σ H x d ρ1 f r e
  unfold t_tup at e
  split at e
  · rename_i ds
    cases r with
    | @tup a vs _ q1 q2 =>
      obtain ⟨σ1, f1, o1, w1, k1⟩ := h O ad ρ σ H vs ds ρ1 f q2 e
      refine ⟨σ1, f1, o1, w1, fun Q q => ⟨a, vs, rfl, sqt_mono un_hide q1, ?_, k1 Q q⟩⟩
      rw [q2.length]
      have len : ∀ (ts : List Tgt) (ds : List D) (ρ ρ1 : Ro), t_items ts ds ρ = some ρ1 → ds.length = ts.length := by
        intro ts
        induction ts with
        | nil =>
          intro ds ρ ρ1 h
          cases ds with
          | nil => rfl
          | cons d ds => cases h
        | cons t ts ih =>
          intro ds ρ ρ1 h
          cases ds with
          | nil => cases h
          | cons d ds =>
            unfold t_items at h
            split at h
            · cases h
            · obtain ⟨ρ2, _, e2⟩ := Option.bind_eq_some_iff.mp h
              rw [List.length_cons, List.length_cons, ih _ _ _ e2]
      rw [len _ _ _ _ e, hn]
  · cases e
/-- a list, too -/
theorem tg_unl {n : Nat} {l : List Nat} {gs : TGs} {ts : List Tgt} (h : TgsOk K mg l gs (t_items ts)) (hn : ts.length = n) : TgOk K mg l (gLst K n gs) (fun d ρ => match d with
    | .lst ds => if ds.length = n then t_items ts ds ρ else none
    | _ => none) := by
  intro O ad ρ σ H x d ρ1 f r e
  dsimp only at e
  split at e
  · rename_i ds
    split at e
    · rename_i hl
      cases r with
      | @lst a vs _ q1 q2 =>
        obtain ⟨σ1, f1, o1, w1, k1⟩ := h O ad ρ σ H vs ds ρ1 f q2 e
        exact ⟨σ1, f1, o1, w1, fun Q q => ⟨a, vs, rfl, sql_mono un_hide q1, by rw [q2.length, hl], k1 Q q⟩⟩
    · cases e
  · cases e
end
/-! ### for, list comprehensions -/
section
variable {X : Cx} {W : WX} {tg : Expr} {pos : Pos} {e a b : Expr} {ma mb : ME} {p : Pos} {rel : Rel}
theorem J_rng1 (hg : Gl X "range") (hm : X.mg "range" = none) (ha : PE X a (Ee X.g X.mg W ma)) (h1 : starEach (a :: []) X.env = (false, eval a X.env) :: starEach [] X.env := by rfl) (hs : starEach [a] X.env = [(false, eval a X.env)] := by rfl) :
    PI X tg (.Call (.Name "range" p) [a] [] pos) (Ej X.g X.mg rel W (j_rng (a_cons ma a_nil))) :=
  pi_of (pi_range1 hg hm (A_cons ha A_nil h1) hs) fun σ H R q => by
    obtain ⟨O, ad, S, ρ, s, fr, k⟩ := w_jrngA σ H R q
    refine ⟨O, ad, S, ρ, s, fr, ?_⟩
    have al := aLen_cons (m := ma) aLen_nil ρ S
    cases e2 : a_cons ma a_nil ρ S with
    | no => rw [e2] at k; exact k
    | er x fs S1 => rw [e2] at k; exact k
    | ok ds S1 =>
      rw [e2] at k al
      intro vs O' ad' H' t z r
      rcases k vs O' ad' H' t z r with q | ⟨i, j, rfl, q⟩
      · exact q
      · have := Paired.length r
        rw [al] at this
        cases this
theorem J_rng2 (hg : Gl X "range") (hm : X.mg "range" = none) (ha : PE X a (Ee X.g X.mg W ma)) (hb : PE X b (Ee X.g X.mg W mb)) (h1 : starEach (b :: []) X.env = (false, eval b X.env) :: starEach [] X.env := by rfl) (h2 : starEach (a :: [b]) X.env = (false, eval a X.env) :: starEach [b] X.env := by rfl) (hs : starEach [a, b] X.env = [(false, eval a X.env), (false, eval b X.env)] := by rfl) :
    PI X tg (.Call (.Name "range" p) [a, b] [] pos) (Ej X.g X.mg rel W (j_rng (a_cons ma (a_cons mb a_nil)))) :=
  pi_of (pi_range2 hg hm (A_cons ha (A_cons hb A_nil h1) h2) hs (hs2 := h1)) fun σ H R q => by
    obtain ⟨O, ad, S, ρ, s, fr, k⟩ := w_jrngA σ H R q
    refine ⟨O, ad, S, ρ, s, fr, ?_⟩
    have al := aLen_cons (m := ma) (aLen_cons (m := mb) aLen_nil) ρ S
    cases e2 : a_cons ma (a_cons mb a_nil) ρ S with
    | no => rw [e2] at k; exact k
    | er x fs S1 => rw [e2] at k; exact k
    | ok ds S1 =>
      rw [e2] at k al
      intro vs O' ad' H' t z r
      rcases k vs O' ad' H' t z r with ⟨j, rfl, q⟩ | ⟨i, j, rfl, q1, q⟩
      · have := Paired.length r
        rw [al] at this
        cases this
      · exact ⟨i, j, rfl, q1, q⟩
end
section
variable {X : Cx} {W : WX} {tg : Expr} {pos : Pos}
theorem S_forG {iter : Expr} {body : List Stmt} {mi : MJ} {ts : List Nat} {g : TG} {tgt : Tgt} {mb : MS} (hp : PassesOwn (model X.prog X.w) X.A X.env X.xe) (hc : X.calm = true) (hi : PI X tg iter (Ej X.g X.mg Grow W mi)) (hg : PG X tg g) (tk : TgOk X.g X.mg ts g tgt)
    (hb : PSs X body (Ss X.g X.mg W mb)) (hs : ∀ x, foldedSetIterable iter X.env x = pure x := by intro _; rfl) : PS X (.For tg iter body [] pos) (Ss X.g X.mg W (s_forG mi tgt mb)) := ps_of (ps_for hp hc hi hg hb hs) (w_forG tk)
variable {elt iter : Expr} {ifs : List Expr} {scope : Scope} {own : List (Str × Nat)} {mi : MJ} {g : TG} {tgt : Tgt} {t : MT} {m : ME}
theorem F_lcG (hc : X.calm = true) (hN : X.N.Nodup) (hi : PI X tg iter (Ej X.g X.mg Stp W mi)) (ok : BlkOk X.N X.env.scope scope own) (tk : TgOk X.g X.mg (own.map (·.2)) g tgt)
    (hg : ∀ (s : Shared) (H : Hp) (C : Addr) (cl : List (Str × Addr)) (fp : List Addr), PG (X.blk s H scope (compEnvC scope cl C X.env) fp) tg g) (ht : ∀ (s : Shared) (H : Hp) (C : Addr) (cl : List (Str × Addr)) (fp : List Addr), PTs (X.blk s H scope (compEnvC scope cl C X.env) fp) ifs (Et X.g X.mg W0 t))
    (he : ∀ (s : Shared) (H : Hp) (C : Addr) (cl : List (Str × Addr)) (fp : List Addr), PE (X.blk s H scope (compEnvC scope cl C X.env) fp) elt (Ee X.g X.mg W0 m)) (hs : ∀ x, foldedSetIterable iter X.env x = pure x := by intro _; rfl) :
    PE X (.ListComp elt [⟨tg, iter, ifs, 0⟩] scope pos) (Ef X.g X.mg W (f_lcG (own.map (·.2)) mi tgt t m)) := pe_of (pe_lc hc hN hi ok hg ht he hs) (w_lcG tk)
/-- name = [..], as a slot's own, a value, a thing of the store -/
theorem S_lcG {i : Nat} {y : Str} {py : Pos} {spos : Pos} {ms : ME → MS} (hm : ∀ {K : Fg} {mg : Mg} {W : WX} {m : ME} Dn σ H, Ss K mg W (ms m) Dn σ H → tAsg (Ef K mg W m) (gName i) Dn σ H) (hc : X.calm = true) (hN : X.N.Nodup) (hy : X.N[i]? = some y) (hyl : X.env.scope.names.lookup y = some .local)
    (hsw : swapsWith (.ListComp elt [⟨tg, iter, ifs, 0⟩] scope pos) (some (.Name y py)) spos.line X.env = pure true) (hi : PI X tg iter (Ej X.g X.mg Stp W mi)) (ok : BlkOk X.N X.env.scope scope own) (tk : TgOk X.g X.mg (own.map (·.2)) g tgt)
    (hg : ∀ (s : Shared) (H : Hp) (C : Addr) (cl : List (Str × Addr)) (fp : List Addr), PG (X.blk s H scope (compEnvC scope cl C X.env) fp) tg g) (ht : ∀ (s : Shared) (H : Hp) (C : Addr) (cl : List (Str × Addr)) (fp : List Addr), PTs (X.blk s H scope (compEnvC scope cl C X.env) fp) ifs (Et X.g X.mg W0 t))
    (he : ∀ (s : Shared) (H : Hp) (C : Addr) (cl : List (Str × Addr)) (fp : List Addr), PE (X.blk s H scope (compEnvC scope cl C X.env) fp) elt (Ee X.g X.mg W0 m)) (hs : ∀ x, foldedSetIterable iter X.env x = pure x := by intro _; rfl) :
    PS X (.Assign [.Name y py] (.ListComp elt [⟨tg, iter, ifs, 0⟩] scope pos) spos) (Ss X.g X.mg W (ms (f_lcG (own.map (·.2)) mi tgt t m))) :=
  ps_of (ps_setLc hc hN hy hyl hsw hi ok hg ht he hs) fun Dn σ H q => w_lcG tk _ _ _ (hm Dn σ H q)
theorem h_own {i : Nat} : ∀ {K : Fg} {mg : Mg} {W : WX} {m : ME} Dn σ H, Ss K mg W (s_own i m) Dn σ H → tAsg (Ef K mg W m) (gName i) Dn σ H := fun Dn σ H q => w_own (i := i) Dn σ H q
theorem h_set {i : Nat} : ∀ {K : Fg} {mg : Mg} {W : WX} {m : ME} Dn σ H, Ss K mg W (s_set i m) Dn σ H → tAsg (Ef K mg W m) (gName i) Dn σ H := fun Dn σ H q => w_fz _ _ _ (w_set (i := i) Dn σ H q)
theorem h_sh {i : Nat} : ∀ {K : Fg} {mg : Mg} {W : WX} {m : ME} Dn σ H, Ss K mg W (s_set i (e_sh m)) Dn σ H → tAsg (Ef K mg W m) (gName i) Dn σ H := fun Dn σ H q => w_sh _ _ _ (w_set (i := i) Dn σ H q)
end
end Gd

/-! Gd, part 25: dict comprehensions with two clauses. -/
namespace Gd
open PySem L2 PyProof.Rows

abbrev dc2 (kx vx t0 i0 t1 i1 : Expr) (f0 f1 : List Expr) (scope : Scope) (pos : Pos) : Expr := .DictComp kx vx [⟨t0, i0, f0, 0⟩, ⟨t1, i1, f1, 0⟩] scope pos
section
variable {kx vx t0 i0 t1 i1 : Expr} {f0 f1 : List Expr} {scope : Scope} {pos : Pos}
theorem dc2_turn0 (it acc : Value) (env : Env) : compTurn (dc2 kx vx t0 i0 t1 i1 f0 f1 scope pos) 0 it acc env = (do
      standAt i0.pos
      match ← pyNext it with
      | none => pure (.done .next)
      | some v =>
        letOwnedTupleGo t0 it v
        assign t0 env v
        let mut ok := true
        for c in f0 do
          if ok then ok ← isTrue c env (eval c env)
        if ok then
          let x ← eval i1 env
          standAt i1.pos
          let x ← foldedSetIterable i1 env x
          let _ ← runOwn (.compStart (dc2 kx vx t0 i0 t1 i1 f0 f1 scope pos) 1 (← holding [x] (pyIter x)) acc env) env
        again (.compLoop (dc2 kx vx t0 i0 t1 i1 f0 f1 scope pos) 0 it acc env)) := by rfl
theorem dc2_turn1 (it : Value) (D : Addr) (env : Env) : compTurn (dc2 kx vx t0 i0 t1 i1 f0 f1 scope pos) 1 it (.ref D) env = (do
      standAt i1.pos
      match ← pyNext it with
      | none => pure (.done .next)
      | some v =>
        letOwnedTupleGo t1 it v
        assign t1 env v
        let mut ok := true
        for c in f1 do
          if ok then ok ← isTrue c env (eval c env)
        if ok then
          (do
            let kv ← eval kx env
            let vv ← holding [kv] (eval vx env)
            standAt { kx.pos with endLine := vx.pos.endLine, endCol := vx.pos.endCol }
            holding [kv, vv] (dictSet D kv vv))
        again (.compLoop (dc2 kx vx t0 i0 t1 i1 f0 f1 scope pos) 1 it (.ref D) env)) := by rfl
variable {prog : Program} {w : World} {A : Around} {R : Result → Shared → Prop} {s : Shared} {it : Value} {D : Addr} {env : Env}
abbrev Nb (prog : Program) (w : World) (A : Around) (R : Result → Shared → Prop) (env : Env) : Value → Shared → Prop := notedBy (model prog w) A env fun e s' => R (.error e) s'
theorem dc2_loop0 (hs : ∀ x, foldedSetIterable i1 env x = pure x) (J : Nat → Shared → Prop)
    (go : ∀ n s, J n s → wpAny (model prog w) A (pyNext it) (fun r s1 => match r with
      | none => R (.ok .next) s1
      | some v => wpAny (model prog w) A (letOwnedTupleGo t0 it v) (fun _ s2 => wpAny (model prog w) A (assign t0 env v) (fun _ s3 =>
          wpAny (model prog w) A (forIn f0 true fun c r => if r = true then do let ok ← isTrue c env (eval c env); pure (ForInStep.yield ok) else pure (ForInStep.yield r)) (fun ok s4 =>
            if ok = true then wpAny (model prog w) A (eval i1 env) (fun x s5 => wpAny (model prog w) A (pyIter x) (fun it1 s6 =>
              codeAny (model prog w) A (.compStart (dc2 kx vx t0 i0 t1 i1 f0 f1 scope pos) 1 it1 (.ref D) env) (fun r s' => match r with
                | .ok _ => ∃ m, m < n ∧ J m s'
                | .error _ => False) s6) (Nb prog w A R env) s5) (Nb prog w A R env) s4
            else ∃ m, m < n ∧ J m s4) (Nb prog w A R env) s3) (Nb prog w A R env) s2) (Nb prog w A R env) s1) (Nb prog w A R env) s)
    (n : Nat) (h : J n s) : codeAny (model prog w) A (.compLoop (dc2 kx vx t0 i0 t1 i1 f0 f1 scope pos) 0 it (.ref D) env) R s := by
  refine codeAny_loop rfl J (fun n s hJ => ?_) n h
  show wpAny _ A ((compTurn (dc2 kx vx t0 i0 t1 i1 f0 f1 scope pos) 0 it (.ref D) env).onRaise (fun x => do noteFrame x env; theTreesLotGoes x)) _ _ s
  refine wpAny_noted ?_
  rw [dc2_turn0]
  refine wpAny_bind (wpAny_standAt (wpAny_bind (wpAny_mono (go n s hJ) (fun r s1 h1 => ?_) fun _ _ z => z)))
  cases r with
  | none => exact wpAny_pure h1
  | some v =>
    refine wpAny_bind (wpAny_mono h1 (fun _ s2 h2 => ?_) fun _ _ z => z)
    refine wpAny_bind (wpAny_mono h2 (fun _ s3 h3 => wpAny_bind (wpAny_mono h3 (fun ok s4 h4 => ?_) fun _ _ z => z)) fun _ _ z => z)
    cases ok with
    | false => exact wpAny_pure ⟨rfl, h4⟩
    | true =>
      refine wpAny_bind (wpAny_mono h4 (fun x s5 h5 => ?_) fun _ _ z => z)
      refine wpAny_bind (wpAny_standAt (wpAny_bind (wpAny_of_eq (hs x) (wpAny_bind (wpAny_holding (wpAny_mono h5 (fun it1 s6 h6 => ?_) fun _ _ z => z))))))
      refine wpAny_bind (wpAny_runOwn ?_)
      rw [Around.mark_none]
      refine codeAny_mono h6 fun r s' hr => ?_
      cases r with
      | ok f => first | exact wpAny_pure ⟨rfl, hr⟩ | exact wpAny_bind (wpAny_pure (wpAny_pure ⟨rfl, hr⟩))
      | error e => exact hr.elim
theorem dc2_loop1 (J : Nat → Shared → Prop)
    (go : ∀ n s, J n s → wpAny (model prog w) A (pyNext it) (fun r s1 => match r with
      | none => R (.ok .next) s1
      | some v => wpAny (model prog w) A (letOwnedTupleGo t1 it v) (fun _ s2 => wpAny (model prog w) A (assign t1 env v) (fun _ s3 =>
          wpAny (model prog w) A (forIn f1 true fun c r => if r = true then do let ok ← isTrue c env (eval c env); pure (ForInStep.yield ok) else pure (ForInStep.yield r)) (fun ok s4 =>
            if ok = true then wpAny (model prog w) A (eval kx env) (fun kv s5 => wpAny (model prog w) A (eval vx env) (fun vv s6 =>
              wpAny (model prog w) A (dictSet D kv vv) (fun _ s7 => ∃ m, m < n ∧ J m s7) (Nb prog w A R env) s6) (Nb prog w A R env) s5) (Nb prog w A R env) s4
            else ∃ m, m < n ∧ J m s4) (Nb prog w A R env) s3) (Nb prog w A R env) s2) (Nb prog w A R env) s1) (Nb prog w A R env) s)
    (n : Nat) (h : J n s) : codeAny (model prog w) A (.compLoop (dc2 kx vx t0 i0 t1 i1 f0 f1 scope pos) 1 it (.ref D) env) R s := by
  refine codeAny_loop rfl J (fun n s hJ => ?_) n h
  show wpAny _ A ((compTurn (dc2 kx vx t0 i0 t1 i1 f0 f1 scope pos) 1 it (.ref D) env).onRaise (fun x => do noteFrame x env; theTreesLotGoes x)) _ _ s
  refine wpAny_noted ?_
  rw [dc2_turn1]
  refine wpAny_bind (wpAny_standAt (wpAny_bind (wpAny_mono (go n s hJ) (fun r s1 h1 => ?_) fun _ _ z => z)))
  cases r with
  | none => exact wpAny_pure h1
  | some v =>
    refine wpAny_bind (wpAny_mono h1 (fun _ s2 h2 => ?_) fun _ _ z => z)
    refine wpAny_bind (wpAny_mono h2 (fun _ s3 h3 => wpAny_bind (wpAny_mono h3 (fun ok s4 h4 => ?_) fun _ _ z => z)) fun _ _ z => z)
    cases ok with
    | false => exact wpAny_pure ⟨rfl, h4⟩
    | true => exact wpAny_bind (wpAny_bind (wpAny_mono h4 (fun kv s5 h5 => wpAny_bind (wpAny_holding (wpAny_mono h5 (fun vv s6 h6 => wpAny_bind (wpAny_standAt (wpAny_holding (wpAny_mono h6 (fun _ s7 h7 => wpAny_pure ⟨rfl, h7⟩) fun _ _ z => z)))) fun _ _ z => z))) fun _ _ z => z))
theorem dc2_start1 (h0 : codeAny (model prog w) A (.compLoop (dc2 kx vx t0 i0 t1 i1 f0 f1 scope pos) 1 it (.ref D) env) R s)
    (h : wpAny (model prog w) A (pyIter it) (fun it' s' => codeAny (model prog w) A (.compLoop (dc2 kx vx t0 i0 t1 i1 f0 f1 scope pos) 1 it' (.ref D) env) R s') (Nb prog w A R env) s) :
    codeAny (model prog w) A (.compStart (dc2 kx vx t0 i0 t1 i1 f0 f1 scope pos) 1 it (.ref D) env) R s := by
  refine codeAny_of_tree ?_
  show wpAny _ _ ((compStart (dc2 kx vx t0 i0 t1 i1 f0 f1 scope pos) 1 it (.ref D) env).onRaise (fun x => do noteFrame x env; standAt theWindowsPlace)) _ _ s
  refine wpAny_notedAt ?_
  unfold compStart
  show wpAny _ _ (ask >>= _) _ _ s
  refine wpAny_bind (wpAny_askSetting (wpAny_ite ?_))
  split
  · first | exact wpAny_bind (wpAny_pure (wpAny_pure ⟨rfl, h0⟩)) | exact wpAny_pure ⟨rfl, h0⟩
  · first
      | exact wpAny_bind (wpAny_rule (wpAny_bind (wpAny_standAt (wpAny_bind (wpAny_mono h (fun it' s' z => wpAny_pure ⟨rfl, z⟩) fun _ _ z => z)))))
      | (refine wpAny_bind (wpAny_rule ?_); show wpAny _ _ (standAt i1.pos >>= _) _ _ s; exact wpAny_bind (wpAny_standAt (wpAny_bind (wpAny_mono h (fun it' s' z => wpAny_pure ⟨rfl, z⟩) fun _ _ z => z))))
end
section
variable {X : Cx}
/-- {k: v for tg in iter if .. for tg1 in iter1 if ..}: vs the block's names, vs1 those of the second target -/
def tDc2 (wi : TI) (g : TG) (tt : TT) (wi1 : TI) (g1 : TG) (tt1 : TT) (tk tv : TE) (vs vs1 : List Nat) : TE := fun σ H Q => wi σ H fun J H1 => ∀ D, H1 D = none → ∃ W : Nat → Nat → Hp → Prop, (∃ m, W 0 m (upd H1 D (.dK []))) ∧ ∀ i m H, W i m H →
  (J.stop i H ∧ Q (.ref D) H) ∨ (J.go i H ∧ ∃ N : Hp → Prop, (∀ H', N H' → ∃ m', m' < m ∧ W (i + 1) m' H') ∧ ∀ x H', J.yld i H x H' → g x (wipe σ vs) H' fun σ2 H2 => wipe σ2 vs = wipe σ vs ∧ tt σ2 H2 fun b H3 =>
    if b = true then wi1 σ2 H3 fun J1 H4 => ∃ W1 : Nat → Nat → Hp → Prop, (∃ m, W1 0 m H4) ∧ ∀ j k H, W1 j k H →
      (J1.stop j H ∧ N H) ∨ (J1.go j H ∧ ∃ N1 : Hp → Prop, (∀ H', N1 H' → ∃ k', k' < k ∧ W1 (j + 1) k' H') ∧ ∀ x H', J1.yld j H x H' → g1 x (wipe σ2 vs1) H' fun σ3 H5 => wipe σ3 vs1 = wipe σ2 vs1 ∧ tt1 σ3 H5 fun b H6 =>
        if b = true then tk σ3 H6 fun y H7 => tv σ3 H7 fun z H8 => ∃ kvs k, y = kV k ∧ H8 D = some (.dK kvs) ∧ kvs.length < sizeLine ∧ N1 (upd H8 D (.dK (putK kvs k z))) else N1 H6)
    else N H3)
abbrev BlkAll (X : Cx) (scope : Scope) (P : Cx → Prop) : Prop := ∀ (s : Shared) (H : Hp) (C : Addr) (cl : List (Str × Addr)) (fp : List Addr), P (X.blk s H scope (compEnvC scope cl C X.env) fp)
theorem pe_dc2 {kx vx tg iter tg1 iter1 : Expr} {ifs ifs1 : List Expr} {scope : Scope} {own : List (Str × Nat)} {vs1 : List Nat} {pos : Pos} {wi wi1 : TI} {g g1 : TG} {tt tt1 : TT} {tk tv : TE} (hc : X.calm = true) (hN : X.N.Nodup) (hi : PI X tg iter wi) (ok : BlkOk X.N X.env.scope scope own) (hv : ∀ i ∈ vs1, i ∈ own.map (·.2))
    (hg : BlkAll X scope fun Y => PG Y tg g) (ht : BlkAll X scope fun Y => PTs Y ifs tt) (hi1 : BlkAll X scope fun Y => PI Y tg1 iter1 wi1) (hg1 : BlkAll X scope fun Y => PG Y tg1 g1) (ht1 : BlkAll X scope fun Y => PTs Y ifs1 tt1)
    (hk : BlkAll X scope fun Y => PE Y kx tk) (he : BlkAll X scope fun Y => PE Y vx tv) (hs : ∀ x, foldedSetIterable iter X.env x = pure x := by intro _; rfl) (hs1 : ∀ env x, foldedSetIterable iter1 env x = pure x := by intro _ _; rfl) :
    PE X (dc2 kx vx tg iter tg1 iter1 ifs ifs1 scope pos) (tDc2 wi g tt wi1 g1 tt1 tk tv (own.map (·.2)) vs1) := by
  refine ⟨fun pins s σ H Q I h => ?_⟩
  rw [arm_eval_DictComp]
  have free : ∀ y ∈ scope.names, y.2 = .free → ∃ c, X.env.cells.lookup y.1 = some c := fun y hy e => (ok.free y hy e).elim (fun k => I.ok.has _ (.inl k)) fun k => I.ok.has _ (.inr k)
  refine wpAny_comprehension_free rfl hs (closure_ok free) ok.kind (fun y hy e => by rw [ok.uniq y hy, e]) (thn (hi.run pins s σ H _ I h) fun xv s1 hx => thn hx fun itv s2 h2 => ?_)
  obtain ⟨it, fp, tn, J, H2, rfl, I2, T, st2, f2, q⟩ := h2
  refine wpAny_newObj_type (newEnv_comp ?_)
  generalize hD : s2.heap.objs.size = D
  have hDn : H2 D = none := I2.hok.fresh (Nat.le_of_eq hD)
  obtain ⟨W, ⟨m0, w0⟩, turn⟩ := q D hDn
  -- the new dict
  generalize hs3 : ({ s2 with heap := s2.heap.push { cls := .type "dict", data := .dict #[] } } : Shared) = s3
  have h3 : s3.heap = s2.heap.push { cls := .type "dict", data := .dict #[] } := by rw [← hs3]
  have I3 : L2.Inv X pins σ (upd H2 D (.dK [])) s3 := by
    rw [← hs3]
    refine I2.laid (t' := s2.toks) (fun b o e => Heap.get?_push_of_some _ e) (Nat.le_of_eq hD) ?_
    rw [← hD]
    exact dk_empty s2.heap I2.big
  have f3 : ∀ b ∈ fp, FpOk X pins (upd H2 D (.dK [])) b ∧ b < s3.heap.objs.size := fun b hb => by
    obtain ⟨o, e, _⟩ := T.obj _ _ st2 b hb
    have lt := Heap.lt_size e
    refine ⟨⟨?_, (f2 b hb).2⟩, by rw [h3, Heap.size_push]; exact Nat.lt_succ_of_lt lt⟩
    rw [upd_ne (by rw [← hD]; exact Nat.ne_of_lt lt)]
    exact (f2 b hb).1
  have st3 : tn 0 s3.heap := T.keep _ _ _ st2 fun b _ o e => by rw [h3]; exact Heap.get?_push_of_some _ e
  have I4 := block_start I3 ok hN f3
  have pg := hg s3 (upd H2 D (.dK [])) s3.heap.objs.size (cellsFrom (s3.heap.objs.size + 1) scope.names (cloFrom X.env.cells scope.names [])) fp
  have pt := ht s3 (upd H2 D (.dK [])) s3.heap.objs.size (cellsFrom (s3.heap.objs.size + 1) scope.names (cloFrom X.env.cells scope.names [])) fp
  have pi1 := hi1 s3 (upd H2 D (.dK [])) s3.heap.objs.size (cellsFrom (s3.heap.objs.size + 1) scope.names (cloFrom X.env.cells scope.names [])) fp
  have pg1 := hg1 s3 (upd H2 D (.dK [])) s3.heap.objs.size (cellsFrom (s3.heap.objs.size + 1) scope.names (cloFrom X.env.cells scope.names [])) fp
  have pt1 := ht1 s3 (upd H2 D (.dK [])) s3.heap.objs.size (cellsFrom (s3.heap.objs.size + 1) scope.names (cloFrom X.env.cells scope.names [])) fp
  have pk := hk s3 (upd H2 D (.dK [])) s3.heap.objs.size (cellsFrom (s3.heap.objs.size + 1) scope.names (cloFrom X.env.cells scope.names [])) fp
  have pv := he s3 (upd H2 D (.dK [])) s3.heap.objs.size (cellsFrom (s3.heap.objs.size + 1) scope.names (cloFrom X.env.cells scope.names [])) fp
  show codeAny _ _ (.compStart (dc2 kx vx tg iter tg1 iter1 ifs ifs1 scope pos) 0 (.ref it) (.ref D) (compEnvC scope (cellsFrom (s3.heap.objs.size + 1) scope.names (cloFrom X.env.cells scope.names [])) s3.heap.objs.size X.env)) _ { s3 with heap := pushCells (s3.heap.push { cls := .type "dict", data := .dict #[] }) scope.names }
  have nfp : ∀ b ∈ fp, (upd H2 D (.dK [])) b = none := fun b hb => (f3 b hb).1.1
  generalize hce : compEnvC scope (cellsFrom (s3.heap.objs.size + 1) scope.names (cloFrom X.env.cells scope.names [])) s3.heap.objs.size X.env = ce at I4 pg pt pi1 pg1 pt1 pk pv ⊢
  have cL : ce.locals = s3.heap.objs.size := by subst hce; rfl
  generalize hH3 : upd H2 D (.dK []) = H3 at I3 I4 pg pt pi1 pg1 pt1 pk pv w0 nfp f3
  generalize hs4 : ({ s3 with heap := pushCells (s3.heap.push { cls := .type "dict", data := .dict #[] }) scope.names } : Shared) = s4 at I4 ⊢
  have st4 : tn 0 s4.heap := T.keep _ _ _ st3 fun b _ o e => by rw [← hs4]; exact pushCells_keeps _ _ _ _ (Heap.get?_push_of_some _ e)
  generalize hY : X.blk s3 H3 scope ce fp = Y at I4 pg pt pi1 pg1 pt1 pk pv
  have stat : ∀ {σ' : L2.St} {H' : Hp} {s' : Shared}, L2.Inv Y [] σ' H' s' → (∀ b ∈ fp, H' b = none) → ∀ b ∈ fp, FpOk Y [] H' b := by
    subst hY
    exact fun {σ' H' s'} I' hn b hb => ⟨hn b hb, (I'.ok.exf b hb).1, I'.ok.exfs b hb, .inl hb, fun x c e => (I'.ok.exf b hb).2 x c e, fun p hp => absurd (show p ∈ ([] : List (Addr × Obj)) ++ [] from hp) (by simp)⟩
  subst hY
  have loop : codeAny (model X.prog X.w) X.A (.compLoop (dc2 kx vx tg iter tg1 iter1 ifs ifs1 scope pos) 0 (.ref it) (.ref D) ce) (compPost (model X.prog X.w) X.A X.xe none (fun v s' => EP X pins σ Q v s') (.ref D) s3.heap.objs.size) s4 := by
    refine dc2_loop0 (hs1 ce) (fun n s' => ∃ i H', L2.Inv (X.blk s3 H3 scope ce fp) [] (wipe σ (own.map (·.2))) H' s' ∧ tn i s'.heap ∧ (∀ b ∈ fp, H' b = none) ∧ W i n H') ?_ m0 ⟨0, H3, I4, st4, nfp, w0⟩
    rintro n s5 ⟨i, H5, I5, st5, n5, w5⟩
    rcases turn i n H5 w5 with ⟨stop, qq⟩ | ⟨go, N, hN1, step⟩
    · refine thnF (T.done (X.blk s3 H3 scope ce fp) rfl rfl rfl hc i [] s5 _ H5 (fun _ _ => False) I5 (stat I5 n5) st5 stop) fun r s6 ⟨hr, I6⟩ => ?_
      subst hr
      have I7 : L2.Inv X pins σ H5 s6 := I3.call' (ch := fp) I6.os I6.base I6.hok I6.bare fun b hb => ⟨(f3 b hb).1.2.2.2.1, (f3 b hb).1.2.1, (f3 b hb).1.2.2.2.2.1, (f3 b hb).1.2.2.2.2.2⟩
      have nC : H5 s3.heap.objs.size = none := by
        have z : H5 ce.locals = none := I6.free
        rw [cL] at z
        exact z
      obtain ⟨m, hn, _⟩ := I6.loc
      have hn : s6.heap.Ns ce.locals m := hn
      rw [cL] at hn
      refine ⟨m, hn, fun h'' sb => ?_⟩
      obtain ⟨k0, k1, k2, k3, k4, k5⟩ := I3.fpOk (Nat.le_refl _) nC
      exact ⟨.ref D, H5, I7.turned (t' := s6.toks) (fun b o hb e => (sb.2 b hb).trans e) k0 k1 k3 k4 k5, rfl, qq⟩
    · refine thnF (T.item (X.blk s3 H3 scope ce fp) rfl rfl rfl hc i [] s5 _ H5 (fun _ _ => False) I5 (stat I5 n5) st5 go) fun r s6 ⟨u, hr, h6⟩ => ?_
      subst hr
      refine thnF h6 fun _ s7 ⟨x, H7, I7, r7, y7, st7, n7⟩ => ?_
      have I7' := I7.pinned (stat I7 n7) (T.obj _ _ st7)
      refine thnF (pg.run _ s7 _ H7 x u _ I7' r7 (step x H7 y7)) fun _ s8 ⟨σ8, H8, I8, hw8, q8⟩ => ?_
      refine thnF (pt.run _ s8 σ8 H8 _ I8 q8) fun b s9 ⟨H9, I9, q9⟩ => ?_
      have keep : ∀ (j : Nat) v, (wipe σ (own.map (·.2)))[j]? = some (some v) → σ8[j]? = some (some v) ∧ j ∉ own.map (·.2) := fun j v e => by
        rw [← hw8] at e
        exact wipe_some e
      have fin : ∀ {σ9 : L2.St} {s' : Shared} {H' : Hp}, L2.Inv (X.blk s3 H3 scope ce fp) ([] ++ pinsAt fp s7.heap) σ9 H' s' → (wipe σ (own.map (·.2))).length = σ9.length → (∀ (j : Nat) v, (wipe σ (own.map (·.2)))[j]? = some (some v) → σ9[j]? = some (some v)) → N H' →
          ∃ m, m < n ∧ ∃ i H', L2.Inv (X.blk s3 H3 scope ce fp) [] (wipe σ (own.map (·.2))) H' s' ∧ tn i s'.heap ∧ (∀ b ∈ fp, H' b = none) ∧ W i m H' := fun {σ9 s' H'} I' hl hk nx => by
        obtain ⟨m', hm, w'⟩ := hN1 H' nx
        have pin : ∀ b ∈ fp, ∀ o, s7.heap.get? b = some o → s'.heap.get? b = some o ∧ H' b = none := fun b hb o e =>
          let z := I'.pin (b, o) (List.mem_append_right _ (List.mem_append_right _ (mem_pinsAt hb e)))
          ⟨z.1, z.2.1⟩
        refine ⟨m', hm, i + 1, H', (I'.unpinned (pins := [])).weak hl hk, T.keep _ _ _ st7 fun b hb o e => (pin b hb o e).1, fun b hb => ?_, w'⟩
        obtain ⟨o, e, _⟩ := T.obj _ _ st7 b hb
        exact (pin b hb o e).2
      have hl8 : (wipe σ (own.map (·.2))).length = σ8.length := by rw [← hw8, wipe_length]
      cases b with
      | false =>
        simp only [Bool.false_eq_true, if_false] at q9 ⊢
        exact fin I9 hl8 (fun j v e => (keep j v e).1) q9
      | true =>
        simp only [if_true] at q9 ⊢
        refine thnF (pi1.run _ s9 σ8 H9 _ I9 q9) fun xv s10 hx => thnF hx fun itv s11 h11 => ?_
        obtain ⟨it1, fp1, tn1, J1, H11, rfl, I11, T1, st11, f11, W1, ⟨m1, w1⟩, turn1⟩ := h11
        have stat1 : ∀ {H' : Hp}, (∀ b ∈ fp1, H' b = none) → ∀ b ∈ fp1, FpOk (X.blk s3 H3 scope ce fp) ([] ++ pinsAt fp s7.heap) H' b := fun hn b hb => ⟨hn b hb, (f11 b hb).2⟩
        have loop1 : codeAny (model X.prog X.w) X.A (.compLoop (dc2 kx vx tg iter tg1 iter1 ifs ifs1 scope pos) 1 (.ref it1) (.ref D) ce)
            (fun r s' => match r with
              | .ok _ => ∃ m, m < n ∧ ∃ i H', L2.Inv (X.blk s3 H3 scope ce fp) [] (wipe σ (own.map (·.2))) H' s' ∧ tn i s'.heap ∧ (∀ b ∈ fp, H' b = none) ∧ W i m H'
              | .error _ => False) s11 := by
          refine dc2_loop1 (fun k s' => ∃ j H', L2.Inv (X.blk s3 H3 scope ce fp) ([] ++ pinsAt fp s7.heap) (wipe σ8 vs1) H' s' ∧ tn1 j s'.heap ∧ (∀ b ∈ fp1, H' b = none) ∧ W1 j k H') ?_ m1 ⟨0, H11, I11.weak (wipe_length _ _) (fun j v e => (wipe_some e).1), st11, fun b hb => (f11 b hb).1, w1⟩
          rintro k s12 ⟨j, H12, I12, st12, n12, w12⟩
          rcases turn1 j k H12 w12 with ⟨stop1, nx1⟩ | ⟨go1, N1, hN2, step1⟩
          · refine thnF (T1.done (X.blk s3 H3 scope ce fp) rfl rfl rfl hc j _ s12 (wipe σ8 vs1) H12 (fun _ _ => False) I12 (stat1 n12) st12 stop1) fun r s13 ⟨hr, I13⟩ => ?_
            subst hr
            refine fin I13 (hl8.trans (wipe_length σ8 vs1).symm) (fun j v e => ?_) nx1
            obtain ⟨e1, e2⟩ := keep j v e
            rw [wipe_out fun z => e2 (hv j z)]
            exact e1
          · refine thnF (T1.item (X.blk s3 H3 scope ce fp) rfl rfl rfl hc j _ s12 (wipe σ8 vs1) H12 (fun _ _ => False) I12 (stat1 n12) st12 go1) fun r s13 ⟨u1, hr, h13⟩ => ?_
            subst hr
            refine thnF h13 fun _ s14 ⟨x1, H14, I14, r14, y14, st14, n14⟩ => ?_
            have I14' := I14.pinned (stat1 n14) (T1.obj _ _ st14)
            refine thnF (pg1.run _ s14 (wipe σ8 vs1) H14 x1 u1 _ I14' r14 (step1 x1 H14 y14)) fun _ s15 ⟨σ15, H15, I15, hw15, q15⟩ => ?_
            refine thnF (pt1.run _ s15 σ15 H15 _ I15 q15) fun b1 s16 ⟨H16, I16, q16⟩ => ?_
            have fin1 : ∀ {s' : Shared} {H' : Hp}, L2.Inv (X.blk s3 H3 scope ce fp) (([] ++ pinsAt fp s7.heap) ++ pinsAt fp1 s14.heap) σ15 H' s' → N1 H' → ∃ m, m < k ∧ ∃ j H', L2.Inv (X.blk s3 H3 scope ce fp) ([] ++ pinsAt fp s7.heap) (wipe σ8 vs1) H' s' ∧ tn1 j s'.heap ∧ (∀ b ∈ fp1, H' b = none) ∧ W1 j m H' := fun {s' H'} I' nx => by
              obtain ⟨m', hm, w'⟩ := hN2 H' nx
              have pin : ∀ b ∈ fp1, ∀ o, s14.heap.get? b = some o → s'.heap.get? b = some o ∧ H' b = none := fun b hb o e =>
                let z := I'.pin (b, o) (List.mem_append_right _ (List.mem_append_right _ (mem_pinsAt hb e)))
                ⟨z.1, z.2.1⟩
              refine ⟨m', hm, j + 1, H', I'.unpinned.weak (by rw [← hw15, wipe_length]) (fun j v e => by rw [← hw15] at e; exact (wipe_some e).1), T1.keep _ _ _ st14 fun b hb o e => (pin b hb o e).1, fun b hb => ?_, w'⟩
              obtain ⟨o, e, _⟩ := T1.obj _ _ st14 b hb
              exact (pin b hb o e).2
            cases b1 with
            | false =>
              simp only [Bool.false_eq_true, if_false] at q16 ⊢
              exact fin1 I16 q16
            | true =>
              simp only [if_true] at q16 ⊢
              refine thnF (pk.run _ s16 σ15 H16 _ I16 q16) fun z s17 ⟨yk, H17, I17, r17, q17⟩ => ?_
              refine thnF (pv.run _ s17 σ15 H17 _ I17 q17) fun z2 s18 ⟨yv, H18, I18, r18, kvs, k2, ek, hD18, hz18, nx⟩ => ?_
              subst ek
              exact d_dictSet (X := X.blk s3 H3 scope ce fp) I18 hD18 hz18 r17 r18 fun s19 I19 => fin1 I19 nx
        exact dc2_start1 loop1 (T1.self X.A 0 _ _ _ st11 loop1)
  exact codeAny_compStart_dict loop (T.self X.A 0 _ _ _ st4 loop)
end
end Gd

/-! Gd, part 26: dict comprehensions, their mirrors. -/
namespace Gd
open PySem L2 PyProof.Rows
open Classical

/-- a walk, whatever a turn is -/
theorem it_all {J : It} {n : Nat} {G : Hp → Prop} {Y : Nat → Hp → V → Hp → Prop} (w : Walk J n G Y) {H1 : Hp} {Qd : Hp → Prop} {Step : V → Hp → (Hp → Prop) → Prop} (Pv : Nat → Hp → Prop) (h0 : Pv 0 H1) (hG : ∀ i H, i ≤ n → Pv i H → G H)
    (hs : ∀ i x H H', i < n → Pv i H → Y i H x H' → Step x H' (Pv (i + 1))) (hd : ∀ H, Pv n H → Qd H) :
    ∃ W : Nat → Nat → Hp → Prop, (∃ m, W 0 m H1) ∧ ∀ i m H, W i m H → (J.stop i H ∧ Qd H) ∨ (J.go i H ∧ ∃ N : Hp → Prop, (∀ H', N H' → ∃ m', m' < m ∧ W (i + 1) m' H') ∧ ∀ x H', J.yld i H x H' → Step x H' N) := by
  refine ⟨fun i m H => m = n - i ∧ i ≤ n ∧ Pv i H, ⟨n, by simp, Nat.zero_le _, h0⟩, ?_⟩
  rintro i m H ⟨rfl, hi, p⟩
  have q := hG i H hi p
  by_cases hlt : i < n
  · exact .inr ⟨w.goes i H hlt q, Pv (i + 1), fun H' p' => ⟨n - (i + 1), by omega, rfl, hlt, p'⟩, fun x H' y => hs i x H H' hlt p (w.yields i H x H' hlt q y)⟩
  · have e : i = n := by omega
    subst e
    exact .inl ⟨w.stops H q, hd H p⟩
noncomputable def dcLG (gs : List Nat) (S0 : Sg) (tgt : Tgt) (t : MT) (k v : ME) (ρ : Ro) : List D → Sg → Out (List (Key × D))
  | [], S => if Same gs S0 S then .ok [] S else .no
  | d :: ds, S => if Same gs S0 S then (match tgt d ρ with
    | none => .no
    | some ρ1 => (noEr (t ρ1 S)).bind fun b S1 => if b = true then (noEr (k ρ1 S1)).bind fun kd S2 => (noEr (v ρ1 S2)).bind fun y S3 => (match keyOf kd with
      | none => .no
      | some key => if isLoc y = true then .no else (dcLG gs S0 tgt t k v ρ ds S3).bind fun ys S4 => .ok ((key, y) :: ys) S4) else dcLG gs S0 tgt t k v ρ ds S1) else .no
/-- the slots without those that own a thing -/
def unown (ρ : Ro) : Ro := ρ.map fun z => match z with
  | .va d => .va d
  | _ => .un
noncomputable def dcL2 (gs : List Nat) (S0 : Sg) (tgt : Tgt) (t : MT) (mi1 : MJ) (tgt1 : Tgt) (t1 : MT) (k v : ME) (vs1 : List Nat) (ρ : Ro) : List D → Sg → Out (List (Key × D))
  | [], S => if Same gs S0 S then .ok [] S else .no
  | d :: ds, S => if Same gs S0 S then (match tgt d ρ with
    | none => .no
    | some ρ1 => (noEr (t ρ1 S)).bind fun b S1 => if b = true then (noEr (mi1 ρ1 S1)).bind fun p S2 => (dcLG p.2 S2 tgt1 t1 k v (wipeR (unown ρ1) vs1) p.1 S2).bind fun xs S3 =>
        (dcL2 gs S0 tgt t mi1 tgt1 t1 k v vs1 ρ ds S3).bind fun ys S4 => .ok (xs ++ ys) S4 else dcL2 gs S0 tgt t mi1 tgt1 t1 k v vs1 ρ ds S1) else .no
def dcEnd (kvs : List (Key × D)) (S : Sg) : Out D := if kvs.length ≤ 100000 then .ok (.dct (kmerge [] kvs)) S else .no
noncomputable def f_dcG (vs : List Nat) (mi : MJ) (tgt : Tgt) (t : MT) (k v : ME) : ME := fun ρ S => (mi ρ S).bind fun p S1 => (dcLG p.2 S1 tgt t k v (wipeR ρ vs) p.1 S1).bind dcEnd
noncomputable def f_dc2 (vs : List Nat) (mi : MJ) (tgt : Tgt) (t : MT) (mi1 : MJ) (tgt1 : Tgt) (t1 : MT) (k v : ME) (vs1 : List Nat) : ME := fun ρ S => (mi ρ S).bind fun p S1 => (dcL2 p.2 S1 tgt t mi1 tgt1 t1 k v vs1 (wipeR ρ vs) p.1 S1).bind dcEnd
theorem kmerge_snoc (ys : List (Key × D)) (k : Key) (d : D) : kmerge [] (ys ++ [(k, d)]) = kput (kmerge [] ys) k d := by
  unfold kmerge
  rw [List.foldl_append]
  rfl
theorem kput_len (kvs : List (Key × D)) (k : Key) (v : D) : (kput kvs k v).length ≤ kvs.length + 1 := by
  unfold kput
  split
  · rw [List.length_map]; omega
  · simp
theorem kmerge_len (more : List (Key × D)) : ∀ kvs : List (Key × D), (kmerge kvs more).length ≤ kvs.length + more.length := by
  induction more with
  | nil => intro kvs; exact Nat.le_refl _
  | cons p more ih =>
    intro kvs
    have h := ih (kput kvs p.1 p.2)
    have h2 := kput_len kvs p.1 p.2
    show (kmerge (kput kvs p.1 p.2) more).length ≤ _
    rw [List.length_cons]; omega
section
variable {K : Fg} {mg : Mg} {W : WX} {O O1 : Addr → Prop} {ad ad1 : List Addr} {S S1 : Sg} {ρ : Ro} {σ : L2.St} {H H1 : Hp}
theorem dcLG_ok {α : Type} {gs : List Nat} {S0 : Sg} {tgt : Tgt} {t : MT} {k v : ME} {ds : List D} {f : List (Key × D) → Sg → Out α} {P : Out α → Prop} (hn : ¬ P .no) (h : P ((dcLG gs S0 tgt t k v ρ ds S).bind f)) : Same gs S0 S := by
  by_cases q : Same gs S0 S
  · exact q
  · cases ds with
    | nil => unfold dcLG at h; rw [if_neg q] at h; exact (hn h).elim
    | cons d ds => unfold dcLG at h; rw [if_neg q] at h; exact (hn h).elim
theorem dcL2_ok {α : Type} {gs : List Nat} {S0 : Sg} {tgt : Tgt} {t : MT} {mi1 : MJ} {tgt1 : Tgt} {t1 : MT} {k v : ME} {vs1 : List Nat} {ds : List D} {f : List (Key × D) → Sg → Out α} {P : Out α → Prop} (hn : ¬ P .no) (h : P ((dcL2 gs S0 tgt t mi1 tgt1 t1 k v vs1 ρ ds S).bind f)) : Same gs S0 S := by
  by_cases q : Same gs S0 S
  · exact q
  · cases ds with
    | nil => unfold dcL2 at h; rw [if_neg q] at h; exact (hn h).elim
    | cons d ds => unfold dcL2 at h; rw [if_neg q] at h; exact (hn h).elim
/-- the dict at Dl, filled with these -/
def FillK (K : Fg) (mg : Mg) (O1 : Addr → Prop) (ad1 : List Addr) (H1 : Hp) (Dl : Addr) (O2 : Addr → Prop) (ad2 : List Addr) (S2 : Sg) (H' : Hp) (ys : List (Key × D)) : Prop :=
  Stp O1 ad1 H1 O2 ad2 H' ∧ Sto K mg O2 ad2 S2 H' ∧ O2 Dl ∧ Dl ∉ ad2 ∧ ∃ acc, H' Dl = some (.dK acc) ∧ RepK K mg (hide O2 H') ad2 acc (kmerge [] ys)
theorem FillK.step {Dl : Addr} {O2 O3 : Addr → Prop} {ad2 ad3 : List Addr} {S2 S3 : Sg} {H2 H3 : Hp} {ys : List (Key × D)} (f : FillK K mg O1 ad1 H1 Dl O2 ad2 S2 H2 ys) (hid : ∀ a, a ∈ ad1 → O1 a) (t : Stp O2 ad2 H2 O3 ad3 H3) (z : Sto K mg O3 ad3 S3 H3) : FillK K mg O1 ad1 H1 Dl O3 ad3 S3 H3 ys := by
  obtain ⟨t2, z2, oD, nD, acc, hD, r⟩ := f
  exact ⟨t2.trans t hid z2.dom, z, t.op _ oD, t.nmem nD hD, acc, t.fr _ _ hD nD, r.mono (t.hide z2.hid) t.get⟩
/-- one turn's end: k: v is put in -/
theorem FillK.put {Dl : Addr} {O2 : Addr → Prop} {ad2 : List Addr} {S2 : Sg} {H2 : Hp} {ys : List (Key × D)} (f : FillK K mg O1 ad1 H1 Dl O2 ad2 S2 H2 ys) (hDl : H1 Dl = none) {key : Key} {y : V} {yd : D} (ry : Rep K mg (hide O2 H2) ad2 y yd) (hl : ys.length < 100000) :
    ∃ acc, H2 Dl = some (.dK acc) ∧ acc.length < sizeLine ∧ FillK K mg O1 ad1 H1 Dl O2 ad2 S2 (upd H2 Dl (.dK (putK acc key y))) (ys ++ [(key, yd)]) := by
  obtain ⟨t2, z2, oD, nD, acc, hD, r⟩ := f
  refine ⟨acc, hD, ?_, ⟨fun b o hb m => ?_, t2.op, t2.oq, t2.ap⟩, z2.upd_out oD nD, oD, nD, _, upd_same, ?_⟩
  · have h1 := kmerge_len ys []
    rw [r.length, sizeLine_eq]
    simp at h1
    omega
  · rw [upd_ne (ne_of_none hb hDl)]
    exact t2.fr b o hb m
  · rw [kmerge_snoc]
    exact (RepK.put ry r).mono (hide_upd oD) fun _ _ q => q
/-- the turns of the last clause: rest is what goes on with what came -/
theorem dc_turns {α : Type} {gs : List Nat} {S0 : Sg} {tgt : Tgt} {t : MT} {k v : ME} {g : TG} {vs : List Nat} {ds : List D} {ρ : Ro} {σ : L2.St} {hid1 : ∀ a, a ∈ ad1 → O1 a} {Dl : Addr} (hDl : H1 Dl = none)
    {P : Out α → Prop} {fin : List (Key × D) → Sg → Out α} (hP : ¬ P .no) (hE : ∀ x fs S, ¬ P (.er x fs S)) (hfin : ∀ ys S, P (fin ys S) → ys.length ≤ 100000) (hg : TgOk K mg vs g tgt)
    (hw : wipeR ρ vs = ρ) (hw2 : wipe σ vs = σ)
    {i : Nat} {x : V} {d : D} {O2 : Addr → Prop} {ad2 : List Addr} {S2 : Sg} {H2 : Hp} {ys : List (Key × D)} (f : FillK K mg O1 ad1 H1 Dl O2 ad2 S2 H2 ys) (f2 : Fre K mg O2 ad2 ρ σ H2) (rx : Rep K mg (hide O2 H2) ad2 x d) (hd : ds[i]? = some d) (sm : Same gs S0 S2)
    (hp : P ((dcLG gs S0 tgt t k v ρ (ds.drop i) S2).bind fun zs S => fin (ys ++ zs) S)) {N : Hp → Prop}
    (hN : ∀ H' O' ad' S' ys', FillK K mg O1 ad1 H1 Dl O' ad' S' H' ys' → Grow O2 ad2 H2 O' ad' H' → P ((dcLG gs S0 tgt t k v ρ (ds.drop (i + 1)) S').bind fun zs S => fin (ys' ++ zs) S) → N H') :
    g x σ H2 fun σ3 H5 => wipe σ3 vs = σ ∧ Et K mg W0 t σ3 H5 fun b H6 => if b = true then Ee K mg W0 k σ3 H6 fun y H7 => Ee K mg W0 v σ3 H7 fun z H8 => ∃ kvs key, y = kV key ∧ H8 Dl = some (.dK kvs) ∧ kvs.length < sizeLine ∧ N (upd H8 Dl (.dK (putK kvs key z))) else N H6 := by
  have ed : ds.drop i = d :: ds.drop (i + 1) := by
    obtain ⟨hl, hd'⟩ := List.getElem?_eq_some_iff.mp hd
    rw [List.drop_eq_getElem_cons hl, hd']
  rw [ed] at hp
  unfold dcLG at hp
  rw [if_pos sm] at hp
  obtain ⟨t2, z2, oD, nD, acc, hD, r⟩ := id f
  cases et : tgt d ρ with
  | none => simp only [et] at hp; exact (hP hp).elim
  | some ρ1 =>
    simp only [et] at hp
    obtain ⟨σ1, g1, _, wp, kg⟩ := hg O2 ad2 _ _ H2 x d ρ1 f2 rx et
    refine kg _ ⟨by rw [wp, hw2], O2, ad2, S2, ρ1, z2, g1, ?_⟩
    cases e1 : t ρ1 S2 with
    | no => simp only [e1, noEr, Out.bind] at hp; exact (hP hp).elim
    | er x2 fs2 S3 => simp only [e1, noEr, Out.bind] at hp; exact (hP hp).elim
    | ok b S3 =>
      simp only [e1, noEr, Out.bind] at hp
      intro O3 ad3 H3 t3 z3
      have f3 := f.step hid1 t3 z3
      cases b with
      | false =>
        rw [if_neg Bool.false_ne_true] at hp ⊢
        exact hN _ O3 ad3 S3 ys f3 (t3.grow z2.hid) hp
      | true =>
        rw [if_pos rfl] at hp ⊢
        refine ⟨O3, ad3, S3, ρ1, z3, g1.step z2.hid t3, ?_⟩
        cases e2 : k ρ1 S3 with
        | no => simp only [e2, noEr, Out.bind] at hp; exact (hP hp).elim
        | er x2 fs2 S4 => simp only [e2, noEr, Out.bind] at hp; exact (hP hp).elim
        | ok kd S4 =>
          simp only [e2, noEr, Out.bind] at hp
          intro yk O4 ad4 H4 t4 z4 rk
          have f4 := f3.step hid1 t4 z4
          refine ⟨O4, ad4, S4, ρ1, z4, (g1.step z2.hid t3).step z3.hid t4, ?_⟩
          cases e3 : v ρ1 S4 with
          | no => simp only [e3, noEr, Out.bind] at hp; exact (hP hp).elim
          | er x2 fs2 S5 => simp only [e3, noEr, Out.bind] at hp; exact (hP hp).elim
          | ok yd S5 =>
            simp only [e3, noEr, Out.bind] at hp
            intro yv O5 ad5 H5 t5 z5 ry
            have f5 := f4.step hid1 t5 z5
            cases ek : keyOf kd with
            | none => simp only [ek] at hp; exact (hP hp).elim
            | some key =>
              simp only [ek] at hp
              cases el : isLoc yd with
              | true => simp only [el, if_true] at hp; exact (hP hp).elim
              | false =>
                simp only [el, Bool.false_eq_true, if_false] at hp
                have nl : isLoc kd = false := by cases kd <;> first | rfl | cases ek
                have hk := keyOf_V (rk.rep nl) ek
                have hp' : P ((dcLG gs S0 tgt t k v ρ (ds.drop (i + 1)) S5).bind fun zs S => fin ((ys ++ [(key, yd)]) ++ zs) S) := by
                  cases e4 : dcLG gs S0 tgt t k v ρ (ds.drop (i + 1)) S5 with
                  | no => simp only [e4, Out.bind] at hp; exact (hP hp).elim
                  | er x2 fs2 S6 => simp only [e4, Out.bind] at hp; exact (hE _ _ _ hp).elim
                  | ok zs S6 => simp only [e4, Out.bind] at hp; simpa [Out.bind, List.append_assoc] using hp
                have hl : ys.length < 100000 := by
                  cases e4 : dcLG gs S0 tgt t k v ρ (ds.drop (i + 1)) S5 with
                  | no => rw [e4] at hp'; exact (hP hp').elim
                  | er x2 fs2 S6 => rw [e4] at hp'; exact (hE _ _ _ hp').elim
                  | ok zs S6 =>
                    rw [e4] at hp'
                    have := hfin _ _ hp'
                    simp at this
                    omega
                obtain ⟨acc5, a1, a2, a3⟩ := f5.put hDl (key := key) (ry.rep el) hl
                exact ⟨acc5, key, hk, a1, a2, hN _ O5 ad5 S5 (ys ++ [(key, yd)]) a3 (((t3.grow z2.hid).trans ((t4.grow z3.hid).trans (t5.grow z4.hid))).trans (grow_upd f5.2.2.1)) hp'⟩
theorem Fre.unown (f : Fre K mg O ad ρ σ H) : Fre K mg O ad (Gd.unown ρ) σ H := by
  have noow : ∀ (i : Nat) d, (Gd.unown ρ)[i]? ≠ some (.ow d) := fun i d h => by
    unfold Gd.unown at h
    rw [List.getElem?_map] at h
    obtain ⟨z, _, e⟩ := Option.map_eq_some_iff.mp h
    cases z <;> cases e
  refine ⟨by rw [f.len]; simp [Gd.unown], fun i d h => ?_, fun i d h => (noow i d h).elim, fun i j d e a _ h => (noow i d h).elim⟩
  unfold Gd.unown at h
  rw [List.getElem?_map] at h
  obtain ⟨z, h1, e⟩ := Option.map_eq_some_iff.mp h
  cases z with
  | va d2 => cases e; exact f.va i _ h1
  | _ => cases e
theorem Fre.grown (f : Fre K mg O ad ρ σ H) (no : ∀ (i : Nat) d, ρ[i]? ≠ some (.ow d)) (g : Grow O ad H O1 ad1 H1) : Fre K mg O1 ad1 ρ σ H1 :=
  ⟨f.len, fun i d h => let ⟨v, h1, h2⟩ := f.va i d h; ⟨v, h1, h2.mono g.ex g.ap⟩, fun i d h => (no i d h).elim, fun i j d e a _ h => (no i d h).elim⟩
theorem unown_no {vs : List Nat} (i : Nat) (d : D) : (wipeR (unown ρ) vs)[i]? ≠ some (.ow d) := by
  have n : ∀ (l : List Nat) (τ : Ro), (∀ (i : Nat) d, τ[i]? ≠ some (.ow d)) → ∀ (i : Nat) d, (wipeR τ l)[i]? ≠ some (.ow d) := by
    intro l
    induction l with
    | nil => intro τ h; exact h
    | cons a l ih =>
      intro τ h i d q
      have q : ((wipeR τ l).set a .un)[i]? = some (.ow d) := q
      by_cases e : a = i
      · subst e
        rw [List.getElem?_set_self'] at q
        cases h2 : (wipeR τ l)[a]? with
        | none => rw [h2] at q; cases q
        | some z => rw [h2] at q; cases q
      · rw [List.getElem?_set_ne e] at q
        exact ih τ h i d q
  refine n vs _ (fun i d h => ?_) i d
  unfold unown at h
  rw [List.getElem?_map] at h
  obtain ⟨z, _, e⟩ := Option.map_eq_some_iff.mp h
  cases z <;> cases e
end
end Gd

/-! Gd, part 27: dict comprehensions; a new dict is locked. -/
namespace Gd
open PySem L2 PyProof.Rows
open Classical

theorem wipeR_at : ∀ (l : List Nat) (ρ : Ro) (j : Nat), (wipeR ρ l)[j]? = if j ∈ l then (ρ[j]?).map fun _ => .un else ρ[j]?
  | [], τ, j => by simp [wipeR]
  | a :: l, τ, j => by
    show ((wipeR τ l).set a .un)[j]? = _
    by_cases e : a = j
    · subst e
      rw [if_pos List.mem_cons_self, List.getElem?_set_self', wipeR_at l τ a]
      split <;> cases τ[a]? <;> rfl
    · rw [List.getElem?_set_ne e, wipeR_at l τ j]
      by_cases m : j ∈ l
      · rw [if_pos m, if_pos (List.mem_cons_of_mem _ m)]
      · rw [if_neg m, if_neg (by simp [m, Ne.symm e])]
theorem wipeR_still (vs : List Nat) (ρ : Ro) : wipeR (wipeR ρ vs) vs = wipeR ρ vs := by
  refine List.ext_getElem? fun j => ?_
  rw [wipeR_at, wipeR_at]
  split
  · cases ρ[j]? <;> rfl
  · rfl
section
variable {K : Fg} {mg : Mg} {W : WX} {O O1 : Addr → Prop} {ad ad1 : List Addr} {S S1 : Sg} {ρ : Ro} {σ : L2.St} {H H1 : Hp}
theorem dcEnd_ok {Q : VK} {ys : List (Key × D)} (h : PostF K mg W ρ σ Q O ad H (dcEnd ys S)) : ys.length ≤ 100000 ∧ PostF K mg W ρ σ Q O ad H (.ok (.dct (kmerge [] ys)) S) := by
  unfold dcEnd at h
  exact post_if (P := PostF K mg W ρ σ Q O ad H) (fun z => z) h
theorem dcLG_noer {gs : List Nat} {S0 : Sg} {tgt : Tgt} {t : MT} {k v : ME} : ∀ (ds : List D) (S : Sg) x fs S', dcLG gs S0 tgt t k v ρ ds S ≠ .er x fs S' := by
  intro ds
  induction ds with
  | nil => intro S x fs S' q; unfold dcLG at q; split at q <;> cases q
  | cons d ds ih =>
    intro S x fs S' q
    unfold dcLG at q
    split at q
    · cases e1 : tgt d ρ with
      | none => simp only [e1] at q; cases q
      | some ρ3 =>
        simp only [e1] at q
        cases e2 : t ρ3 S with
        | no => simp only [e2, noEr, Out.bind] at q; cases q
        | er _ _ _ => simp only [e2, noEr, Out.bind] at q; cases q
        | ok b S1 =>
          simp only [e2, noEr, Out.bind] at q
          cases b with
          | false => rw [if_neg Bool.false_ne_true] at q; exact ih _ _ _ _ q
          | true =>
            rw [if_pos rfl] at q
            cases e3 : k ρ3 S1 with
            | no => simp only [e3, noEr, Out.bind] at q; cases q
            | er _ _ _ => simp only [e3, noEr, Out.bind] at q; cases q
            | ok kd S2 =>
              simp only [e3, noEr, Out.bind] at q
              cases e4 : v ρ3 S2 with
              | no => simp only [e4, noEr, Out.bind] at q; cases q
              | er _ _ _ => simp only [e4, noEr, Out.bind] at q; cases q
              | ok y S3 =>
                simp only [e4, noEr, Out.bind] at q
                cases e5 : keyOf kd with
                | none => simp only [e5] at q; cases q
                | some key =>
                  simp only [e5] at q
                  split at q
                  · cases q
                  · cases e6 : dcLG gs S0 tgt t k v ρ ds S3 with
                    | no => simp only [e6, Out.bind] at q; cases q
                    | er _ _ _ => exact ih _ _ _ _ e6
                    | ok _ _ => simp only [e6, Out.bind] at q; cases q
    · cases q
/-- what stays of a state in which a dict was begun -/
theorem fill_new {Dl : Addr} (s : Sto K mg O1 ad1 S H1) (hD : H1 Dl = none) : FillK K mg O1 ad1 H1 Dl (fun a => O1 a ∨ a = Dl) ad1 S (upd H1 Dl (.dK [])) [] := by
  obtain ⟨t2, z2, np, mr⟩ := new_own (K := K) (mg := mg) (o := .dK []) (d := .dct []) s hD ⟨[], upd_same, .nil⟩
  exact ⟨t2, z2, .inr rfl, np, [], upd_same, .nil⟩
theorem fill_end {Q : VK} {Dl : Addr} {O2 : Addr → Prop} {ad2 : List Addr} {H2 : Hp} {ys : List (Key × D)} (f : FillK K mg O1 ad1 H1 Dl O2 ad2 S H2 ys) (hD : H1 Dl = none) (h : PostF K mg W ρ σ Q O1 ad1 H1 (dcEnd ys S)) : Q (.ref Dl) H2 := by
  obtain ⟨t2, z2, oD, nD, acc, hDl, r⟩ := f
  exact (dcEnd_ok h).2 Dl O2 ad2 H2 t2 z2 oD nD hD ⟨acc, hDl, r⟩
theorem w_dcG {vs : List Nat} {mi : MJ} {g : TG} {tgt : Tgt} {t : MT} {k v : ME} (hg : TgOk K mg vs g tgt) :
    ∀ σ H Q, Ef K mg W (f_dcG vs mi tgt t k v) σ H Q → tDc (Ej K mg Stp W mi) g (Et K mg W0 t) (Ee K mg W0 k) (Ee K mg W0 v) vs σ H Q := by
  rintro σ H Q ⟨O, ad, S, ρ, s, fr, h⟩
  refine ⟨O, ad, S, ρ, s, fr, ?_⟩
  unfold f_dcG at h
  cases em : mi ρ S with
  | no => rw [em] at h; exact h
  | er x fs S1 => rw [em] at h; exact h
  | ok p S1 =>
    obtain ⟨ds, gs⟩ := p
    rw [em] at h
    intro O1 ad1 H1 J t1 s1 src Dl hD
    obtain ⟨G, Y, wk, hG, hY⟩ := src
    have f1 : Fre K mg O1 ad1 ρ σ H1 := fr.step s.hid t1
    have h1 : PostF K mg W ρ σ Q O1 ad1 H1 ((dcLG gs S1 tgt t k v (wipeR ρ vs) ds S1).bind dcEnd) := PostF.rebase h t1 s.hid s1.dom
    have fw : Fre K mg O1 ad1 (wipeR ρ vs) (L2.wipe σ vs) H1 := f1.wipe vs
    refine it_all (Step := fun x H' N => g x (wipe σ vs) H' fun σ2 H2 => wipe σ2 vs = wipe σ vs ∧ Et K mg W0 t σ2 H2 fun b H3 => if b = true then Ee K mg W0 k σ2 H3 fun y H4 => Ee K mg W0 v σ2 H4 fun z H5 => ∃ kvs k, y = kV k ∧ H5 Dl = some (.dK kvs) ∧ kvs.length < sizeLine ∧ N (upd H5 Dl (.dK (putK kvs k z))) else N H3) wk
      (fun i H' => ∃ O2 ad2 S2 ys, FillK K mg O1 ad1 H1 Dl O2 ad2 S2 H' ys ∧ PostF K mg W ρ σ Q O1 ad1 H1 ((dcLG gs S1 tgt t k v (wipeR ρ vs) (ds.drop i) S2).bind fun zs S3 => dcEnd (ys ++ zs) S3)) ?_ ?_ ?_ ?_
    · exact ⟨_, ad1, S1, [], fill_new s1 hD, by simpa using h1⟩
    · rintro i H' hi ⟨O2, ad2, S2, ys, f, hp⟩
      exact hG O2 ad2 S2 H' ⟨f.1, dcLG_ok (P := PostF K mg W ρ σ Q O1 ad1 H1) (fun z => z) hp⟩ f.2.1
    · rintro i x H' H2 hi ⟨O2, ad2, S2, ys, f, hp⟩ y
      have sm := dcLG_ok (P := PostF K mg W ρ σ Q O1 ad1 H1) (fun z => z) hp
      obtain ⟨d, hd, t3, z3, rx⟩ := hY i H' x H2 O2 ad2 S2 ⟨f.1, sm⟩ f.2.1 hi y
      refine dc_turns (hid1 := s1.hid) hD (P := fun o => PostF K mg W ρ σ Q O1 ad1 H1 o ∧ ∀ x fs S, o ≠ .er x fs S) (fin := fun ys S => dcEnd ys S) (fun q => q.1) (fun x fs S q => q.2 x fs S rfl) (fun ys S q => (dcEnd_ok q.1).1) hg (wipeR_still vs ρ) (wipe_still vs σ) (f.step s1.hid t3 z3) (fw.step s1.hid (f.step s1.hid t3 z3).1) rx hd sm ⟨hp, fun x fs S q => ?_⟩ fun H' O' ad' S' ys' f' _ hp' => ⟨O', ad', S', ys', f', hp'.1⟩
      cases e4 : dcLG gs S1 tgt t k v (wipeR ρ vs) (ds.drop i) S2 with
      | no => rw [e4] at q; cases q
      | er x2 fs2 S6 => exact dcLG_noer _ _ _ _ _ e4
      | ok zs S6 => rw [e4] at q; simp only [Out.bind, dcEnd] at q; split at q <;> cases q
    · rintro H' ⟨O2, ad2, S2, ys, f, hp⟩
      have sm := dcLG_ok (P := PostF K mg W ρ σ Q O1 ad1 H1) (fun z => z) hp
      rw [List.drop_length] at hp
      unfold dcLG at hp
      rw [if_pos sm] at hp
      simp only [Out.bind, List.append_nil] at hp
      exact fill_end f hD hp
theorem dcL2_noer {gs : List Nat} {S0 : Sg} {tgt : Tgt} {t : MT} {mi1 : MJ} {tgt1 : Tgt} {t1 : MT} {k v : ME} {vs1 : List Nat} : ∀ (ds : List D) (S : Sg) x fs S', dcL2 gs S0 tgt t mi1 tgt1 t1 k v vs1 ρ ds S ≠ .er x fs S' := by
  intro ds
  induction ds with
  | nil => intro S x fs S' q; unfold dcL2 at q; split at q <;> cases q
  | cons d ds ih =>
    intro S x fs S' q
    unfold dcL2 at q
    split at q
    · cases e1 : tgt d ρ with
      | none => simp only [e1] at q; cases q
      | some ρ3 =>
        simp only [e1] at q
        cases e2 : t ρ3 S with
        | no => simp only [e2, noEr, Out.bind] at q; cases q
        | er _ _ _ => simp only [e2, noEr, Out.bind] at q; cases q
        | ok b S1 =>
          simp only [e2, noEr, Out.bind] at q
          cases b with
          | false => rw [if_neg Bool.false_ne_true] at q; exact ih _ _ _ _ q
          | true =>
            rw [if_pos rfl] at q
            cases e3 : mi1 ρ3 S1 with
            | no => simp only [e3, noEr, Out.bind] at q; cases q
            | er _ _ _ => simp only [e3, noEr, Out.bind] at q; cases q
            | ok p S2 =>
              simp only [e3, noEr, Out.bind] at q
              cases e4 : dcLG p.2 S2 tgt1 t1 k v (wipeR (unown ρ3) vs1) p.1 S2 with
              | no => simp only [e4] at q; cases q
              | er _ _ _ => exact dcLG_noer _ _ _ _ _ e4
              | ok xs S3 =>
                simp only [e4] at q
                cases e5 : dcL2 gs S0 tgt t mi1 tgt1 t1 k v vs1 ρ ds S3 with
                | no => simp only [e5] at q; cases q
                | er _ _ _ => exact ih _ _ _ _ e5
                | ok ys S4 => simp only [e5] at q; cases q
    · cases q
theorem w_dc2 {vs vs1 : List Nat} {mi mi1 : MJ} {g g1 : TG} {tgt tgt1 : Tgt} {t t1 : MT} {k v : ME} (hg : TgOk K mg vs g tgt) (hg1 : TgOk K mg vs1 g1 tgt1) :
    ∀ σ H Q, Ef K mg W (f_dc2 vs mi tgt t mi1 tgt1 t1 k v vs1) σ H Q → tDc2 (Ej K mg Stp W mi) g (Et K mg W0 t) (Ej K mg Grow W0 mi1) g1 (Et K mg W0 t1) (Ee K mg W0 k) (Ee K mg W0 v) vs vs1 σ H Q := by
  rintro σ H Q ⟨O, ad, S, ρ, s, fr, h⟩
  refine ⟨O, ad, S, ρ, s, fr, ?_⟩
  unfold f_dc2 at h
  cases em : mi ρ S with
  | no => rw [em] at h; exact h
  | er x fs S1 => rw [em] at h; exact h
  | ok p S1 =>
    obtain ⟨ds, gs⟩ := p
    rw [em] at h
    intro O1 ad1 H1 J t1' s1 src Dl hD
    obtain ⟨G, Y, wk, hG, hY⟩ := src
    have f1 : Fre K mg O1 ad1 ρ σ H1 := fr.step s.hid t1'
    have h1 : PostF K mg W ρ σ Q O1 ad1 H1 ((dcL2 gs S1 tgt t mi1 tgt1 t1 k v vs1 (wipeR ρ vs) ds S1).bind dcEnd) := PostF.rebase h t1' s.hid s1.dom
    have fw : Fre K mg O1 ad1 (wipeR ρ vs) (L2.wipe σ vs) H1 := f1.wipe vs
    have PP : ∀ {l : List D} {S : Sg} {ys : List (Key × D)}, PostF K mg W ρ σ Q O1 ad1 H1 ((dcL2 gs S1 tgt t mi1 tgt1 t1 k v vs1 (wipeR ρ vs) l S).bind fun zs S3 => dcEnd (ys ++ zs) S3) → ys.length ≤ 100000 := by
      intro l S ys q
      cases e4 : dcL2 gs S1 tgt t mi1 tgt1 t1 k v vs1 (wipeR ρ vs) l S with
      | no => rw [e4] at q; exact q.elim
      | er _ _ _ => exact (dcL2_noer _ _ _ _ _ e4).elim
      | ok zs S6 =>
        rw [e4] at q
        have := (dcEnd_ok q).1
        simp at this
        omega
    refine it_all (Step := fun x H' N => g x (wipe σ vs) H' fun σ2 H2 => wipe σ2 vs = wipe σ vs ∧ Et K mg W0 t σ2 H2 fun b H3 => if b = true then Ej K mg Grow W0 mi1 σ2 H3 fun J1 H4 => ∃ W1 : Nat → Nat → Hp → Prop, (∃ m, W1 0 m H4) ∧ ∀ j k' H, W1 j k' H →
        (J1.stop j H ∧ N H) ∨ (J1.go j H ∧ ∃ N1 : Hp → Prop, (∀ H', N1 H' → ∃ k'', k'' < k' ∧ W1 (j + 1) k'' H') ∧ ∀ x H', J1.yld j H x H' → g1 x (wipe σ2 vs1) H' fun σ3 H5 => wipe σ3 vs1 = wipe σ2 vs1 ∧ Et K mg W0 t1 σ3 H5 fun b H6 =>
          if b = true then Ee K mg W0 k σ3 H6 fun y H7 => Ee K mg W0 v σ3 H7 fun z H8 => ∃ kvs k, y = kV k ∧ H8 Dl = some (.dK kvs) ∧ kvs.length < sizeLine ∧ N1 (upd H8 Dl (.dK (putK kvs k z))) else N1 H6) else N H3) wk
      (fun i H' => ∃ O2 ad2 S2 ys, FillK K mg O1 ad1 H1 Dl O2 ad2 S2 H' ys ∧ PostF K mg W ρ σ Q O1 ad1 H1 ((dcL2 gs S1 tgt t mi1 tgt1 t1 k v vs1 (wipeR ρ vs) (ds.drop i) S2).bind fun zs S3 => dcEnd (ys ++ zs) S3)) ?_ ?_ ?_ ?_
    · exact ⟨_, ad1, S1, [], fill_new s1 hD, by simpa using h1⟩
    · rintro i H' hi ⟨O2, ad2, S2, ys, f, hp⟩
      exact hG O2 ad2 S2 H' ⟨f.1, dcL2_ok (P := PostF K mg W ρ σ Q O1 ad1 H1) (fun z => z) hp⟩ f.2.1
    · rintro i x H' H2 hi ⟨O2, ad2, S2, ys, f, hp⟩ y
      have sm := dcL2_ok (P := PostF K mg W ρ σ Q O1 ad1 H1) (fun z => z) hp
      obtain ⟨d, hd, t3, z3, rx⟩ := hY i H' x H2 O2 ad2 S2 ⟨f.1, sm⟩ f.2.1 hi y
      have f2 := f.step s1.hid t3 z3
      have ed : ds.drop i = d :: ds.drop (i + 1) := by
        obtain ⟨hl, hd'⟩ := List.getElem?_eq_some_iff.mp hd
        rw [List.drop_eq_getElem_cons hl, hd']
      rw [ed] at hp
      unfold dcL2 at hp
      rw [if_pos sm] at hp
      have fr2 : Fre K mg O2 ad2 (wipeR ρ vs) (L2.wipe σ vs) H2 := fw.step s1.hid f2.1
      cases et : tgt d (wipeR ρ vs) with
      | none => simp only [et] at hp; exact hp.elim
      | some ρ1 =>
        simp only [et] at hp
        obtain ⟨σ1, g1', _, wp, kg⟩ := hg O2 ad2 _ _ H2 x d ρ1 fr2 rx et
        refine kg _ ⟨by rw [wp]; exact wipe_still vs σ, O2, ad2, S2, ρ1, z3, g1', ?_⟩
        cases e1 : t ρ1 S2 with
        | no => simp only [e1, noEr, Out.bind] at hp; exact hp.elim
        | er x2 fs2 S3 => simp only [e1, noEr, Out.bind] at hp; exact hp.elim
        | ok b S3 =>
          simp only [e1, noEr, Out.bind] at hp
          intro O3 ad3 H3 t4 z4
          have f3 := f2.step s1.hid t4 z4
          have g3 := g1'.step z3.hid t4
          cases b with
          | false =>
            rw [if_neg Bool.false_ne_true] at hp ⊢
            exact ⟨O3, ad3, S3, ys, f3, hp⟩
          | true =>
            rw [if_pos rfl] at hp ⊢
            refine ⟨O3, ad3, S3, ρ1, z4, g3, ?_⟩
            cases e2 : mi1 ρ1 S3 with
            | no => simp only [e2, noEr, Out.bind] at hp; exact hp.elim
            | er x2 fs2 S4 => simp only [e2, noEr, Out.bind] at hp; exact hp.elim
            | ok p1 S4 =>
              obtain ⟨ds1, gs1⟩ := p1
              simp only [e2, noEr, Out.bind] at hp
              intro O4 ad4 H4 J1 t5 z5 src1
              obtain ⟨G1, Y1, wk1, hG1, hY1⟩ := src1
              have f4 := f3.step s1.hid t5 z5
              have g4 := g3.step z4.hid t5
              have g4w := (g4.unown).wipe vs1
              have hp4 : PostF K mg W ρ σ Q O1 ad1 H1 ((dcLG gs1 S4 tgt1 t1 k v (wipeR (unown ρ1) vs1) ds1 S4).bind fun xs S5 => (dcL2 gs S1 tgt t mi1 tgt1 t1 k v vs1 (wipeR ρ vs) (ds.drop (i + 1)) S5).bind fun zs S6 => dcEnd ((ys ++ xs) ++ zs) S6) := by
                cases e3 : dcLG gs1 S4 tgt1 t1 k v (wipeR (unown ρ1) vs1) ds1 S4 with
                | no => simp only [e3] at hp; exact hp.elim
                | er _ _ _ => exact (dcLG_noer _ _ _ _ _ e3).elim
                | ok xs S5 =>
                  simp only [e3] at hp
                  cases e5 : dcL2 gs S1 tgt t mi1 tgt1 t1 k v vs1 (wipeR ρ vs) (ds.drop (i + 1)) S5 with
                  | no => simp only [e5] at hp; exact hp.elim
                  | er _ _ _ => exact (dcL2_noer _ _ _ _ _ e5).elim
                  | ok zs S6 =>
                    simp only [e5] at hp
                    simpa [Out.bind, e5, List.append_assoc] using hp
              clear hp
              obtain ⟨t24, z24, oD4, nD4, acc4, hD4, r4⟩ := id f4
              refine it_all (Step := fun x H' N1 => g1 x (wipe σ1 vs1) H' fun σ3 H5 => wipe σ3 vs1 = wipe σ1 vs1 ∧ Et K mg W0 t1 σ3 H5 fun b H6 =>
                if b = true then Ee K mg W0 k σ3 H6 fun y H7 => Ee K mg W0 v σ3 H7 fun z H8 => ∃ kvs k, y = kV k ∧ H8 Dl = some (.dK kvs) ∧ kvs.length < sizeLine ∧ N1 (upd H8 Dl (.dK (putK kvs k z))) else N1 H6) wk1
                (fun j H' => ∃ O5 ad5 S5 ys', FillK K mg O1 ad1 H1 Dl O5 ad5 S5 H' ys' ∧ Grow O4 ad4 H4 O5 ad5 H' ∧ PostF K mg W ρ σ Q O1 ad1 H1 ((dcLG gs1 S4 tgt1 t1 k v (wipeR (unown ρ1) vs1) (ds1.drop j) S5).bind fun xs S6 => (dcL2 gs S1 tgt t mi1 tgt1 t1 k v vs1 (wipeR ρ vs) (ds.drop (i + 1)) S6).bind fun zs S7 => dcEnd ((ys' ++ xs) ++ zs) S7)) ?_ ?_ ?_ ?_
              · exact ⟨O4, ad4, S4, ys, f4, .refl _ _ _, by simpa using hp4⟩
              · rintro j H5 hj ⟨O5, ad5, S5, ys', f5, gr5, hp5⟩
                exact hG1 O5 ad5 S5 H5 ⟨gr5, dcLG_ok (P := PostF K mg W ρ σ Q O1 ad1 H1) (fun z => z) hp5⟩ f5.2.1
              · rintro j x1 H5 H6 hj ⟨O5, ad5, S5, ys', f5, gr5, hp5⟩ y1
                have sm1 := dcLG_ok (P := PostF K mg W ρ σ Q O1 ad1 H1) (fun z => z) hp5
                obtain ⟨d1, hd1, t6, z6, rx1⟩ := hY1 j H5 x1 H6 O5 ad5 S5 ⟨gr5, sm1⟩ f5.2.1 hj y1
                have gr6 := gr5.trans (t6.grow f5.2.1.hid)
                refine dc_turns (hid1 := s1.hid) hD (P := fun o => PostF K mg W ρ σ Q O1 ad1 H1 o ∧ ∀ x fs S, o ≠ .er x fs S) (fin := fun xs S6 => (dcL2 gs S1 tgt t mi1 tgt1 t1 k v vs1 (wipeR ρ vs) (ds.drop (i + 1)) S6).bind fun zs S7 => dcEnd (xs ++ zs) S7) (fun q => q.1) (fun x fs S q => q.2 x fs S rfl) (fun ys S q => PP q.1) hg1 (wipeR_still vs1 _) (wipe_still vs1 _) (f5.step s1.hid t6 z6) (g4w.grown (fun i d => unown_no i d) gr6) rx1 hd1 sm1 ⟨hp5, fun x fs S q => ?_⟩ fun H' O' ad' S' ys2 f' g' hp' => ⟨O', ad', S', ys2, f', gr6.trans g', hp'.1⟩
                cases e4 : dcLG gs1 S4 tgt1 t1 k v (wipeR (unown ρ1) vs1) (ds1.drop j) S5 with
                | no => rw [e4] at q; cases q
                | er x2 fs2 S6 => exact dcLG_noer _ _ _ _ _ e4
                | ok zs S6 =>
                  rw [e4] at q
                  simp only [Out.bind] at q
                  cases e5 : dcL2 gs S1 tgt t mi1 tgt1 t1 k v vs1 (wipeR ρ vs) (ds.drop (i + 1)) S6 with
                  | no => simp only [e5] at q; cases q
                  | er _ _ _ => exact dcL2_noer _ _ _ _ _ e5
                  | ok ws S7 => simp only [e5, dcEnd] at q; split at q <;> cases q
              · rintro H5 ⟨O5, ad5, S5, ys', f5, gr5, hp5⟩
                have sm1 := dcLG_ok (P := PostF K mg W ρ σ Q O1 ad1 H1) (fun z => z) hp5
                rw [List.drop_length] at hp5
                unfold dcLG at hp5
                rw [if_pos sm1] at hp5
                simp only [Out.bind, List.append_nil] at hp5
                exact ⟨O5, ad5, S5, ys', f5, hp5⟩
    · rintro H' ⟨O2, ad2, S2, ys, f, hp⟩
      have sm := dcL2_ok (P := PostF K mg W ρ σ Q O1 ad1 H1) (fun z => z) hp
      rw [List.drop_length] at hp
      unfold dcL2 at hp
      rw [if_pos sm] at hp
      simp only [Out.bind, List.append_nil] at hp
      exact fill_end f hD hp
end
end Gd

/-! Gd, part 28: dict comprehensions as expressions; a new dict that is locked; methods that change a thing; o.pop(i). -/
namespace Gd
open PySem L2 PyProof.Rows

section
variable {X : Cx} {W : WX} {kx vx tg iter tg1 iter1 : Expr} {ifs ifs1 : List Expr} {scope : Scope} {own : List (Str × Nat)} {vs1 : List Nat} {pos : Pos} {mi mi1 : MJ} {g g1 : TG} {tgt tgt1 : Tgt} {t t1 : MT} {mk mv : ME}
theorem F_dcG (hc : X.calm = true) (hN : X.N.Nodup) (hi : PI X tg iter (Ej X.g X.mg Stp W mi)) (ok : BlkOk X.N X.env.scope scope own) (tk : TgOk X.g X.mg (own.map (·.2)) g tgt)
    (hg : BlkAll X scope fun Y => PG Y tg g) (ht : BlkAll X scope fun Y => PTs Y ifs (Et X.g X.mg W0 t)) (hk : BlkAll X scope fun Y => PE Y kx (Ee X.g X.mg W0 mk)) (he : BlkAll X scope fun Y => PE Y vx (Ee X.g X.mg W0 mv))
    (hs : ∀ x, foldedSetIterable iter X.env x = pure x := by intro _; rfl) : PE X (.DictComp kx vx [⟨tg, iter, ifs, 0⟩] scope pos) (Ef X.g X.mg W (f_dcG (own.map (·.2)) mi tgt t mk mv)) := pe_of (pe_dc hc hN hi ok hg ht hk he hs) (w_dcG tk)
theorem F_dc2 (hc : X.calm = true) (hN : X.N.Nodup) (hi : PI X tg iter (Ej X.g X.mg Stp W mi)) (ok : BlkOk X.N X.env.scope scope own) (hv : ∀ i ∈ vs1, i ∈ own.map (·.2)) (tk : TgOk X.g X.mg (own.map (·.2)) g tgt) (tk1 : TgOk X.g X.mg vs1 g1 tgt1)
    (hg : BlkAll X scope fun Y => PG Y tg g) (ht : BlkAll X scope fun Y => PTs Y ifs (Et X.g X.mg W0 t)) (hi1 : BlkAll X scope fun Y => PI Y tg1 iter1 (Ej X.g X.mg Grow W0 mi1)) (hg1 : BlkAll X scope fun Y => PG Y tg1 g1) (ht1 : BlkAll X scope fun Y => PTs Y ifs1 (Et X.g X.mg W0 t1))
    (hk : BlkAll X scope fun Y => PE Y kx (Ee X.g X.mg W0 mk)) (he : BlkAll X scope fun Y => PE Y vx (Ee X.g X.mg W0 mv))
    (hs : ∀ x, foldedSetIterable iter X.env x = pure x := by intro _; rfl) (hs1 : ∀ env x, foldedSetIterable iter1 env x = pure x := by intro _ _; rfl) :
    PE X (.DictComp kx vx [⟨tg, iter, ifs, 0⟩, ⟨tg1, iter1, ifs1, 0⟩] scope pos) (Ef X.g X.mg W (f_dc2 (own.map (·.2)) mi tgt t mi1 tgt1 t1 mk mv vs1)) := pe_of (pe_dc2 hc hN hi ok hv hg ht hi1 hg1 ht1 hk he hs hs1) (w_dc2 tk tk1)
end
/-! ### a new dict is locked -/
def e_lk (m : ME) : ME := fun ρ S => (m ρ S).bind fun d S1 => match d with
  | .dct l => .ok (.dcf l) S1
  | _ => .no
def tLk (t : TE) : TE := fun σ H Q => t σ H fun v H1 => ∃ d u, v = .ref d ∧ H1 d = some u ∧ Mut (some u) ∧ ∀ od, Q v (upd H1 d (.frz od u))
theorem pe_lk {X : Cx} {e : Expr} {t : TE} (h : PE X e t) : PE X e (tLk t) := by
  refine ⟨fun pins s σ H Q I hw => ?_⟩
  refine thn (h.run pins s σ _ _ I hw) fun v s1 ⟨x, H1, I1, r, d, u, ex, hd, mu, q⟩ => ?_
  subst ex
  obtain ⟨od, I2⟩ := I1.lock hd mu
  exact ⟨.ref d, _, I2, r, q od⟩
theorem w_lk {K : Fg} {mg : Mg} {W : WX} {m : ME} : ∀ σ H Q, Ee K mg W (e_lk m) σ H Q → tLk (Ef K mg W m) σ H Q := by
  rintro σ H Q ⟨O, ad, S, ρ, s, fr, h⟩
  refine ⟨O, ad, S, ρ, s, fr, ?_⟩
  unfold e_lk at h
  cases e : m ρ S with
  | no => rw [e] at h; exact h
  | er x fs S1 => rw [e] at h; exact h
  | ok d S1 =>
    rw [e] at h
    cases d with
    | dct l =>
      intro p O' ad' H' t z h1 h2 h3 ⟨kvs, hp, r⟩
      refine ⟨p, _, rfl, hp, trivial, fun od => ?_⟩
      have np : ∀ a, O a → a ≠ p := fun a ha q => by
        obtain ⟨o, ho⟩ := s.dom a ha
        rw [q, h3] at ho; cases ho
      have hk : ∀ b o, hide O' H' b = some o → hide (fun a => O' a ∧ a ≠ p) (upd H' p (.frz od (.dK kvs))) b = some o := fun b o e => by
        obtain ⟨n, e⟩ := of_hide e
        refine hide_of (fun q => n q.1) ?_
        rw [upd_ne (fun q => n (by rw [q]; exact h1))]
        exact e
      have z2 : Sto K mg (fun a => O' a ∧ a ≠ p) ad' S1 (upd H' p (.frz od (.dK kvs))) := by
        refine ⟨z.len, z.nd, fun a ha => ⟨z.hid a ha, fun q => h2 (by rw [← q]; exact ha)⟩, fun a ha => ?_, fun n d hd => ?_⟩
        · obtain ⟨o, ho⟩ := z.dom a ha.1
          exact ⟨o, by rw [upd_ne ha.2]; exact ho⟩
        · obtain ⟨a, q1, q2⟩ := z.ob n d hd
          refine ⟨a, q1, q2.mono hk (fun _ _ e => e) fun o e => ?_⟩
          rw [upd_ne (fun q => h2 (by rw [← q]; exact List.mem_of_getElem? q1))]
          exact e
      refine h (.ref p) (fun a => O' a ∧ a ≠ p) ad' _ ⟨fun b o hb m => ?_, fun a ha => ⟨t.op a ha, np a ha⟩, fun a ha => t.oq a ha.1, t.ap⟩ z2 (repR_of (.dcf (hide_of (fun q => q.2 rfl) upd_same) (r.mono hk fun _ _ e => e)))
      rw [upd_ne (ne_of_none hb h3)]
      exact t.fr b o hb m
    | _ => exact h.elim
theorem E_lk {X : Cx} {W : WX} {e : Expr} {m : ME} (h : PE X e (Ef X.g X.mg W m)) : PE X e (Ee X.g X.mg W (e_lk m)) := pe_of (pe_lk h) w_lk
/-! ### what changes a thing of the store -/
section
variable {K : Fg} {mg : Mg} {O : Addr → Prop} {ad : List Addr} {S : Sg} {H : Hp}
theorem sto_set (s : Sto K mg O ad S H) {n : Nat} {d d' : D} {a : Addr} {o : HO} (hn : S[n]? = some d) (ha : ad[n]? = some a) (m : MRep K mg (hide O H) ad (upd H a o) a d') :
    Stp O ad H O ad (upd H a o) ∧ Sto K mg O ad (S.set n d') (upd H a o) := by
  have hm := List.mem_of_getElem? ha
  have hO := s.hid a hm
  refine ⟨⟨fun b o' e m' => ?_, fun _ h => h, fun _ h => .inl h, [], by simp, fun _ h => nomatch h⟩, ⟨by rw [List.length_set]; exact s.len, s.nd, s.hid, fun b hb => ?_, fun k e h => ?_⟩⟩
  · rw [upd_ne (fun q => m' (by rw [q]; exact hm))]
    exact e
  · by_cases q : b = a
    · exact ⟨o, by rw [q]; exact upd_same⟩
    · obtain ⟨o', ho⟩ := s.dom b hb
      exact ⟨o', by rw [upd_ne q]; exact ho⟩
  · rcases get_set h with ⟨rfl, e1, _⟩ | ⟨nk, h⟩
    · cases e1
      exact ⟨a, ha, m.mono (hide_upd hO) (fun _ _ e => e) fun _ e => e⟩
    · obtain ⟨b, q1, q2⟩ := s.ob k e h
      refine ⟨b, q1, q2.mono (hide_upd hO) (fun _ _ e => e) fun o' e => ?_⟩
      rw [upd_ne (fun q => nk (nd_ix s.nd ha (by rw [← q]; exact q1)))]
      exact e
end
theorem Reps.erase {K : Fg} {mg : Mg} {G : Hp} {ad : List Addr} {vs : List V} {ds : List D} (h : Reps K mg G ad vs ds) : ∀ k : Nat, Reps K mg G ad (vs.eraseIdx k) (ds.eraseIdx k) := by
  induction vs generalizing ds with
  | nil => cases h; intro k; simp; exact .nil
  | cons x xs ih =>
    cases h with
    | cons a b =>
      intro k
      cases k with
      | zero => simpa using b
      | succ k => simpa using Reps.cons a (ih b k)
/-- o.pop(i): a list of the store -/
def popAt (ds : List D) (i : Int) : Option (D × List D) := (ixN ds.length i).bind fun k => (ds[k]?).map fun y => (y, ds.eraseIdx k)
def e_pop (mo mi : ME) : ME := fun ρ S => (mo ρ S).bind fun dd S1 => match dd with
  | .obj n => if isLstAt ρ S1 (.obj n) = true then (mi ρ S1).bind fun di S2 => match di, S2[n]? with
    | .int i, some (.lst ds) => (match popAt ds i with
      | some (y, es) => if ds.length ≤ 100000 then .ok y (S2.set n (.lst es)) else .no
      | none => .no)
    | _, _ => .no else .no
  | _ => .no
end Gd

/-! Gd, part 29: o.pop(i) as a value; o.reverse(), o.clear(), o.extend(xs), o.insert(i, x) as statements; int(b), min and max of two. -/
namespace Gd
open PySem L2 PyProof.Rows

section
variable {K : Fg} {mg : Mg} {W : WX}
theorem w_pop {mo mi : ME} : ∀ σ H Q, Ee K mg W (e_pop mo mi) σ H Q → tBM K "list" rPopAt (Ee K mg W mo) (Ea K mg W (a_cons mi a_nil)) σ H Q := by
  intro σ H Q q
  refine (bindE (f := fun ρ dd S1 => match dd with
  | .obj n => if isLstAt ρ S1 (.obj n) = true then (mi ρ S1).bind fun di S2 => match di, S2[n]? with
    | .int i, some (.lst ds) => (match popAt ds i with
      | some (y, es) => if ds.length ≤ 100000 then .ok y (S2.set n (.lst es)) else .no
      | none => .no)
    | _, _ => .no else .no
  | _ => .no) q).imp fun v H1 g => ?_
  obtain ⟨O, ad, S, ρ, dd, s, fr, r, k⟩ := g
  cases dd with
  | obj n =>
    have r' : Rep K mg (hide O H1) ad v (.obj n) := r
    dsimp only at k
    obtain ⟨c, k⟩ := post_if (P := PostE K mg W ρ σ Q O ad H1) (fun z => z) k
    cases r' with
    | obj ha =>
      rename_i a
      refine ⟨?_, O, ad, S, ρ, s, fr, ?_⟩
      · unfold isLstAt at c
        split at c
        · rename_i ds hd
          obtain ⟨b, h1, vs, h2, _⟩ := s.ob n _ hd
          rw [ha] at h1
          cases h1
          exact .inl ⟨rfl, _, .inl (.of h2)⟩
        · cases c
      · unfold a_cons a_nil
        cases e : mi ρ S with
        | no => rw [e] at k; exact k
        | er x fs S1 => rw [e] at k; exact k
        | ok di S1 =>
          rw [e] at k
          intro vs O' ad' H' t z' r2
          cases r2 with
          | cons r3 r4 =>
            cases r4
            rename_i w
            simp only [Out.bind] at k
            cases di with
            | int i =>
              have r5 : Rep K mg (hide O' H') ad' w (.int i) := r3
              cases r5
              cases es : S1[n]? with
              | none => rw [es] at k; exact k.elim
              | some d0 =>
                rw [es] at k
                cases d0 with
                | lst ds =>
                  dsimp only at k
                  cases ep : popAt ds i with
                  | none => rw [ep] at k; exact k.elim
                  | some p =>
                    obtain ⟨y, es'⟩ := p
                    rw [ep] at k
                    obtain ⟨c2, k⟩ := post_if (P := PostE K mg W ρ σ Q O ad H1) (fun z => z) k
                    obtain ⟨b, h1, xs, h2, h3⟩ := z'.ob n _ es
                    rw [t.get n a ha] at h1
                    cases h1
                    unfold popAt at ep
                    obtain ⟨j, ej, ep⟩ := Option.bind_eq_some_iff.mp ep
                    obtain ⟨y', ey, ep⟩ := Option.map_eq_some_iff.mp ep
                    cases ep
                    obtain ⟨q1, q2, q3, q4⟩ := ixN_seq ej
                    have hl := h3.length
                    obtain ⟨yv, hy, ry⟩ := h3.get ey
                    have ha' := t.get n a ha
                    have hO := z'.hid a (List.mem_of_getElem? ha')
                    have hu : ∀ b o', hide O' H' b = some o' → hide O' (upd H' a (.lst (xs.eraseIdx j))) b = some o' := hide_upd hO
                    obtain ⟨t2, z2⟩ := sto_set (d' := .lst (ds.eraseIdx j)) (o := .lst (xs.eraseIdx j)) z' es ha' ⟨_, upd_same, (h3.erase j)⟩
                    have hd : ds.length ≤ 100000 := c2
                    exact ⟨a, xs, i, j, yv, rfl, rfl, h2, by omega, by omega, by rw [hl]; exact q1, hy, k yv O' ad' _ (t.trans t2 s.hid z'.dom) z2 (repR_of (ry.mono hu fun _ _ e => e))⟩
                | _ => exact k.elim
            | _ => exact k.elim
  | _ => exact k.elim
end
section
variable {X : Cx} {W : WX} {o i e : Expr} {mo mi mv me : ME} {pos pos' apos cpos : Pos}
theorem E_pop (ho : PE X o (Ee X.g X.mg W mo)) (he : PE X e (Ee X.g X.mg W me)) (hbase : attributeBase o "pop" X.env (eval o X.env) = eval o X.env := by rfl)
    (hfew : ((backTo cpos (starEach (e :: []) X.env)).all (fun x => !x.1) && (backToKw cpos (keywordEach [] X.env)).all (fun x => x.1.isSome)
      && decide ((e :: []).length + ([] : List Keyword).length + (if ([] : List Keyword).isEmpty then 0 else 1) < 30)) = true := by rfl)
    (hline : (apos.endLine == cpos.line) = true := by rfl) (hs : starEach (e :: []) X.env = (false, eval e X.env) :: starEach [] X.env := by rfl) (hplain : (backTo cpos (starEach [] X.env)).any (·.1) = false := by rfl) :
    PE X (.Call (.Attribute o "pop" apos) [e] [] cpos) (Ee X.g X.mg W (e_pop mo me)) :=
  pe_of (pe_bm PySem.F.plainAttrs_list PySem.F.slot_list_pop PySem.F.type_list_pop mt_popAt ho (A_cons he A_nil hs) hbase hfew hline hs hplain) w_pop
end

/-! ### what changes a list, as a statement -/
def s_a (m : MA) (f : List D → MS) : MS := fun ρ S => match m ρ S with
  | .ok ds S1 => f ds ρ S1
  | .er x fs S1 => .ex x fs ρ S1
  | .no => .no
section
variable {K : Fg} {mg : Mg} {W : WX} {c : Ctx} {O O1 : Addr → Prop} {ad ad1 : List Addr} {S S1 : Sg} {ρ : Ro} {σ : L2.St} {H H1 : Hp} {Dn : Ends}
theorem bindAK {m : MA} {f : List D → MS} {vs : List V} {ds : List D} (z : Sta K mg c O ad S ρ σ H) (r : Paired (RepR K mg O ad ρ σ H) vs ds) (h : PostS K mg W c Dn O ad H (s_a m f ρ S)) :
    Ea K mg W m σ H fun ws H1 => ∃ O1 ad1 S1 es, Sta K mg c O1 ad1 S1 ρ σ H1 ∧ Paired (RepR K mg O1 ad1 ρ σ H1) ws es ∧ Paired (RepR K mg O1 ad1 ρ σ H1) vs ds ∧ PostS K mg W c Dn O1 ad1 H1 (f es ρ S1) := by
  refine ⟨O, ad, S, ρ, z.sto, z.fre, ?_⟩
  unfold s_a at h
  cases e : m ρ S with
  | ok d S1 =>
    simp only [e] at h
    exact fun v O' ad' H' t z' r' => ⟨O', ad', S1, d, z.step t z', r', PairedR.step z.sto.hid t r, h.rebase (t.grow z.sto.hid)⟩
  | er x fs S1 =>
    simp only [e] at h
    exact fun cls dd O' ad' H' t z' r => h cls dd σ O' ad' H' (t.grow z.sto.hid) (z.step t z') r
  | no => simp only [e] at h; exact h
end
def s_mt (f : List D → D → Option D) (mo : ME) (ma : MA) : MS := s_e mo fun dd ρ S => if isLstAt ρ S dd = true then s_a ma (fun ds => if noLoc ds = true then putTo dd (f ds) else fun _ _ => .no) ρ S else .no
/-- what a method does to a list: a rule r of the kit, and f -/
def MutP (K : Fg) (mg : Mg) (r : V → List V → Hp → VK → Prop) (f : List D → D → Option D) : Prop :=
  ∀ G H ad a e e' vs ds, (∀ b o, G b = some o → H b = some o) → MRep K mg G ad H a e → Reps K mg G ad vs ds → f ds e = some e' →
    ∃ o, (∀ H', H' a = some o → MRep K mg G ad H' a e') ∧ ∀ Q : VK, Q .non (upd H a o) → r (.ref a) vs H Q
section
variable {K : Fg} {mg : Mg} {W : WX}
theorem w_mt {r : V → List V → Hp → VK → Prop} {f : List D → D → Option D} (hf : MutP K mg r f) {mo : ME} {ma : MA} : ∀ Dn σ H, Ss K mg W (s_mt f mo ma) Dn σ H → tDrop (tBM K "list" r (Ee K mg W mo) (Ea K mg W ma)) Dn σ H := by
  rintro Dn σ H ⟨c, O, ad, S, ρ, z, h⟩
  refine (bindK (f := fun dd ρ S => if isLstAt ρ S dd = true then s_a ma (fun ds => if noLoc ds = true then putTo dd (f ds) else fun _ _ => .no) ρ S else .no) z .nil h).imp fun o H1 g => ?_
  obtain ⟨O, ad, S, dd, z, ro, _, h⟩ := g
  cases il : isLstAt ρ S dd with
  | false => rw [il, if_neg Bool.false_ne_true] at h; exact h.elim
  | true =>
    rw [il, if_pos rfl] at h
    refine ⟨?_, ?_⟩
    · unfold isLstAt at il
      split at il
      · rename_i ds hd
        obtain ⟨a, vs, rfl, h1, _⟩ := (deref_rep z.fre z.sto ro hd).lst
        exact .inl ⟨rfl, _, h1⟩
      · cases il
    · refine (bindAK (f := fun ds => if noLoc ds = true then putTo dd (f ds) else fun _ _ => .no) z (.cons ro .nil) h).imp fun vs H2 g => ?_
      obtain ⟨O, ad, S, ds, z, rs, r1, h⟩ := g
      cases r1 with
      | cons ro _ =>
        cases en : noLoc ds with
        | false => rw [en, if_neg Bool.false_ne_true] at h; exact h.elim
        | true =>
          rw [en, if_pos rfl] at h
          obtain ⟨a, e, e', rfl, m, he, k⟩ := putTo_ok z ro h
          obtain ⟨o, q1, q2⟩ := hf (hide O H2) H2 ad a e e' vs ds (fun b o e => (of_hide e).2) m (reps_of rs en) he
          exact q2 _ (k o (q1 _ upd_same))
/-- no arguments -/
theorem w_mt0 {r : V → List V → Hp → VK → Prop} {f : List D → D → Option D} (hf : MutP K mg r f) {mo : ME} : ∀ Dn σ H, Ss K mg W (s_mt f mo a_nil) Dn σ H → tDrop (tBM0 K "list" r (Ee K mg W mo)) Dn σ H := by
  rintro Dn σ H ⟨c, O, ad, S, ρ, z, h⟩
  refine (bindK (f := fun dd ρ S => if isLstAt ρ S dd = true then s_a a_nil (fun ds => if noLoc ds = true then putTo dd (f ds) else fun _ _ => .no) ρ S else .no) z .nil h).imp fun o H1 g => ?_
  obtain ⟨O, ad, S, dd, z, ro, _, h⟩ := g
  cases il : isLstAt ρ S dd with
  | false => rw [il, if_neg Bool.false_ne_true] at h; exact h.elim
  | true =>
    rw [il, if_pos rfl] at h
    refine ⟨?_, ?_⟩
    · unfold isLstAt at il
      split at il
      · rename_i ds hd
        obtain ⟨a, vs, rfl, h1, _⟩ := (deref_rep z.fre z.sto ro hd).lst
        exact .inl ⟨rfl, _, h1⟩
      · cases il
    · unfold s_a a_nil at h
      dsimp only at h
      rw [if_pos (by rfl)] at h
      obtain ⟨a, e, e', rfl, m, he, k⟩ := putTo_ok z ro h
      obtain ⟨o, q1, q2⟩ := hf (hide O H1) H1 ad a e e' [] [] (fun b o e => (of_hide e).2) m .nil he
      exact q2 _ (k o (q1 _ upd_same))
end
def f_rev : List D → D → Option D
  | [], .lst es => some (.lst es.reverse)
  | _, _ => none
def f_clear : List D → D → Option D
  | [], .lst es => some (.lst [])
  | _, _ => none
def f_ins : List D → D → Option D
  | [.int i, y], .lst es => if 0 ≤ i ∧ i < 100000 ∧ es.length < 100000 then some (.lst (es.take i.toNat ++ [y] ++ es.drop i.toNat)) else none
  | _, _ => none
def f_popS : List D → D → Option D
  | [.int i], .lst es => if es.length ≤ 100000 then (popAt es i).map fun p => .lst p.2 else none
  | _, _ => none
section
variable {K : Fg} {mg : Mg}
theorem Reps.rev {G : Hp} {ad : List Addr} {vs : List V} {ds : List D} (h : Reps K mg G ad vs ds) : Reps K mg G ad vs.reverse ds.reverse := by
  induction vs generalizing ds with
  | nil => cases h; exact .nil
  | cons x xs ih =>
    cases h with
    | cons a b =>
      rw [List.reverse_cons, List.reverse_cons]
      exact (ih b).app (.cons a .nil)
theorem mp_rev : MutP K mg rReverse f_rev := by
  intro G H ad a e e' vs ds sub m r he
  unfold f_rev at he
  split at he
  · cases r
    cases he
    obtain ⟨xs, h1, h2⟩ := m
    exact ⟨.lst xs.reverse, fun H' h => ⟨_, h, h2.rev⟩, fun Q q => ⟨a, xs, rfl, rfl, h1, q⟩⟩
  · cases he
theorem mp_clear : MutP K mg rClear f_clear := by
  intro G H ad a e e' vs ds sub m r he
  unfold f_clear at he
  split at he
  · cases r
    cases he
    obtain ⟨xs, h1, h2⟩ := m
    exact ⟨.lst [], fun H' h => ⟨_, h, .nil⟩, fun Q q => ⟨a, xs, rfl, rfl, h1, q⟩⟩
  · cases he
def rInsert : V → List V → Hp → VK → Prop := fun x vs H Q => ∃ (l : Addr) (xs : List V) (i : Int) (y : V), x = .ref l ∧ vs = [.int i, y] ∧ H l = some (.lst xs) ∧ xs.length < sizeLine ∧ 0 ≤ i ∧ i < 2 ^ 63 ∧
    Q .non (upd H l (.lst (xs.take i.toNat ++ [y] ++ xs.drop i.toNat)))
theorem mp_ins : MutP K mg rInsert f_ins := by
  intro G H ad a e e' vs ds sub m r he
  unfold f_ins at he
  split at he
  · rename_i i y es
    split at he
    · rename_i c
      cases he
      obtain ⟨xs, h1, h2⟩ := m
      cases r with
      | cons r1 r2 =>
        cases r2 with
        | cons r3 r4 =>
          cases r4
          cases r1
          rename_i yv
          refine ⟨.lst (xs.take i.toNat ++ [yv] ++ xs.drop i.toNat), fun H' h => ⟨_, h, ((h2.take _).app (.cons r3 .nil)).app (h2.drop _)⟩, fun Q q => ⟨a, xs, i, yv, rfl, rfl, h1, Nat.lt_of_lt_of_le (by rw [h2.length]; exact c.2.2) (by decide), c.1, by omega, q⟩⟩
    · cases he
  · cases he
def rPopS : V → List V → Hp → VK → Prop := fun x vs H Q => rPopAt x vs H Q
theorem mp_pop : ∀ G H ad a e e' vs ds, (∀ b o, G b = some o → H b = some o) → MRep K mg G ad H a e → Reps K mg G ad vs ds → f_popS ds e = some e' →
    ∃ o, (∀ H', H' a = some o → MRep K mg G ad H' a e') ∧ ∀ Q : VK, (∀ y, Q y (upd H a o)) → rPopAt (.ref a) vs H Q := by
  intro G H ad a e e' vs ds sub m r he
  unfold f_popS at he
  split at he
  · rename_i i es
    split at he
    · rename_i c
      obtain ⟨⟨y, es'⟩, ep, he⟩ := Option.map_eq_some_iff.mp he
      cases he
      obtain ⟨xs, h1, h2⟩ := m
      cases r with
      | cons r1 r2 =>
        cases r2
        cases r1
        unfold popAt at ep
        obtain ⟨j, ej, ep⟩ := Option.bind_eq_some_iff.mp ep
        obtain ⟨y', ey, ep⟩ := Option.map_eq_some_iff.mp ep
        cases ep
        obtain ⟨q1, q2, q3, q4⟩ := ixN_seq ej
        have hl := h2.length
        obtain ⟨yv, hy, ry⟩ := h2.get ey
        exact ⟨.lst (xs.eraseIdx j), fun H' h => ⟨_, h, h2.erase j⟩, fun Q q => ⟨a, xs, i, j, yv, rfl, rfl, h1, by omega, by omega, by rw [hl]; exact q1, hy, q yv⟩⟩
    · cases he
  · cases he
end
section
variable {X : Cx} {W : WX} {o i e : Expr} {es : List Expr} {mo mi mv me : ME} {ma : MA} {pos pos' apos cpos : Pos} {name : Str} {id : String} {r : V → List V → Hp → VK → Prop} {f : List D → D → Option D}
theorem S_mt0 (slot : PySem.Slot "list" name id) (hty : typeOf (.builtin id) = pure (.type "method_descriptor")) (hm : MtR X id r) (hf : MutP X.g X.mg r f) (ho : PE X o (Ee X.g X.mg W mo))
    (hbase : attributeBase o name X.env (eval o X.env) = eval o X.env := by rfl) (hline : (apos.endLine == cpos.line) = true := by rfl) (hsw : swapsWith (.Call (.Attribute o name apos) [] [] cpos) none pos.line X.env = pure false := by rfl) :
    PS X (.Expr (.Call (.Attribute o name apos) [] [] cpos) pos) (Ss X.g X.mg W (s_mt f mo a_nil)) :=
  ps_of (ps_expr (pe_bm0 PySem.F.plainAttrs_list slot hty hm ho hbase hline) hsw) (w_mt0 hf)
theorem S_mt (slot : PySem.Slot "list" name id) (hty : typeOf (.builtin id) = pure (.type "method_descriptor")) (hm : MtR X id r) (hf : MutP X.g X.mg r f) (ho : PE X o (Ee X.g X.mg W mo)) (ha : PA X (e :: es) (Ea X.g X.mg W ma))
    (hbase : attributeBase o name X.env (eval o X.env) = eval o X.env := by rfl)
    (hfew : ((backTo cpos (starEach (e :: es) X.env)).all (fun x => !x.1) && (backToKw cpos (keywordEach [] X.env)).all (fun x => x.1.isSome)
      && decide ((e :: es).length + ([] : List Keyword).length + (if ([] : List Keyword).isEmpty then 0 else 1) < 30)) = true := by rfl)
    (hline : (apos.endLine == cpos.line) = true := by rfl) (hs : starEach (e :: es) X.env = (false, eval e X.env) :: starEach es X.env := by rfl) (hplain : (backTo cpos (starEach es X.env)).any (·.1) = false := by rfl) (hsw : swapsWith (.Call (.Attribute o name apos) (e :: es) [] cpos) none pos.line X.env = pure false := by rfl) :
    PS X (.Expr (.Call (.Attribute o name apos) (e :: es) [] cpos) pos) (Ss X.g X.mg W (s_mt f mo ma)) :=
  ps_of (ps_expr (pe_bm PySem.F.plainAttrs_list slot hty hm ho ha hbase hfew hline hs hplain) hsw) (w_mt hf)
end
/-! ### int(b), min(i, j), max(i, j) -/
def d_int : D → Option D
  | .int i => some (.int i)
  | .bl k => some (.int (if k then 1 else 0))
  | _ => none
def d_min : List D → Option D
  | [.int i, .int j] => some (.int (if j < i then j else i))
  | _ => none
def d_max : List D → Option D
  | [.int i, .int j] => some (.int (if j > i then j else i))
  | _ => none
section
variable {K : Fg} {mg : Mg}
theorem cp_int : CallP K mg (fun xs H Q => (∃ i, xs = [.int i] ∧ Q (.int i) H) ∨ ∃ k, xs = [.bl k] ∧ Q (.int (if k then 1 else 0)) H) (d_1 d_int) := by
  intro O ad H vs ds z r h
  obtain ⟨d, rfl, hh⟩ := d_1_some h
  clear h
  obtain ⟨v, rfl, r1⟩ := paired1 r
  clear r
  unfold d_int at hh
  split at hh
  · cases hh
    cases r1.int
    exact res_v (.int _) fun Q q => .inl ⟨_, rfl, q⟩
  · cases hh
    cases r1.bl
    exact res_v (.int _) fun Q q => .inr ⟨_, rfl, q⟩
  · cases hh
theorem cp_min : CallP K mg (fun xs H Q => ∃ i j, xs = [.int i, .int j] ∧ Q (.int (if j < i then j else i)) H) d_min := by
  intro O ad H vs ds z r h
  unfold d_min at h
  split at h
  · cases h
    obtain ⟨x, w, rfl, r1, r2⟩ := paired2 r
    cases r1.int
    cases r2.int
    exact res_v (.int _) fun Q q => ⟨_, _, rfl, q⟩
  · cases h
theorem cp_max : CallP K mg (fun xs H Q => ∃ i j, xs = [.int i, .int j] ∧ Q (.int (if j > i then j else i)) H) d_max := by
  intro O ad H vs ds z r h
  unfold d_max at h
  split at h
  · cases h
    obtain ⟨x, w, rfl, r1, r2⟩ := paired2 r
    cases r1.int
    cases r2.int
    exact res_v (.int _) fun Q q => ⟨_, _, rfl, q⟩
  · cases h
end
theorem roomI {k : Nat} {A : Around} (r : L2.Room k A) : A.units + 64 < cLine := by have := roomU r; omega
/-- a target's own slots may be fewer than a comprehension's -/
theorem tg_sub {K : Fg} {mg : Mg} {ts us : List Nat} {g : TG} {tgt : Tgt} (h : TgOk K mg ts g tgt) (hs : ∀ i ∈ ts, i ∈ us) : TgOk K mg us g tgt := by
  intro O ad ρ σ H x d ρ1 f r e
  obtain ⟨σ1, q1, q2, q3, q4⟩ := h O ad ρ σ H x d ρ1 f r e
  refine ⟨σ1, q1, q2, ?_, q4⟩
  have q := wipe_iff.mp q3
  exact wipe_iff.mpr ⟨q.1, fun j hj => q.2 j fun hk => hj (hs j hk)⟩
end Gd

/-! Gd, part 30: a set's table is laid anew: masks 7, 15, 31, 63, 127. -/
namespace Gd
open PySem L2 PyProof.Rows

/-- from each place each other place is met in a round -/
def Rounds (m : Nat) : Prop := ∀ i j, i ≤ m → j ≤ m → ∃ k, k ≤ m ∧ lcgI m i k = j
theorem rounds_of {m : Nat} (g : ((List.range (m + 1)).all fun j => (List.range (m + 1)).any fun b => lcgI m 0 b == j) = true) (z : lcgI m 0 (m + 1) = 0) : Rounds m := by
  have one : ∀ j, j ≤ m → ∃ b, b ≤ m ∧ lcgI m 0 b = j := fun j hj => by
    have q := List.all_eq_true.mp g j (List.mem_range.mpr (by omega))
    obtain ⟨b, hb, e⟩ := List.any_eq_true.mp q
    have := List.mem_range.mp hb
    exact ⟨b, by omega, by simpa using e⟩
  have shift : ∀ a k, lcgI m (lcgI m 0 a) k = lcgI m 0 (a + k) := by
    intro a k
    induction k with
    | zero => rfl
    | succ k ih => exact congrArg (fun x => (x * 5 + 1) % (m + 1)) ih
  have turn : ∀ k, lcgI m 0 (m + 1 + k) = lcgI m 0 k := by
    intro k
    rw [← shift, z]
  intro i j hi hj
  obtain ⟨a, la, ea⟩ := one i hi
  obtain ⟨b, lb, eb⟩ := one j hj
  by_cases c : a ≤ b
  · exact ⟨b - a, by omega, by rw [← ea, shift, show a + (b - a) = b by omega]; exact eb⟩
  · exact ⟨m + 1 + b - a, by omega, by rw [← ea, shift, show a + (m + 1 + b - a) = m + 1 + b by omega, turn]; exact eb⟩
def Mk (m : Nat) : Prop := m = 7 ∨ m = 15 ∨ m = 31 ∨ m = 63 ∨ m = 127
theorem Mk.rounds {m : Nat} (h : Mk m) : Rounds m := by
  rcases h with rfl | rfl | rfl | rfl | rfl
  · exact rounds_of (by decide +kernel) (by decide +kernel)
  · exact rounds_of (by decide +kernel) (by decide +kernel)
  · exact rounds_of (by decide +kernel) (by decide +kernel)
  · exact rounds_of (by decide +kernel) (by decide +kernel)
  · exact rounds_of (by decide +kernel) (by decide +kernel)
section
variable {m : Nat}
theorem runs_meet (g : Rounds m) (h : Int) {j : Nat} (hj : j ≤ m) : ∃ n, n ≤ m + 12 ∧ runI m (SetTable.bits h) n = j := by
  obtain ⟨k, lk, ek⟩ := g _ j (runI_le m (SetTable.bits h) 12) hj
  refine ⟨12 + k, by omega, ?_⟩
  exact (runI_tail (bits_lt h) k).trans ek
/-- the place that a search comes to is within the table -/
theorem go_le (h : Int) (k : Nat) : way m h k ≤ m := by
  have st : (runAt m (SetTable.bits h % (m + 1)) (SetTable.bits h)).j + (runAt m (SetTable.bits h % (m + 1)) (SetTable.bits h)).more ≤ m := by
    have l : SetTable.bits h % (m + 1) ≤ m := Nat.le_of_lt_succ (Nat.mod_lt _ (Nat.succ_pos m))
    obtain ⟨x, y, _⟩ := runEnd_bd l
    show SetTable.bits h % (m + 1) + (SetTable.runEnd m (SetTable.bits h % (m + 1)) - SetTable.bits h % (m + 1)) ≤ m
    omega
  have q := nth_in k _ st
  have : (nth m (runAt m (SetTable.bits h % (m + 1)) (SetTable.bits h)) k).j ≤ m := by omega
  exact this
theorem a_place (g : Rounds m) (ow : Array (Option Nat)) (h : Int) {j : Nat} (hj : j ≤ m) (hf : oAt ow j = none) :
    ∃ K, SetTable.layClean.free m ow (SetTable.turns m) (SetTable.bits h % (m + 1)) (SetTable.bits h) = some (way m h K) ∧ oAt ow (way m h K) = none ∧ ∀ k, k < K → oAt ow (way m h k) ≠ none := by
  obtain ⟨n, ln, en⟩ := runs_meet g h hj
  obtain ⟨N, eN⟩ : ∃ N, off m (SetTable.bits h % (m + 1)) (SetTable.bits h) n = N := ⟨_, rfl⟩
  have at_ : way m h N = j := by
    have e := nth_off m n (SetTable.bits h % (m + 1)) (SetTable.bits h)
    rw [itL_run, eN] at e
    have e2 := congrArg SetTable.Probe.j e
    exact e2.trans en
  obtain ⟨K, lK, fK, bK⟩ := st_least (p := fun k => oAt ow (way m h k) = none) N (show oAt ow (way m h N) = none by rw [at_]; exact hf)
  refine ⟨K, free_spec m ow _ n _ _ K (by unfold SetTable.turns; omega) (by rw [eN]; exact lK) (fun k lk => ?_) ?_, fK, bK⟩
  · have z := bK k lk
    cases q : oAt ow (way m h k) with
    | none => exact absurd q z
    | some x => rfl
  · have q' : oAt ow (nth m (runAt m (SetTable.bits h % (m + 1)) (SetTable.bits h)) K).j = none := fK
    rw [q']; rfl
/-- each of the k first has its place, and none other has one -/
structure Sit (m k : Nat) (ow : Array (Option Nat)) : Prop where
  sz : ow.size = m + 1
  lt : ∀ j i, j ≤ m → oAt ow j = some i → i < k
  all : ∀ i, i < k → ∃ j, j ≤ m ∧ oAt ow j = some i
  ps : ∃ ps : List Nat, ps.length = k ∧ ∀ j, j ≤ m → oAt ow j ≠ none → j ∈ ps
theorem Sit.none : Sit m 0 (Array.replicate (m + 1) none) := by
  refine ⟨by simp, fun j i hj e => ?_, fun i hi => absurd hi (Nat.not_lt_zero i), [], rfl, fun j hj e => ?_⟩
  · rw [oAt_init hj] at e; cases e
  · exact absurd (oAt_init hj) e
theorem Sit.more (g : Rounds m) {k : Nat} {ow : Array (Option Nat)} (W : Sit m k ow) (hl : k ≤ m) (h : Int) :
    ∃ j, SetTable.layClean.free m ow (SetTable.turns m) (SetTable.bits h % (m + 1)) (SetTable.bits h) = some j ∧ Sit m (k + 1) (ow.setIfInBounds j (some k)) := by
  obtain ⟨ps, pl, pm⟩ := W.ps
  obtain ⟨f, lf, nf⟩ := st_missing ps (m + 1) (by omega)
  have ff : oAt ow f = Option.none := by
    by_cases q : oAt ow f = Option.none
    · exact q
    · exact absurd (pm f (by omega) q) nf
  obtain ⟨K, e1, e2, _⟩ := a_place g ow h (j := f) (by omega) ff
  have jl := go_le (m := m) h K
  obtain ⟨j, ej⟩ : ∃ j, way m h K = j := ⟨_, rfl⟩
  rw [ej] at e1 e2 jl
  have own := oAt_set_self (owner := ow) (some k) (j := j) (by rw [W.sz]; omega)
  refine ⟨j, e1, by rw [Array.size_setIfInBounds]; exact W.sz, fun x i hx e => ?_, fun i hi => ?_, j :: ps, by simp [pl], fun x hx e => ?_⟩
  · by_cases c : x = j
    · subst c
      rw [own] at e
      cases e
      omega
    · rw [oAt_set_ne _ c] at e
      have := W.lt x i hx e
      omega
  · by_cases c : i = k
    · exact ⟨j, jl, by rw [c]; exact own⟩
    · obtain ⟨x, hx, e⟩ := W.all i (by omega)
      refine ⟨x, hx, ?_⟩
      rw [oAt_set_ne _ (fun z => by rw [z, e2] at e; cases e)]
      exact e
  · by_cases c : x = j
    · rw [c]; exact List.mem_cons_self
    · rw [oAt_set_ne _ c] at e
      exact List.mem_cons_of_mem _ (pm x hx e)
theorem sits (g : Rounds m) : ∀ (rest : List Int) (k : Nat) (ow : Array (Option Nat)), Sit m k ow → k + rest.length ≤ m + 1 →
    ∃ ow', rest.foldl (stepF m) (some (ow, k)) = some (ow', k + rest.length) ∧ Sit m (k + rest.length) ow'
  | [], k, ow, W, _ => ⟨ow, rfl, W⟩
  | h :: rest, k, ow, W, l => by
    rw [List.length_cons] at l
    obtain ⟨j, e, W1⟩ := W.more g (by omega) h
    obtain ⟨ow', f, W2⟩ := sits g rest (k + 1) _ W1 (by omega)
    have a : k + 1 + rest.length = k + (h :: rest).length := by rw [List.length_cons]; omega
    rw [a] at f W2
    refine ⟨ow', ?_, W2⟩
    rw [List.foldl_cons, stepF_some e]
    exact f
theorem lay_all (g : Rounds m) {hs : Array Int} (l : hs.size ≤ m) : ∃ ow, SetTable.layClean m hs = some ow ∧ Sit m hs.size ow := by
  obtain ⟨ow, f, W⟩ := sits g hs.toList 0 _ (Sit.none (m := m)) (by rw [Array.length_toList]; omega)
  rw [Nat.zero_add, Array.length_toList] at f W
  refine ⟨ow, ?_, W⟩
  rw [layClean_eq, f]
  rfl
/-- a table laid out of hashes -/
theorem laid_ok (g : Rounds m) {hs : Array Int} (l : hs.size ≤ m) (finger moves : Nat) (led plain : Bool) :
    ∃ t order, SetTable.laid m finger moves led plain hs = some (t, order) ∧ order.toList.Perm (List.range hs.size) ∧ t.fits hs.size = true ∧ t.mask = m ∧ t.fill = hs.size := by
  obtain ⟨ow, e, W⟩ := lay_all g l
  have lv := ris_live (fun j => ow.getD j none) (List.range (m + 1)) List.pairwise_lt_range
  have up : Ris ((liveOf m ow).map (·.1)) := lv.1
  have nd : ((liveOf m ow).map (·.1)).Nodup := List.Pairwise.imp (fun q => Nat.ne_of_lt q) up
  have in2 : ∀ i, i < hs.size → i ∈ (liveOf m ow).map (·.2) := fun i hi => by
    obtain ⟨j, hj, ej⟩ := W.all i hi
    exact List.mem_map.mpr ⟨(j, i), (mem_live W.sz).mpr ⟨hj, ej⟩, rfl⟩
  have len : (liveOf m ow).length = hs.size := by
    obtain ⟨ps, pl, pm⟩ := W.ps
    have a := nat_nodup_len ((liveOf m ow).map (·.1)) ps nd fun x hx => by
      obtain ⟨⟨y, i⟩, hq, rfl⟩ := List.mem_map.mp hx
      obtain ⟨b1, b2⟩ := (mem_live W.sz).mp hq
      exact pm y b1 (by rw [b2]; exact fun z => nomatch z)
    have b := nat_nodup_len (List.range hs.size) ((liveOf m ow).map (·.2)) List.nodup_range fun i hi => in2 i (List.mem_range.mp hi)
    rw [List.length_map] at a b
    rw [List.length_range] at b
    omega
  have sz : ((liveOf m ow).map (·.1)).toArray.size = hs.size := by rw [List.size_toArray, List.length_map]; exact len
  refine ⟨{ mask := m, place := ((liveOf m ow).map (·.1)).toArray, dummies := #[], finger := finger, led := led, moves := moves, plain := plain }, ((liveOf m ow).map (·.2)).toArray, ?_, perm_range hs.size _ ?_ fun i hi => by simpa using in2 i hi, ?_, rfl, ?_⟩
  · unfold SetTable.laid
    rw [e]
    rfl
  · rw [List.toList_toArray, List.length_map]; exact len
  · unfold SetTable.fits SetTable.fill
    simp only [Bool.and_eq_true, beq_iff_eq, decide_eq_true_eq]
    exact ⟨sz, by rw [sz]; show hs.size + 0 ≤ m; omega⟩
  · unfold SetTable.fill
    show ((liveOf m ow).map (·.1)).toArray.size + 0 = _
    rw [sz]; omega
end
end Gd

/-! Gd, part 31: sets of keys: laid anew, copied, merged. -/
namespace Gd
open PySem L2 PyProof.Rows

/-- what stands in the order told -/
theorem told_perm {α : Type} (es : Array α) {order : Array Nat} (h : order.toList.Perm (List.range es.size)) : (order.filterMap (es[·]?)).toList.Perm es.toList := by
  have e1 : (order.filterMap (es[·]?)).toList = order.toList.filterMap (es[·]?) := by simp
  rw [e1]
  refine (h.filterMap _).trans ?_
  have e2 : ∀ n, n ≤ es.size → (List.range n).filterMap (es[·]?) = es.toList.take n := by
    intro n
    induction n with
    | zero => intro _; rfl
    | succ n ih =>
      intro l
      have hl : n < es.toList.length := by rw [Array.length_toList]; omega
      have hg : es[n]? = some es.toList[n] := by
        rw [← Array.getElem?_toList, List.getElem?_eq_getElem hl]
      rw [List.range_succ, List.filterMap_append, ih (by omega), List.take_succ, List.getElem?_eq_getElem hl, List.filterMap_cons_some hg]
      rfl
  rw [e2 _ (Nat.le_refl _), ← Array.length_toList, List.take_length]
section
variable {K : Type} [DecidableEq K] {prog : Program} {w : World} {knd : KeyKind prog w K} {A : Around} {E : Value → Shared → Prop} {s : Shared} {a b : Addr} {o : Obj} {es : Array (Int × Value)} {ep : Nat} {t : SetTable} {S T : K → Bool} {n m : Nat}
/-- the set at a: its parts -/
structure SetP (knd : KeyKind prog w K) (h : Heap) (a : Addr) (S : K → Bool) (o : Obj) (es : Array (Int × Value)) (ep : Nat) (t : SetTable) : Prop where
  at_ : h.get? a = some o
  ex : o.ExactSet
  dt : o.data = .set es ep t
  el : ElemsOf knd es.toList
  mem : ∀ k, S k = true ↔ ∃ e ∈ es.toList, knd.is k e.2 = true
  bd : es.size < scanBound
  fits : t.fits es.size = true
theorem SetP.of {h : Heap} (P : SetP knd h a S o es ep t) : h.SetOf knd a S es.size := ⟨o, es, ep, t, P.at_, P.ex, P.dt, P.el, P.mem, P.bd, P.fits, rfl⟩
theorem setP_of {hp : Heap} (h : hp.SetOf knd a S n) : ∃ o es ep t, SetP knd hp a S o es ep t ∧ es.size = n := by
  obtain ⟨o, es, ep, t, h1, h2, h3, h4, h5, h6, h7, h8⟩ := h
  exact ⟨o, es, ep, t, ⟨h1, h2, h3, h4, h5, h6, h7⟩, h8⟩
/-- stored anew: the same elements in another order, another table -/
theorem SetP.store (P : SetP knd s.heap a S o es ep t) {es' : Array (Int × Value)} {t' : SetTable} {S' : K → Bool} (hel : ElemsOf knd es'.toList) (hm : ∀ k, S' k = true ↔ ∃ e ∈ es'.toList, knd.is k e.2 = true) (hb : es'.size < scanBound) (hf : t'.fits es'.size = true) {Q : Unit → Shared → Prop}
    (q : ∀ h' o' ep', Heap.SameBut a s.heap h' → SetP knd h' a S' o' es' ep' t' → Q () { s with heap := h' }) : wpAny (model prog w) A (storeSet a es' t') Q E s := by
  refine wpAny_storeSet_of P.at_ P.dt ?_ (fits_of_scanBound hb)
  obtain ⟨g, _⟩ := SetOf_store (knd := knd) P.at_ P.ex P.dt hel hm hb hf
  exact q _ _ (ep + 1) (Heap.SameBut.update s.heap a _) ⟨g, P.ex, rfl, hel, hm, hb, hf⟩
theorem mem_perm {l l' : List (Int × Value)} (p : l'.Perm l) (h : ∀ k, S k = true ↔ ∃ e ∈ l, knd.is k e.2 = true) : ∀ k, S k = true ↔ ∃ e ∈ l', knd.is k e.2 = true := fun k =>
  (h k).trans ⟨fun ⟨e, he, q⟩ => ⟨e, p.mem_iff.mpr he, q⟩, fun ⟨e, he, q⟩ => ⟨e, p.mem_iff.mp he, q⟩⟩
/-- the sizes that come -/
theorem mk_above {k : Nat} (h : k < 128) : Mk (SetTable.sizeAbove k - 1) ∧ SetTable.sizeAbove k ≤ 128 ∧ k ≤ SetTable.sizeAbove k - 1 := by
  have all : ((List.range 128).all fun k => (SetTable.sizeAbove k == 8 || SetTable.sizeAbove k == 16 || SetTable.sizeAbove k == 32 || SetTable.sizeAbove k == 64 || SetTable.sizeAbove k == 128) && decide (k ≤ SetTable.sizeAbove k - 1)) = true := by decide +kernel
  have := List.all_eq_true.mp all k (List.mem_range.mpr h)
  simp only [Bool.and_eq_true, Bool.or_eq_true, beq_iff_eq, decide_eq_true_eq] at this
  obtain ⟨this, l⟩ := this
  unfold Mk
  rcases this with (((e | e) | e) | e) | e <;> rw [e] at l ⊢ <;> exact ⟨by simp, by decide, l⟩
theorem relay_ok (P : SetP knd s.heap a S o es ep t) {wanted : Nat} (hw : wanted < 128) (hl : es.size ≤ wanted) {Q : Unit → Shared → Prop}
    (q : ∀ h' o' es' ep' t', Heap.SameBut a s.heap h' → SetP knd h' a S o' es' ep' t' → es'.size = es.size → t'.mask = SetTable.sizeAbove wanted - 1 → t'.fill = es.size → Q () { s with heap := h' }) : wpAny (model prog w) A (setRelay a wanted) Q E s := by
  obtain ⟨g, b1, b2⟩ := mk_above hw
  obtain ⟨t', order, e, hp, hf, hmask, hfill⟩ := laid_ok g.rounds (hs := es.map (·.1)) (by rw [Array.size_map]; omega) t.finger (t.movedTo (SetTable.sizeAbove wanted - 1)) t.led t.plain
  rw [Array.size_map] at hp hf hfill
  have pm := told_perm es hp
  have sz : (order.filterMap (es[·]?)).size = es.size := by
    have := pm.length_eq
    rwa [Array.length_toList, Array.length_toList] at this
  rw [setRelay_eq]
  refine wpAny_bind (wpAny_setState_of P.at_ P.dt P.fits ?_)
  dsimp only
  refine wp_if_neg (by rw [sizeLine_eq]; omega) ?_
  try refine wpAny_bind (wpAny_pure ?_)
  have e' : t.relaid (es.map (·.1)) wanted = some (t', order) := e
  rw [e']
  dsimp only
  refine wpAny_bind ?_
  refine wp_if_neg (by rw [sz]; simp) ?_
  try refine wpAny_bind (wpAny_pure ?_)
  refine wpAny_pure ?_
  dsimp only
  exact P.store (P.el.perm pm) (mem_perm pm P.mem) (by rw [sz]; exact P.bd) (by rw [sz]; exact hf) fun h' o' ep' sb P' => q h' o' _ ep' t' sb P' sz hmask hfill
/-- room is made for more -/
theorem room_ok (P : SetP knd s.heap a S o es ep t) {more : Nat} (hm : (es.size + more) * 2 < 128) {Q : Unit → Shared → Prop}
    (q : ∀ h' o' es' ep' t', Heap.SameBut a s.heap h' → SetP knd h' a S o' es' ep' t' → es'.size = es.size → ((t.fill + more) * 5 ≥ t.mask * 3 → Mk t'.mask ∧ t'.fill = es.size ∧ (es.size + more) * 2 ≤ t'.mask) → (¬ (t.fill + more) * 5 ≥ t.mask * 3 → t' = t) → Q () { s with heap := h' }) : wpAny (model prog w) A (setRoomFor a more) Q E s := by
  unfold setRoomFor
  refine wpAny_bind (wpAny_setState_of P.at_ P.dt P.fits ?_)
  have hpl : t.place.size = es.size := by
    have := P.fits
    unfold SetTable.fits at this
    simp only [Bool.and_eq_true, beq_iff_eq] at this
    exact this.1
  dsimp only
  unfold SetTable.roomFor
  by_cases c : (t.fill + more) * 5 ≥ t.mask * 3
  · rw [if_pos c, hpl]
    refine relay_ok P hm (by omega) fun h' o' es' ep' t' sb P' sz hmask hfill => q h' o' es' ep' t' sb P' sz (fun _ => ⟨?_, hfill, ?_⟩) fun h => absurd c h
    · rw [hmask]; exact (mk_above hm).1
    · rw [hmask]; exact (mk_above hm).2.2
  · rw [if_neg c]
    refine wpAny_pure ?_
    have e : s = { s with heap := s.heap } := by cases s; rfl
    rw [e]
    exact q s.heap o es ep t (Heap.SameBut.refl a s.heap) P rfl (fun h => absurd h c) fun _ => rfl
end
end Gd

/-! Gd, part 32: sets of keys: merged. -/
namespace Gd
open PySem L2 PyProof.Rows

theorem merge_eq (a b : Addr) (each : Sem Unit) : setMerge a b each = (do
    if a == b then return
    let (eo, epoch, to) ← setState b
    if eo.isEmpty then return
    setRoomFor a eo.size
    let (_, _, ts) ← setState a
    match ts.road to with
    | .slotForSlot => storeSet a eo { to with finger := ts.finger, led := ts.led && to.led, moves := ts.moves, plain := ts.plain && to.plain }
    | .clean =>
      let (es, t) ← (do
        let some (t, order) := SetTable.laid ts.mask ts.finger ts.moves (led := ts.led && to.led) (plain := ts.plain && to.plain) (eo.map (·.1)) | unsupported "internal:set-table-without-room"
        let es' := order.filterMap (eo[·]?)
        if es'.size != eo.size then unsupported "internal:set-table-lost-an-element"
        pure (es', t) : Sem (Array (Int × Value) × SetTable))
      storeSet a es t
    | .oneByOne =>
      for (h, x) in ← setWalkUnseen b [a] (some a) do
        let _ ← holding [x] (setAddHashed a x h)
        each
        if (← setState b).2.1 != epoch then unsupported "set.changed-during-merge") := by rfl
section
variable {K : Type} [DecidableEq K] {prog : Program} {w : World} {knd : KeyKind prog w K} {A : Around} {E : Value → Shared → Prop} {s : Shared} {a b : Addr} {o o1 : Obj} {es es1 : Array (Int × Value)} {ep ep1 : Nat} {t t1 : SetTable} {S T : K → Bool} {n m : Nat}
theorem SetP.same {h0 : Heap} (P : SetP knd h0 b T o es ep t) {h' : Heap} (sb : Heap.SameBut a h0 h') (ne : b ≠ a) : SetP knd h' b T o es ep t :=
  ⟨(sb.2 b ne).trans P.at_, P.ex, P.dt, P.el, P.mem, P.bd, P.fits⟩
/-- into an empty set -/
theorem merge_fresh (R : SetP knd s.heap a S o1 es1 ep1 t1) (hz : es1.size = 0) (hf : t1.fill = 0) (hm : Mk t1.mask) (P : SetP knd s.heap b T o es ep t) (ne : a ≠ b) (hn : es.size * 2 < 128) {each : Sem Unit} {Q : Unit → Shared → Prop}
    (q : ∀ h', Heap.SameBut a s.heap h' → h'.SetOf knd a T es.size → Q () { s with heap := h' }) : wpAny (model prog w) A (setMerge a b each) Q E s := by
  rw [merge_eq]
  refine wp_if_neg (by simpa using ne) ?_
  try refine wpAny_bind (wpAny_pure ?_)
  refine wpAny_bind (wpAny_setState_of P.at_ P.dt P.fits ?_)
  dsimp only
  by_cases he : es.isEmpty = true
  · refine wp_if_pos he ?_
    refine wpAny_pure ?_
    have e0 : es = #[] := by simpa using he
    have e : s = { s with heap := s.heap } := by cases s; rfl
    rw [e]
    refine q s.heap (Heap.SameBut.refl a s.heap) ?_
    have e1 : es1 = #[] := Array.eq_empty_of_size_eq_zero hz
    refine ⟨o1, es1, ep1, t1, R.at_, R.ex, R.dt, R.el, fun k => ?_, R.bd, R.fits, by rw [e0, e1]⟩
    rw [P.mem k, e0, e1]
  · refine wp_if_neg he ?_
    try refine wpAny_bind (wpAny_pure ?_)
    refine wpAny_bind (room_ok R (by omega) fun h1 o2 es2 ep2 t2 sb R2 sz2 big alt => ?_)
    have P2 := P.same sb (Ne.symm ne)
    have k2 : Mk t2.mask ∧ t2.fill = 0 ∧ es.size ≤ t2.mask := by
      by_cases c : (t1.fill + es.size) * 5 ≥ t1.mask * 3
      · obtain ⟨x, y, z⟩ := big c
        exact ⟨x, by omega, by omega⟩
      · rw [alt c]
        exact ⟨hm, hf, by omega⟩
    have fit2 := k2.2.2
    refine wpAny_bind (wpAny_setState_of (s := { s with heap := h1 }) R2.at_ R2.dt R2.fits ?_)
    dsimp only
    have hb0 : (t2.fill != 0) = false := by rw [k2.2.1]; rfl
    unfold SetTable.road
    rw [hb0]
    by_cases c : (t2.mask == t.mask && t.dummies.isEmpty) = true
    · rw [if_neg (by simp), if_pos c]
      refine R2.store P2.el P2.mem P2.bd ?_ fun h' o' ep' sb' P' => q h' (sb.trans sb') P'.of
      have := P2.fits
      exact this
    · rw [if_neg (by simp), if_neg c]
      obtain ⟨t', order, e, hp, hft, hmask, hfill⟩ := laid_ok k2.1.rounds (hs := es.map (·.1)) (by rw [Array.size_map]; exact fit2) t2.finger t2.moves (t2.led && t.led) (t2.plain && t.plain)
      rw [Array.size_map] at hp hft hfill
      have pm := told_perm es hp
      have sz : (order.filterMap (es[·]?)).size = es.size := by
        have := pm.length_eq
        rwa [Array.length_toList, Array.length_toList] at this
      dsimp only
      rw [e]
      dsimp only
      refine wpAny_bind ?_
      refine wp_if_neg (by rw [sz]; simp) ?_
      try refine wpAny_bind (wpAny_pure ?_)
      refine wpAny_pure ?_
      dsimp only
      refine R2.store (P2.el.perm pm) (mem_perm pm P2.mem) (by rw [sz]; exact P2.bd) (by rw [sz]; exact hft) fun h' o' ep' sb' P' => ?_
      have := P'.of
      rw [sz] at this
      exact q h' (sb.trans sb') this
/-- none of these sets' elements is an object -/
theorem quiet_ok : ∀ (sets : List Addr), (∀ x ∈ sets, ∃ S n, s.heap.SetOf knd x S n) → ∀ {Q : Bool → Shared → Prop}, Q true s → wpAny (model prog w) A (setsQuiet sets) Q E s := by
  intro sets hs Q q
  unfold setsQuiet
  refine wpAny_bind (wpAny_forIn_list _ (fun l r s' => r.1 = none ∧ s' = s ∧ ∀ x ∈ l, ∃ S n, s.heap.SetOf knd x S n) _ (fun x rest r s1 hI => ?_) (fun r s1 hI => ?_) _ _ ⟨rfl, rfl, hs⟩)
  · obtain ⟨h1, rfl, h2⟩ := hI
    obtain ⟨S, n, hx⟩ := h2 x List.mem_cons_self
    obtain ⟨o, es, ep, t, P, _⟩ := setP_of hx
    have hsc := P.el
    unfold setEntries
    refine wpAny_bind (wpAny_bind (wpAny_setState_of P.at_ P.dt P.fits (wpAny_pure ?_)))
    refine wpAny_bind (PySem.MeetsSeq2.wpAny_forIn_array _ (fun l r s' => r.1 = none ∧ s' = s1 ∧ ∀ e ∈ l, e.2.scannable = true) _ (fun e rest2 r2 s2 hJ => ?_) (fun r2 s2 hJ => ?_) _ _ ⟨rfl, rfl, fun e he => (hsc e he).2⟩)
    · obtain ⟨j1, rfl, j2⟩ := hJ
      have hsn := j2 e List.mem_cons_self
      obtain ⟨eh, ev⟩ := e
      cases ev with
      | ref a => exact absurd hsn (by simp [Value.scannable])
      | _ => exact wpAny_pure ⟨rfl, rfl, fun e he => j2 e (List.mem_cons_of_mem _ he)⟩
    · obtain ⟨j1, rfl, j2⟩ := hJ
      obtain ⟨r21, r22⟩ := r2
      simp only at j1
      subst j1
      exact wpAny_pure ⟨rfl, rfl, fun y hy => h2 y (List.mem_cons_of_mem _ hy)⟩
  · obtain ⟨h1, rfl, h2⟩ := hI
    obtain ⟨r1, r2⟩ := r
    simp only at h1
    subst h1
    exact wpAny_pure q
end
end Gd

/-! Gd, part 33: sets of keys: walked, united. -/
namespace Gd
open PySem L2 PyProof.Rows

theorem walk_eq (a : Addr) : setWalk a = (do
    let (es, epoch, t) ← setState a
    if ← setsByText then return pickOrder ((← ask).params.setOrder a epoch) es
    if (!t.plain && decide (es.size > 1)) = true then return (← drawOrder es.size es.toList).toArray
    (if (!t.led && decide (es.size > 1)) = true then unsupported "set:maker-not-led" else pure () : Sem Unit)
    return es) := by rfl
section
variable {K : Type} [DecidableEq K] {prog : Program} {w : World} {knd : KeyKind prog w K} {A : Around} {E : Value → Shared → Prop} {s : Shared} {a b : Addr} {o o1 : Obj} {es es1 : Array (Int × Value)} {ep ep1 : Nat} {t t1 : SetTable} {S T : K → Bool} {n m : Nat}
/-- a walk over one set, another one being filled -/
theorem unseen_ok (P : SetP knd s.heap b T o es ep t) (R : SetP knd s.heap a S o1 es1 ep1 t1) (ne : a ≠ b) {Q : Array (Int × Value) → Shared → Prop}
    (q : ∀ es' h', es'.toList.Perm es.toList → Heap.SameBut a s.heap h' → h'.SetOf knd a S es1.size → Q es' { s with heap := h' }) : wpAny (model prog w) A (setWalkUnseen b [a] (some a)) Q E s := by
  have here : s = { s with heap := s.heap } := by cases s; rfl
  have q0 : ∀ es', es'.toList.Perm es.toList → Q es' s := fun es' p => by
    rw [here]
    exact q es' s.heap p (Heap.SameBut.refl a s.heap) R.of
  have walk : ∀ {Q' : Array (Int × Value) → Shared → Prop}, (w.params.followText "set-order" || (t.led && t.plain) || decide (es.size ≤ 1)) = true → (∀ es', es'.toList.Perm es.toList → Q' es' s) → wpAny (model prog w) A (setWalk b) Q' E s := fun {Q'} hc q' => by
    rw [walk_eq]
    refine wpAny_bind (wpAny_setState_of P.at_ P.dt P.fits ?_)
    dsimp only
    refine wpAny_bind (L2.wpAny_byText ?_)
    cases hb : w.params.followText "set-order" with
    | true =>
      refine L2.wp_if_pos rfl ?_
      refine wpAny_bind (wpAny_askSetting ?_)
      exact wpAny_pure (q' _ (L2.pick_perm _ _))
    | false =>
      rw [hb, Bool.false_or, Bool.or_eq_true, Bool.and_eq_true, decide_eq_true_eq] at hc
      have c1 : ¬ ((!t.plain && decide (es.size > 1)) = true) := by
        simp only [Bool.and_eq_true, Bool.not_eq_true', decide_eq_true_eq]
        rintro ⟨x, y⟩
        rcases hc with ⟨_, z⟩ | z
        · rw [x] at z; cases z
        · omega
      have c2 : ¬ ((!t.led && decide (es.size > 1)) = true) := by
        simp only [Bool.and_eq_true, Bool.not_eq_true', decide_eq_true_eq]
        rintro ⟨x, y⟩
        rcases hc with ⟨z, _⟩ | z
        · rw [x] at z; cases z
        · omega
      refine L2.wp_if_neg Bool.false_ne_true ?_
      try refine wpAny_bind (wpAny_pure ?_)
      refine L2.wp_if_neg c1 ?_
      try refine wpAny_bind (wpAny_pure ?_)
      refine wpAny_bind (L2.wp_if_neg c2 (wpAny_pure ?_))
      exact wpAny_pure (q' _ (List.Perm.refl _))
  unfold setWalkUnseen
  refine wpAny_bind (wpAny_setState_of P.at_ P.dt P.fits ?_)
  dsimp only
  refine wpAny_bind (L2.wpAny_byText ?_)
  by_cases hc : (w.params.followText "set-order" || (t.led && t.plain) || decide (es.size ≤ 1)) = true
  · refine L2.wp_if_pos hc ?_
    exact walk hc q0
  · refine L2.wp_if_neg hc ?_
    try refine wpAny_bind (wpAny_pure ?_)
    refine wpAny_bind (quiet_ok (knd := knd) [b, a] (fun x hx => ?_) ?_)
    · rcases List.mem_cons.mp hx with rfl | hx
      · exact ⟨T, _, P.of⟩
      · rw [List.mem_singleton.mp hx]; exact ⟨S, _, R.of⟩
    · refine L2.wp_if_neg (by simp) ?_
      try refine wpAny_bind (wpAny_pure ?_)
      refine wpAny_bind (wpAny_rule ?_)
      refine wpAny_bind (wpAny_setState_of R.at_ R.dt R.fits ?_)
      dsimp only
      split
      · refine wpAny_bind (R.store R.el R.mem R.bd ?fit ?k)
        case fit => exact R.fits
        case k => exact fun h' o' ep' sb R' => wpAny_pure (q es h' (List.Perm.refl _) sb R'.of)
      · refine wpAny_pure (q0 es (List.Perm.refl _))
/-- the keys of a set, each once -/
def SetN (knd : KeyKind prog w K) (h : Heap) (a : Addr) (ks : List K) : Prop := ks.Nodup ∧ h.SetOf knd a (fun k => decide (k ∈ ks)) ks.length
theorem SetN.congr {h : Heap} {ks : List K} {S : K → Bool} (z : h.SetOf knd a S n) (nd : ks.Nodup) (e : ∀ k, S k = decide (k ∈ ks)) (l : n = ks.length) : SetN knd h a ks := by
  obtain rfl : S = fun k => decide (k ∈ ks) := funext e
  exact ⟨nd, l ▸ z⟩
theorem SetN.add {ks : List K} (R : SetN knd s.heap a ks) {k : K} {x : Value} (hk : knd.is k x = true) (hx : x.scannable = true) (hr : ks.length + 1 < scanBound) {Q : Bool → Shared → Prop}
    (q : ∀ h' c, Heap.SameBut a s.heap h' → SetN knd h' a (if k ∈ ks then ks else ks ++ [k]) → Q c { s with heap := h' }) : wpAny (model prog w) A (setAddHashed a x (knd.hash k)) Q E s := by
  refine wpAny_setAddHashed_of hk hx R.2 hr fun h' sb z => q h' _ sb ?_
  by_cases c : k ∈ ks
  · rw [if_pos c]
    refine SetN.congr z R.1 (fun y => ?_) (by rw [if_pos (decide_eq_true c)])
    by_cases e : y = k
    · simp [e, c]
    · simp [e]
  · rw [if_neg c]
    refine SetN.congr z ?_ (fun y => ?_) (by rw [if_neg (by simp [c]), List.length_append]; rfl)
    · rw [List.nodup_append]
      exact ⟨R.1, by simp, fun u hu v hv e => c (by rw [List.mem_singleton.mp hv] at e; exact e ▸ hu)⟩
    · simp
/-- into a set that holds something -/
theorem merge_more {ks : List K} (R : SetN knd s.heap a ks) (hz : ks ≠ []) (P : SetP knd s.heap b T o es ep t) (ne : a ≠ b) (hn : (ks.length + es.size) * 2 < 128) {each : Sem Unit}
    (he : ∀ (s' : Shared) (Q' : Unit → Shared → Prop), SetP knd s'.heap b T o es ep t → Q' () s' → wpAny (model prog w) A each Q' E s') {Q : Unit → Shared → Prop}
    (q : ∀ h' ks', Heap.SameBut a s.heap h' → SetN knd h' a ks' → (∀ k, k ∈ ks' ↔ k ∈ ks ∨ T k = true) → Q () { s with heap := h' }) : wpAny (model prog w) A (setMerge a b each) Q E s := by
  obtain ⟨o1, es1, ep1, t1, R1, sz1⟩ := setP_of R.2
  have pos : 0 < ks.length := List.length_pos_iff.mpr hz
  rw [merge_eq]
  refine wp_if_neg (by simpa using ne) ?_
  try refine wpAny_bind (wpAny_pure ?_)
  refine wpAny_bind (wpAny_setState_of P.at_ P.dt P.fits ?_)
  dsimp only
  by_cases hem : es.isEmpty = true
  · refine wp_if_pos hem ?_
    refine wpAny_pure ?_
    have e0 : es = #[] := by simpa using hem
    have e : s = { s with heap := s.heap } := by cases s; rfl
    rw [e]
    refine q s.heap ks (Heap.SameBut.refl a s.heap) R fun k => ?_
    rw [P.mem k, e0]
    simp
  · refine wp_if_neg hem ?_
    try refine wpAny_bind (wpAny_pure ?_)
    refine wpAny_bind (room_ok R1 (by omega) fun h1 o2 es2 ep2 t2 sb R2 sz2 big alt => ?_)
    have P2 := P.same sb (Ne.symm ne)
    refine wpAny_bind (wpAny_setState_of (s := { s with heap := h1 }) R2.at_ R2.dt R2.fits ?_)
    dsimp only
    have hpl : t2.place.size = es2.size := by
      have := R2.fits
      unfold SetTable.fits at this
      simp only [Bool.and_eq_true, beq_iff_eq] at this
      exact this.1
    have hb0 : (t2.fill != 0) = true := by
      unfold SetTable.fill
      rw [bne_iff_ne]
      omega
    unfold SetTable.road
    rw [hb0]
    rw [if_pos rfl]
    dsimp only
    refine wpAny_bind (unseen_ok (s := { s with heap := h1 }) P2 R2 ne fun es' h2 pm sb2 R3 => ?_)
    have P3 := P2.same sb2 (Ne.symm ne)
    have R3' : SetN knd h2 a ks := ⟨R.1, by rw [← sz1, ← sz2]; exact R3⟩
    have sz' : es'.size = es.size := by
      have := pm.length_eq
      rwa [Array.length_toList, Array.length_toList] at this
    refine wpAny_bind (PySem.MeetsSeq2.wpAny_forIn_array _ (fun l _ s' => ∃ h' ks', s' = { s with heap := h' } ∧ Heap.SameBut a s.heap h' ∧ SetN knd h' a ks' ∧ ks'.length + l.length ≤ ks.length + es.size ∧ (∀ e ∈ l, e ∈ es'.toList) ∧ (∀ k, k ∈ ks' ∨ (∃ e ∈ l, knd.is k e.2 = true) ↔ k ∈ ks ∨ T k = true)) _ (fun x rest u s1 hI => ?_) (fun u s1 hI => ?_) _ _ ⟨h2, ks, rfl, sb.trans sb2, R3', (by have := pm.length_eq; rw [Array.length_toList (xs := es)] at this; show ks.length + es'.toList.length ≤ _; omega), fun e he => he, fun k => ?_⟩)
    · obtain ⟨h', ks', rfl, sb', R', hl, hmem, hk⟩ := hI
      obtain ⟨⟨k, k1, k2⟩, k3⟩ := P3.el x (pm.mem_iff.mp (hmem x List.mem_cons_self))
      rw [List.length_cons] at hl
      refine wpAny_bind (wpAny_holding ?_)
      rw [k2]
      refine R'.add (s := { s with heap := h' }) k1 k3 (by unfold scanBound; omega) fun h3 c sb3 R4 => ?_
      have sb4 := sb'.trans sb3
      have P4 := P.same sb4 (Ne.symm ne)
      refine wpAny_bind (he { s with heap := h3 } _ P4 ?_)
      refine wpAny_bind (wpAny_setState_of (s := { s with heap := h3 }) P4.at_ P4.dt P4.fits ?_)
      refine wp_if_neg (by simp) ?_
      try refine wpAny_bind (wpAny_pure ?_)
      refine wpAny_pure ⟨h3, _, rfl, sb4, R4, ?_, fun e he => hmem e (List.mem_cons_of_mem _ he), fun y => ?_⟩
      · split
        · omega
        · rw [List.length_append]; simp; omega
      · rw [← hk y]
        constructor
        · rintro (h | ⟨e, e1, e2⟩)
          · by_cases c : k ∈ ks'
            · rw [if_pos c] at h; exact .inl h
            · rw [if_neg c] at h
              rcases List.mem_append.mp h with h | h
              · exact .inl h
              · rw [List.mem_singleton.mp h]; exact .inr ⟨x, List.mem_cons_self, k1⟩
          · exact .inr ⟨e, List.mem_cons_of_mem _ e1, e2⟩
        · rintro (h | ⟨e, e1, e2⟩)
          · left
            by_cases c : k ∈ ks'
            · rw [if_pos c]; exact h
            · rw [if_neg c]; exact List.mem_append_left _ h
          · rcases List.mem_cons.mp e1 with rfl | e1
            · left
              have : y = k := knd.inj _ _ _ e2 k1
              subst this
              split
              · assumption
              · exact List.mem_append_right _ List.mem_cons_self
            · exact .inr ⟨e, e1, e2⟩
    · obtain ⟨h', ks', rfl, sb', R', hl, hmem, hk⟩ := hI
      refine wpAny_pure (q h' ks' sb' R' fun k => ?_)
      have := hk k
      simpa using this
    · rw [P.mem k]
      constructor
      · rintro (h | ⟨e, e1, e2⟩)
        · exact .inl h
        · exact .inr ⟨e, pm.mem_iff.mp e1, e2⟩
      · rintro (h | ⟨e, e1, e2⟩)
        · exact .inl h
        · exact .inr ⟨e, pm.mem_iff.mpr e1, e2⟩
end
end Gd

/-! Gd, part 34: one set or another: a | b. -/
namespace Gd
open PySem L2 PyProof.Rows Builtin Builtin.Frozenset

theorem entry_or : entryFor table "set.__or__" = some Builtin.«frozenset.__or__» :=
  entryFor_alias (id' := "frozenset.__or__") (by kernel_rfl) rfl (by decide +kernel) (by kernel_rfl)
theorem sub_set : isSubtype (.type "set") (.type "set") = pure true := by rw [isSubtype_type]; kernel_rfl
theorem setOr_eq (args : Args) : Builtin.«frozenset.__or__» args = (do
    let (self, other) ← slot1 "__or__" args
    if !(← isAnySet self <&&> isAnySet other) then rule "frozenset.__or__.declined"; return ← ret .notImplemented
    let l ← addrOf self
    let v ← (do
      let result ← copyOf l
      if other != .ref l then holding [result] (updateFrom "frozenset.__or__" (← addrOf result) other)
      return result : Sem Value)
    ret v) := by rfl
section
variable {prog : Program} {w : World} {A : Around} {E : Value → Shared → Prop} {s : Shared} {a b : Addr}
theorem SetN.type {K : Type} [DecidableEq K] {knd : KeyKind prog w K} {ks : List K} (R : SetN knd s.heap a ks) : s.TypeIs (.ref a) "set" := R.2.typeIs
theorem any_set {K : Type} [DecidableEq K] {knd : KeyKind prog w K} {ks : List K} (R : SetN knd s.heap a ks) {Q : Bool → Shared → Prop} (q : Q true s) : wpAny (model prog w) A (isAnySet (.ref a)) Q E s := by
  unfold isAnySet
  refine wpAny_bind (wpAny_isInstance R.type sub_set ?_)
  exact wpAny_pure q
/-- a set that may be filled: nothing in it yet, or something -/
def Free {K : Type} [DecidableEq K] (knd : KeyKind prog w K) (h : Heap) (r : Addr) (ks : List K) : Prop :=
  (ks ≠ [] ∧ SetN knd h r ks) ∨ (ks = [] ∧ ∃ o ep t, SetP knd h r (fun _ => false) o #[] ep t ∧ t.fill = 0 ∧ Mk t.mask)
section
variable {K : Type} [DecidableEq K] {knd : KeyKind prog w K} {ks ks2 : List K}
theorem Free.n {h : Heap} {r : Addr} (F : Free knd h r ks) : SetN knd h r ks := by
  rcases F with ⟨_, R⟩ | ⟨rfl, o, ep, t, P, _, _⟩
  · exact R
  · refine SetN.congr P.of .nil (fun k => ?_) rfl
    simp
/-- another set's elements come in -/
theorem come_in {r : Addr} (F : Free knd s.heap r ks) (R : SetN knd s.heap b ks2) (ne : r ≠ b) (l : (ks.length + ks2.length) * 2 < 128) {each : Sem Unit}
    (he : ∀ {o : Obj} {es : Array (Int × Value)} {ep : Nat} {t : SetTable}, SetP knd s.heap b (fun k => decide (k ∈ ks2)) o es ep t → ∀ (s' : Shared) (Q' : Unit → Shared → Prop), SetP knd s'.heap b (fun k => decide (k ∈ ks2)) o es ep t → Q' () s' → wpAny (model prog w) A each Q' E s') {Q : Unit → Shared → Prop}
    (q : ∀ h' ks', Heap.SameBut r s.heap h' → SetN knd h' r ks' → (∀ k, k ∈ ks' ↔ k ∈ ks ∨ k ∈ ks2) → (ks = [] → ks2 = [] → h' = s.heap) → Q () { s with heap := h' }) : wpAny (model prog w) A (setMerge r b each) Q E s := by
  obtain ⟨o, es, ep, t, P, sz⟩ := setP_of R.2
  rcases F with ⟨hne, R1⟩ | ⟨rfl, o1, ep1, t1, P1, f0, mk⟩
  · refine merge_more R1 hne P ne (by omega) (he P) fun h' ks' sb R' hk => q h' ks' sb R' (fun k => by rw [hk k]; simp) fun e => absurd e hne
  · by_cases e2 : ks2 = []
    · subst e2
      have ez : es = #[] := Array.eq_empty_of_size_eq_zero sz
      rw [merge_eq]
      refine wp_if_neg (by simpa using ne) ?_
      try refine wpAny_bind (wpAny_pure ?_)
      refine wpAny_bind (wpAny_setState_of P.at_ P.dt P.fits ?_)
      refine wp_if_pos (by rw [ez]; rfl) ?_
      refine wpAny_pure ?_
      have e : s = { s with heap := s.heap } := by cases s; rfl
      rw [e]
      refine q s.heap [] (Heap.SameBut.refl r s.heap) (Free.n (.inr ⟨rfl, o1, ep1, t1, P1, f0, mk⟩)) (by simp) fun _ _ => rfl
    · refine merge_fresh P1 rfl f0 mk P ne (by rw [List.length_nil] at l; omega) fun h' sb z => q h' ks2 sb ⟨R.1, by rw [← sz]; exact z⟩ (by simp) fun _ e => absurd e e2
theorem copy_ok (R : SetN knd s.heap a ks) (l : ks.length * 2 < 128) {Q : Value → Shared → Prop}
    (q : ∀ h', (∀ x o, s.heap.get? x = some o → h'.get? x = some o) → Free knd h' s.heap.objs.size ks → Q (.ref s.heap.objs.size) { s with heap := h' }) : wpAny (model prog w) A (copyOf a) Q E s := by
  unfold copyOf baseOf
  refine wpAny_bind (wpAny_bind (wpAny_isInstance R.type sub_set (wpAny_pure ?_)))
  refine wpAny_bind (wpAny_newSet_of (knd := knd) fun led z => ?_)
  obtain ⟨oa, ea⟩ : ∃ o, s.heap.get? a = some o := by
    obtain ⟨o, _, _, _, e, _⟩ := R.2
    exact ⟨o, e⟩
  have lt := Heap.lt_size ea
  have ne : s.heap.objs.size ≠ a := fun e => by rw [e] at lt; exact Nat.lt_irrefl _ lt
  have old : ∀ x o, s.heap.get? x = some o → (s.heap.push { cls := .type "set", dict := none, data := .set #[] 0 (.fresh 0 0 led) }).get? x = some o := fun x o e => Heap.get?_push_of_some _ e
  have new : SetP knd (s.heap.push { cls := .type "set", dict := none, data := .set #[] 0 (.fresh 0 0 led) }) s.heap.objs.size (fun _ => false) _ #[] 0 (.fresh 0 0 led) :=
    ⟨Heap.get?_push_size _ rfl, ⟨rfl, rfl, rfl⟩, rfl, fun e he => by simp at he, fun k => by simp, by decide, rfl⟩
  have R' : SetN knd (s.heap.push { cls := .type "set", dict := none, data := .set #[] 0 (.fresh 0 0 led) }) a ks := by
    obtain ⟨nd, o, es, ep, t, e, more⟩ := R
    exact ⟨nd, o, es, ep, t, old a o e, more⟩
  have F0 : Free knd (s.heap.push { cls := .type "set", dict := none, data := .set #[] 0 (.fresh 0 0 led) }) s.heap.objs.size ([] : List K) := .inr ⟨rfl, _, _, _, new, rfl, .inl rfl⟩
  show wpAny _ _ (do
    let y ← addrOf (.ref s.heap.objs.size)
    setMerge y a
    pure (Value.ref s.heap.objs.size)) _ _ _
  refine wpAny_bind (wpAny_pure ?_)
  refine wpAny_bind (come_in (s := { s with heap := s.heap.push { cls := .type "set", dict := none, data := .set #[] 0 (.fresh 0 0 led) } }) F0 R' ne (by rw [List.length_nil]; omega) (fun _ s' Q' _ q' => wpAny_pure q') fun h' ks' sb z' hk same => wpAny_pure ?_)
  refine q h' (fun x o e => ?_) ?_
  · have lx := Heap.lt_size e
    rw [sb.2 x (Nat.ne_of_lt lx)]
    exact old x o e
  · by_cases c : ks = []
    · subst c
      rw [same rfl rfl]
      exact F0
    · refine .inl ⟨c, SetN.congr z'.2 R.1 (fun k => ?_) ?_⟩
      · have := hk k
        simp only [List.not_mem_nil, false_or] at this
        exact decide_eq_decide.mpr this
      · exact ((List.perm_ext_iff_of_nodup z'.1 R.1).mpr fun k => by simpa using hk k).length_eq
/-- a | b -/
theorem or_ok (R1 : SetN knd s.heap a ks) (R2 : SetN knd s.heap b ks2) (ne : a ≠ b) (l : (ks.length + ks2.length) * 2 < 128) {Q : Value → Shared → Prop}
    (q : ∀ h' ks', (∀ x o, s.heap.get? x = some o → h'.get? x = some o) → SetN knd h' s.heap.objs.size ks' → (∀ k, k ∈ ks' ↔ k ∈ ks ∨ k ∈ ks2) → Q (.ref s.heap.objs.size) { s with heap := h' }) : wpAny (model prog w) A (binaryOp .BitOr (.ref a) (.ref b)) Q E s := by
  refine wpAny_binaryOp_same (T := "set") R1.type R2.type F.fills_set_or F.slot_set_or ?_
  refine wpAny_call_entry F.slot_set_or R1.type entry_or ?_ (F.args_set_or_2 _ _)
  rw [setOr_eq]
  refine wpAny_bind (show wpAny _ _ (slot1 "__or__" ⟨[.ref a, .ref b], []⟩) _ _ _ from wpAny_of_eq (a := ((.ref a, .ref b) : Value × Value)) rfl ?_)
  dsimp only
  refine wpAny_bind ?_
  refine wpAny_bind (any_set R1 ?_)
  refine any_set R2 ?_
  refine wp_if_neg (by simp) ?_
  try refine wpAny_bind (wpAny_pure ?_)
  refine wpAny_bind (wpAny_bind (copy_ok R1 (by omega) fun h1 kp F1 => ?_))
  have hb : (Value.ref b != Value.ref a) = true := by
    rw [bne_iff_ne]
    exact fun e => ne (Value.ref.inj e).symm
  refine wp_if_pos hb ?_
  show wpAny _ _ (do
    let y ← addrOf (.ref s.heap.objs.size)
    holding [Value.ref s.heap.objs.size] (updateFrom "frozenset.__or__" y (.ref b))
    pure (Value.ref s.heap.objs.size)) _ _ _
  refine wpAny_bind (wpAny_pure ?_)
  have R3 : SetN knd h1 b ks2 := by
    obtain ⟨nd, o, es, ep, t, e, more⟩ := R2
    exact ⟨nd, o, es, ep, t, kp b o e, more⟩
  have neb : s.heap.objs.size ≠ b := fun e => by
    obtain ⟨_, o, es, ep, t, eo, more⟩ := R2
    have := Heap.lt_size eo
    rw [← e] at this
    exact Nat.lt_irrefl _ this
  refine wpAny_bind (wpAny_holding ?_)
  unfold updateFrom
  refine wpAny_bind (any_set (s := { s with heap := h1 }) R3 ?_)
  refine wp_if_pos rfl ?_
  show wpAny _ _ (do
    let y ← addrOf (.ref b)
    merge "frozenset.__or__" s.heap.objs.size y) _ _ _
  refine wpAny_bind (wpAny_pure ?_)
  unfold merge
  obtain ⟨o, es, ep, t, P, _⟩ := setP_of R3.2
  refine wpAny_bind (wpAny_setEpoch_of (s := { s with heap := h1 }) P.at_ P.dt P.fits ?_)
  refine come_in (s := { s with heap := h1 }) F1 R3 neb l (fun {o2 es2 ep2 t2} P2 s' Q' P' q' => ?_) fun h2 ks' sb z hk _ => ?_
  · have e1 : ep2 = ep := by
      have e := P.at_.symm.trans P2.at_
      cases e
      have e := P.dt.symm.trans P2.dt
      cases e
      rfl
    subst e1
    unfold unchanged
    refine wpAny_bind (wpAny_setEpoch_of P'.at_ P'.dt P'.fits ?_)
    refine wp_if_neg (by simp) ?_
    exact wpAny_pure q'
  · refine wpAny_pure (wpAny_pure ?_)
    refine ⟨_, rfl, ?_⟩
    refine And.intro (fun e => ?_) (q h2 ks' (fun x o e => ?_) z hk)
    · cases e
    have lx := Heap.lt_size e
    rw [sb.2 x (Nat.ne_of_lt lx)]
    exact kp x o e
end
end
end Gd

/-! Gd, part 35: set(d) of a dict. -/
namespace Gd
open PySem L2 PyProof.Rows

section
variable {prog : Program} {w : World} {A : Around} {E : Value → Shared → Prop} {s : Shared}
instance keyMem (k : Key) (ks : List Key) : Decidable (k ∈ ks) := @List.instDecidableMemOfLawfulBEq Key instBEqOfDecidableEq inferInstance k ks
theorem mix_scan {k : Key} {v : Value} (h : (mixKind prog w).is k v = true) : v.scannable = true := by
  rcases keyIs_shape h with ⟨i, t, rfl, rfl⟩ | ⟨x, t, rfl, rfl⟩ <;> rfl
theorem dd_self : ∀ (ks acc : List Key), (acc ++ ks).Nodup → dd acc ks = acc ++ ks
  | [], acc, _ => by simp [dd]
  | k :: ks, acc, h => by
    have hk : inK acc k = false := by
      cases c : inK acc k with
      | false => rfl
      | true =>
        unfold inK at c
        obtain ⟨y, hy, e⟩ := List.any_eq_true.mp c
        have : y = k := of_decide_eq_true e
        rw [List.nodup_append] at h
        exact absurd this (h.2.2 y hy k List.mem_cons_self)
    show dd (if inK acc k = true then acc else acc ++ [k]) ks = _
    rw [hk, if_neg Bool.false_ne_true, dd_self ks (acc ++ [k]) (by simpa using h)]
    simp
theorem inK_mem (ks : List Key) (k : Key) : inK ks k = decide (k ∈ ks) := by
  rw [Bool.eq_iff_iff, decide_eq_true_iff]
  unfold inK
  rw [List.any_eq_true]
  exact ⟨fun ⟨y, hy, e⟩ => of_decide_eq_true e ▸ hy, fun h => ⟨k, h, decide_eq_true rfl⟩⟩
theorem setN_of {h : Heap} {a : Addr} {ks : List Key} (nd : ks.Nodup) : SetN (mixKind prog w) h a ks ↔ h.SetOf (mixKind prog w) a (inK (dd [] ks)) (dd [] ks).length := by
  have e := dd_self ks [] (by simpa using nd)
  rw [e, List.nil_append]
  have e2 : inK ks = fun k => decide (k ∈ ks) := funext (inK_mem ks)
  rw [e2]
  exact ⟨fun x => x.2, fun x => ⟨nd, x⟩⟩
theorem pairs_at : ∀ {es : List DictEntry} {kvs : List (Key × Value)}, Pairs (mixKind prog w) es kvs → ∀ {i : Nat} {e : DictEntry}, es[i]? = some e → ∃ kv, kvs[i]? = some kv ∧ (mixKind prog w).is kv.1 e.key = true
  | _, _, .nil, i, e, h => by simp at h
  | _, _, .cons a _ r, 0, e, h => by
    simp at h
    subst h
    exact ⟨_, rfl, a⟩
  | _, _, .cons _ _ r, i + 1, e, h => by
    obtain ⟨kv, h1, h2⟩ := pairs_at r (i := i) (by simpa using h)
    exact ⟨kv, by simpa using h1, h2⟩
/-- set(d): its keys -/
theorem set_of_dict {d : Addr} {kvs : List (Key × Value)} {Q : Value → Shared → Prop} (hd : (d == sysModules) = false) (D : s.heap.DictOf (mixKind prog w) d kvs) (l : kvs.length * 2 < 128)
    (q : SetMade prog w s (kvs.map (·.1)) Q) :
    wpAny (model prog w) A (call (.type "set") [.ref d]) Q E s := by
  obtain ⟨o, es, ep, ho, hex, hdt, hk, hp, hn⟩ := D
  have lt := Heap.lt_size ho
  have hlen : es.size = kvs.length := by rw [← Array.length_toList]; exact hp.length
  refine set_by (ks := kvs.map (·.1)) q fun led => ?_
  · have at_ : (s.heap.push (newSet led)).get? s.heap.objs.size = some (newSet led) := Heap.get?_push_size _ rfl
    obtain ⟨c1, d1, p1, s1⟩ := o
    obtain ⟨rfl, rfl, rfl⟩ := hex
    simp only at hdt
    subst hdt
    have ho2 := Heap.get?_push_of_some (newSet led) ho
    have new : SetP (mixKind prog w) (s.heap.push (newSet led)) s.heap.objs.size (fun _ => false) _ #[] 0 (.fresh 0 0 led) :=
      ⟨at_, ⟨rfl, rfl, rfl⟩, rfl, fun e he => by simp at he, fun k => by simp, by decide, rfl⟩
    unfold Builtin.«set.__init__» noKeywords
    unfold Builtin.Frozenset.updateFrom
    generalize eS : setRoomFor = PS
    wp_walk
    refine wpAny_of_eq F.sub_dict_set ?_
    refine wpAny_isInstance (T := "dict") ⟨_, ho2, rfl⟩ F.sub_dict_frozenset ?_
    refine wp_if_neg (by simp) ?_
    refine wpAny_bind (wpAny_typeOf (T := "dict") ⟨_, ho2, rfl⟩ ?_)
    refine wp_if_pos rfl ?_
    refine wpAny_bind (wpAny_rule ?_)
    refine wpAny_bind (wpAny_pure ?_)
    refine wp_if_neg (by rw [hd]; simp) ?_
    subst eS
    have ne : d ≠ s.heap.objs.size := Nat.ne_of_lt lt
    show wpAny _ _ (do
      let epoch ← dictEpoch d
      let y ← dictEntries d
      setRoomFor s.heap.objs.size y.size
      _) _ _ _
    refine wpAny_bind (wpAny_dictEpoch ho2 rfl ?_)
    refine wpAny_bind (wpAny_dictEntries ho2 rfl ?_)
    refine wpAny_bind (room_ok (s := { s with heap := s.heap.push (newSet led) }) new (by show (0 + es.size) * 2 < 128; omega) fun h1 o1 es1 ep1 t1 sb P1 sz1 _ _ => ?_)
    have hd1 : h1.get? d = some { cls := .type "dict", dict := none, data := .dict es ep, slots := #[] } := (sb.2 d ne).trans ho2
    refine wpAny_bind (wpAny_dictEntries (s := { s with heap := h1 }) hd1 rfl ?_)
    have R1 : SetN (mixKind prog w) h1 s.heap.objs.size ([] : List Key) := SetN.congr P1.of .nil (fun k => by simp) sz1
    refine wpAny_bind (PySem.SeqAt.wpAny_forIn_span 0 es.size _ (fun i _ s' => ∃ h', s' = { s with heap := h' } ∧ Heap.SameBut s.heap.objs.size (s.heap.push (newSet led)) h' ∧ SetN (mixKind prog w) h' s.heap.objs.size ((kvs.map (·.1)).take i)) _ (fun i u s1 _ hi hI => ?_) (fun u s1 hI => ?_) _ ⟨h1, rfl, sb, R1⟩)
    · obtain ⟨h', rfl, sb', R'⟩ := hI
      have hd' : h'.get? d = some { cls := .type "dict", dict := none, data := .dict es ep, slots := #[] } := (sb'.2 d ne).trans ho2
      refine wpAny_bind (wpAny_dictEntries (s := { s with heap := h' }) hd' rfl ?_)
      have hg : es[i]? = some es[i] := Array.getElem?_eq_getElem hi
      rw [hg]
      dsimp only
      have hg2 : es.toList[i]? = some es[i] := by rw [Array.getElem?_toList]; exact hg
      obtain ⟨kv, hkv, isk⟩ := pairs_at hp hg2
      obtain ⟨k2, isk2, hh⟩ := hk es[i] (Array.getElem_mem hi)
      have ek : k2 = kv.1 := (mixKind prog w).inj _ _ _ isk2 isk
      subst ek
      have tk : (kvs.map (·.1)).take (i + 1) = (kvs.map (·.1)).take i ++ [kv.1] := by
        rw [List.take_succ, List.getElem?_map, hkv]
        rfl
      have nin : kv.1 ∉ (kvs.map (·.1)).take i := by
        have h1 : ((kvs.map (·.1)).take (i + 1)).Nodup := hn.sublist (List.take_sublist ..)
        rw [tk, List.nodup_append] at h1
        exact fun m => h1.2.2 _ m _ List.mem_cons_self rfl
      refine wpAny_bind (wpAny_holding ?_)
      rw [hh]
      refine R'.add (s := { s with heap := h' }) isk (mix_scan isk) (by rw [List.length_take, List.length_map]; unfold scanBound; omega) fun h2 c sb2 R2 => ?_
      rw [if_neg nin] at R2
      have sb3 := sb'.trans sb2
      have hd2 : h2.get? d = some { cls := .type "dict", dict := none, data := .dict es ep, slots := #[] } := (sb3.2 d ne).trans ho2
      refine wpAny_bind (wpAny_dictEpoch (s := { s with heap := h2 }) hd2 rfl ?_)
      refine wp_if_neg (by simp) ?_
      refine wpAny_pure ⟨h2, rfl, sb3, ?_⟩
      rw [tk]
      exact R2
    · obtain ⟨h', rfl, sb', R'⟩ := hI
      refine wpAny_pure (wpAny_pure ?_)
      have full : (kvs.map (·.1)).take (max 0 es.size) = kvs.map (·.1) := by
        rw [List.take_of_length_le]
        rw [List.length_map]; omega
      rw [full] at R'
      refine ⟨rfl, h', s.toks, rfl, (setN_of hn).mp R', fun b o hb e => ?_⟩
      rw [sb'.2 b (Nat.ne_of_lt hb)]
      exact Heap.get?_push_of_some _ e
end
end Gd

/-! Gd, part 36: len(set(a) | set(b)). -/
namespace Gd
open PySem L2 PyProof.Rows

theorem dd_nd : ∀ (ks acc : List Key), acc.Nodup → (dd acc ks).Nodup
  | [], _, h => h
  | k :: ks, acc, h => by
    show (dd (if inK acc k = true then acc else acc ++ [k]) ks).Nodup
    refine dd_nd ks _ ?_
    split
    · exact h
    · next c =>
      rw [List.nodup_append]
      refine ⟨h, by simp, fun a ha b hb e => c ?_⟩
      rw [inK_mem, List.mem_singleton.mp hb] at *
      exact decide_eq_true (e ▸ ha)
theorem dd_mem : ∀ (ks acc : List Key) (k : Key), k ∈ dd acc ks ↔ k ∈ acc ∨ k ∈ ks
  | [], acc, k => by simp [dd]
  | x :: ks, acc, k => by
    show k ∈ dd (if inK acc x = true then acc else acc ++ [x]) ks ↔ _
    rw [dd_mem ks]
    split
    · next c =>
      rw [inK_mem, decide_eq_true_eq] at c
      rw [List.mem_cons]
      exact ⟨fun h => h.elim .inl fun h => .inr (.inr h), fun h => h.elim .inl fun h => h.elim (fun e => .inl (e ▸ c)) .inr⟩
    · rw [List.mem_append, List.mem_singleton, List.mem_cons, or_assoc]
theorem kv_keys {kvs : List (Key × V)} {vs : List (Key × Value)} (r : KV kvs vs) : kvs.map (·.1) = vs.map (·.1) := by
  unfold KV at r
  induction r with
  | nil => rfl
  | cons a b ih => rw [List.map_cons, List.map_cons, a.1, ih]
/-- what set(x) may be asked of -/
def KeysAt (K : Fg) (H : Hp) (x : V) (ks : List Key) : Prop := ∃ l, x = .ref l ∧ (SqL K H l (ks.map kV) ∨ SqT K H l (ks.map kV) ∨ ∃ kvs : List (Key × V), Rd H l (.dK kvs) ∧ ks = kvs.map (·.1))
section
variable {X : Cx} {pins : List (Addr × Obj)} {σ : L2.St} {H : Hp} {s : Shared} {Q : Value → Shared → Prop} {E : Value → Shared → Prop}
theorem setCall (hc : X.calm = true) (I : L2.Inv X pins σ H s) {x : V} {v : Value} {ks : List Key} (rx : RelV x v) (h : KeysAt X.g H x ks) (l : ks.length < 64)
    (q : ∀ h' tk, SetN (mixKind X.prog X.w) h' s.heap.objs.size (dd [] ks) → (∀ b o, s.heap.get? b = some o → h'.get? b = some o) → Q (.ref s.heap.objs.size) { s with heap := h', toks := tk }) : wpAny (model X.prog X.w) X.A (call (.type "set") [v]) Q E s := by
  obtain ⟨a, rfl, h⟩ := h
  cases rx
  have q' : SetMade X.prog X.w s ks Q := fun h' tk z kp => q h' tk ((setN_of (dd_nd ks [] .nil)).mpr (by rw [dd_self _ [] (by simpa using dd_nd ks [] .nil)]; exact z)) fun b o e => kp b o (Heap.lt_size e) e
  rcases h with h | h | ⟨kvs, h, rfl⟩
  · obtain ⟨its, r, pl, hz⟩ := I.list h
    exact set_of_list (items := its.toArray) (I.ok.hd hc) pl.isList (by simpa using r) (by unfold scanBound; omega) q'
  · obtain ⟨its, r, pl, hz⟩ := I.tuple h
    exact set_of_tuple (items := its.toArray) (I.ok.hd hc) pl (by simpa using r) (by unfold scanBound; omega) q'
  · obtain ⟨z, hd, vs, rel, D⟩ := dk_rd I.hok h
    have e : vs.map (·.1) = kvs.map (·.1) := (kv_keys rel).symm
    rw [List.length_map] at l
    refine set_of_dict hd D (by have := rel.length; omega) ?_
    rw [e]
    exact q'
/-- set(a) | set(b): a new set that nothing holds yet -/
def tOr (K : Fg) (ta tb : TE) (R : List Key → L2.St → Hp → Prop) : L2.St → Hp → Prop := fun σ H => ta σ H fun x H1 => ∃ ks, KeysAt K H1 x ks ∧ ks.length < 32 ∧ tb σ H1 fun y H2 => ∃ ks2, KeysAt K H2 y ks2 ∧ ks2.length < 32 ∧ R (ks ++ ks2) σ H2
theorem or_eval {a b : Expr} {ta tb : TE} {p1 p2 q1 q2 opos : Pos} (hc : X.calm = true) (hg : Gl X "set") (hm : X.mg "set" = none) (ha : PE X a ta) (hb : PE X b tb) (I : L2.Inv X pins σ H s) {R : List Key → L2.St → Hp → Prop}
    (na : starEach [a] X.env = (false, eval a X.env) :: starEach [] X.env) (nb : starEach [b] X.env = (false, eval b X.env) :: starEach [] X.env) (h : tOr X.g ta tb R σ H) {Q : Value → Shared → Prop}
    (q : ∀ (s' : Shared) (H' : Hp) (r : Addr) (ks ks' : List Key), L2.Inv X pins σ H' s' → R ks σ H' → SetN (mixKind X.prog X.w) s'.heap r ks' → ks'.length = (dd [] ks).length → (∀ k, k ∈ ks' ↔ k ∈ ks) → H' r = none → Q (.ref r) s') :
    wpAny (model X.prog X.w) X.A (eval (.BinOp (.Call (.Name "set" p1) [a] [] q1) .BitOr (.Call (.Name "set" p2) [b] [] q2) opos) X.env) Q X.xe s := by
  refine wpAny_BinOp ?_
  refine Call_ (ld_blt I hg hm boot_set ?_)
  refine callWith_type1 (args_cons (thn (ha.run pins s σ H _ I h) fun v s1 ⟨x, H1, I1, r1, ks, k1, l1, g1⟩ => args_nil ?_) na) na rfl
  refine setCall hc I1 r1 k1 (by omega) fun h1 t1 z1 kp1 => ?_
  have lt1 : s1.heap.objs.size < s1.heap.objs.size + 1 := Nat.lt_succ_self _
  have I2 : L2.Inv X pins σ H1 { s1 with heap := h1, toks := t1 } := I1.kept kp1
  obtain ⟨oa, es, ep, t, P, _⟩ := setP_of z1.2
  have n1 : H1 s1.heap.objs.size = none := I1.hok.fresh (Nat.le_refl _)
  have I3 : L2.Inv X (pins ++ [(s1.heap.objs.size, oa)]) σ H1 { s1 with heap := h1, toks := t1 } := I2.pins_of fun p hp => by
    rcases List.mem_append.mp hp with hp | hp
    · exact I2.pin p (List.mem_append_right _ hp)
    · rw [List.mem_singleton.mp hp]
      refine ⟨P.at_, n1, fun e => ?_, I1.nofs (Nat.le_refl _), fun v e => ?_⟩
      · have := I1.lt
        rw [← e] at this
        exact Nat.lt_irrefl _ this
      · rw [P.dt] at e; cases e
  refine Call_ (ld_blt I3 hg hm boot_set ?_)
  refine callWith_type1 (args_cons (thn (hb.run _ _ σ H1 _ I3 g1) fun v2 s2 ⟨y, H2, I4, r2, ks2, k2, l2, g2⟩ => args_nil ?_) nb) nb rfl
  have pa := I4.pin (s1.heap.objs.size, oa) (List.mem_append_right _ (List.mem_append_right _ List.mem_cons_self))
  refine setCall hc I4 r2 k2 (by omega) fun h3 t3 z3 kp3 => ?_
  have z1' : SetN (mixKind X.prog X.w) h3 s1.heap.objs.size (dd [] ks) := by
    obtain ⟨nd, o, es', ep', t', e, more⟩ := z1
    have : o = oa := Option.some.inj (e.symm.trans P.at_)
    subst this
    exact ⟨nd, o, es', ep', t', kp3 _ _ pa.1, more⟩
  have ne : s1.heap.objs.size ≠ s2.heap.objs.size := fun e => by
    have := Heap.lt_size pa.1
    rw [e] at this
    exact Nat.lt_irrefl _ this
  have d1 := dd_len ks []
  have d2 := dd_len ks2 []
  rw [List.length_nil, Nat.zero_add] at d1 d2
  refine or_ok (s := { s2 with heap := h3, toks := t3 }) z1' z3 ne (by omega) fun h4 ks' kp4 z4 hk => ?_
  have I5 : L2.Inv X pins σ H2 { s2 with heap := h4, toks := t3 } := L2.Inv.unpinned (pl := [(s1.heap.objs.size, oa)]) (I4.kept (t' := t3) fun b o e => kp4 b o (kp3 b o e))
  have mem : ∀ k, k ∈ ks' ↔ k ∈ ks ++ ks2 := fun k => by
    rw [hk k, dd_mem, dd_mem, List.mem_append]
    simp
  have len : ks'.length = (dd [] (ks ++ ks2)).length := ((List.perm_ext_iff_of_nodup z4.1 (dd_nd (ks ++ ks2) [] .nil)).mpr fun k => by rw [mem, dd_mem]; simp).length_eq
  refine q _ H2 _ (ks ++ ks2) ks' I5 g2 z4 len mem ?_
  have : H2 h3.objs.size = none := (I4.kept (t' := t3) kp3).hok.fresh (Nat.le_refl _)
  exact this
/-- len(set(a) | set(b)) -/
def tLenU (K : Fg) (ta tb : TE) : TE := fun σ H Q => tOr K ta tb (fun ks _ H' => Q (.int ((dd [] ks).length : Nat)) H') σ H
end
theorem pe_lenU {X : Cx} {a b : Expr} {ta tb : TE} {p p1 p2 q q1 q2 opos : Pos} (hg : Gl X "len") (hm : X.mg "len" = none) (hg2 : Gl X "set") (hm2 : X.mg "set" = none) (ha : PE X a ta) (hb : PE X b tb) (hc : X.calm = true := by rfl)
    (na : starEach [a] X.env = (false, eval a X.env) :: starEach [] X.env := by rfl) (nb : starEach [b] X.env = (false, eval b X.env) :: starEach [] X.env := by rfl)
    (nu : starEach [.BinOp (.Call (.Name "set" p1) [a] [] q1) .BitOr (.Call (.Name "set" p2) [b] [] q2) opos] X.env = (false, eval (.BinOp (.Call (.Name "set" p1) [a] [] q1) .BitOr (.Call (.Name "set" p2) [b] [] q2) opos) X.env) :: starEach [] X.env := by rfl) :
    PE X (.Call (.Name "len" p) [.BinOp (.Call (.Name "set" p1) [a] [] q1) .BitOr (.Call (.Name "set" p2) [b] [] q2) opos] [] q) (tLenU X.g ta tb) := by
  refine ⟨fun pins s σ H Q I h => ?_⟩
  refine Call_ (ld_blt I hg hm boot_len ?_)
  refine callWith_builtin1 (args_cons ?_ nu) nu rfl
  refine or_eval hc hg2 hm2 ha hb I na nb h fun s' H' r ks ks' I' g z len mem hr => args_nil ?_
  obtain ⟨o, es, ep, t, P, sz⟩ := setP_of z.2
  refine call_len_set P.at_ P.ex P.dt P.fits (by rw [sz]; have := P.bd; unfold scanBound at this; omega) ?_
  rw [sz, len]
  exact ⟨.int ((dd [] ks).length : Nat), H', I'.tok _, ⟨_, rfl⟩, g⟩
end Gd

/-! Gd, part 37: mirrors of sets. -/
namespace Gd
open PySem L2 PyProof.Rows

def keysD : D → Option (List Key)
  | .lst ds => keysOf ds
  | .tup ds => keysOf ds
  | .dct kvs => some (kvs.map (·.1))
  | .dcf kvs => some (kvs.map (·.1))
  | _ => none
/-- set(a) | set(b), and what is asked of it -/
def e_or2 (g : List Key → Option D) (a b : ME) : ME := fun ρ S => (a ρ S).bind fun d S1 => match (deref ρ S1 d).bind keysD with
  | some ks => if ks.length < 32 then (b ρ S1).bind fun e S2 => (match (deref ρ S2 e).bind keysD with
    | some ks2 => if ks2.length < 32 then liftO S2 (g (ks ++ ks2)) else .no
    | none => .no) else .no
  | none => .no
def lenU (ks : List Key) : Option D := some (.int ((dd [] ks).length : Nat))
section
variable {K : Fg} {mg : Mg} {W : WX}
theorem keysD_at {O : Addr → Prop} {ad : List Addr} {H : Hp} {x : V} {d : D} {ks : List Key} (r : RepS K mg O ad H x d) (h : keysD d = some ks) : KeysAt K H x ks := by
  cases d with
  | lst ds =>
    obtain ⟨l, vs, rfl, g1, g2⟩ := r.lst
    exact ⟨l, rfl, .inl (by rw [← keysOf_V g2 h]; exact g1)⟩
  | tup ds =>
    obtain ⟨l, vs, rfl, g1, g2⟩ := r.tup
    exact ⟨l, rfl, .inr (.inl (by rw [← keysOf_V g2 h]; exact g1))⟩
  | dct kvs =>
    cases h
    obtain ⟨a, vs, rfl, h1, h2⟩ := r.asDct (d := .dct kvs) rfl
    exact ⟨a, rfl, .inr (.inr ⟨vs, h1, h2.keys.symm⟩)⟩
  | dcf kvs =>
    cases h
    obtain ⟨a, vs, rfl, h1, h2⟩ := r.asDct (d := .dcf kvs) rfl
    exact ⟨a, rfl, .inr (.inr ⟨vs, h1, h2.keys.symm⟩)⟩
  | _ => cases h
theorem w_or2 {g : List Key → Option D} {a b : ME} {R : VK → List Key → L2.St → Hp → Prop}
    (hg : ∀ {O : Addr → Prop} {ad : List Addr} {S : Sg} {ρ : Ro} {σ : L2.St} {H : Hp} {ks : List Key} {Q : VK}, Sto K mg O ad S H → PostE K mg W ρ σ Q O ad H (liftO S (g ks)) → R Q ks σ H) : ∀ σ H Q, Ee K mg W (e_or2 g a b) σ H Q → tOr K (Ee K mg W a) (Ee K mg W b) (R Q) σ H := by
  intro σ H Q qq
  refine (bindE (f := fun ρ d S1 => match (deref ρ S1 d).bind keysD with
  | some ks => if ks.length < 32 then (b ρ S1).bind fun e S2 => (match (deref ρ S2 e).bind keysD with
    | some ks2 => if ks2.length < 32 then liftO S2 (g (ks ++ ks2)) else .no
    | none => .no) else .no
  | none => .no) qq).imp fun x H1 h => ?_
  obtain ⟨O, ad, S, ρ, d, s, fr, r1, k⟩ := h
  cases e1 : (deref ρ S d).bind keysD with
  | none => rw [e1] at k; exact k.elim
  | some ks =>
    rw [e1] at k
    dsimp only at k
    obtain ⟨c1, k⟩ := post_if (P := PostE K mg W ρ σ Q O ad H1) (fun z => z) k
    obtain ⟨d', ed, ek⟩ := Option.bind_eq_some_iff.mp e1
    refine ⟨ks, keysD_at (deref_rep fr s r1 ed) ek, c1, ?_⟩
    refine (bindE (m := b) (f := fun ρ e S2 => (match (deref ρ S2 e).bind keysD with
    | some ks2 => if ks2.length < 32 then liftO S2 (g (ks ++ ks2)) else .no
    | none => .no)) ⟨O, ad, S, ρ, s, fr, k⟩).imp fun y H2 h => ?_
    obtain ⟨O, ad, S, ρ, e, s, fr, r2, k⟩ := h
    cases e2 : (deref ρ S e).bind keysD with
    | none => rw [e2] at k; exact k.elim
    | some ks2 =>
      rw [e2] at k
      dsimp only at k
      obtain ⟨c2, k⟩ := post_if (P := PostE K mg W ρ σ Q O ad H2) (fun z => z) k
      obtain ⟨d2, ed2, ek2⟩ := Option.bind_eq_some_iff.mp e2
      exact ⟨ks2, keysD_at (deref_rep fr s r2 ed2) ek2, c2, hg s k⟩
theorem w_lenU {a b : ME} : ∀ σ H Q, Ee K mg W (e_or2 lenU a b) σ H Q → tLenU K (Ee K mg W a) (Ee K mg W b) σ H Q := by
  intro σ H Q q
  refine w_or2 (g := lenU) (R := fun Q ks _ H' => Q (.int ((dd [] ks).length : Nat)) H') ?_ σ H Q q
  intro O ad S ρ σ H ks Q s k
  exact k (.int _) O ad H (.refl _ _ _) s (repR_of (d := .int _) (.int _))
end
section
variable {X : Cx} {W : WX} {a b : Expr} {ma mb : ME} {p p1 p2 q q1 q2 opos : Pos}
theorem E_lenU (hg : Gl X "len") (hm : X.mg "len" = none) (hg2 : Gl X "set") (hm2 : X.mg "set" = none) (ha : PE X a (Ee X.g X.mg W ma)) (hb : PE X b (Ee X.g X.mg W mb)) (hc : X.calm = true := by rfl)
    (na : starEach [a] X.env = (false, eval a X.env) :: starEach [] X.env := by rfl) (nb : starEach [b] X.env = (false, eval b X.env) :: starEach [] X.env := by rfl)
    (nu : starEach [.BinOp (.Call (.Name "set" p1) [a] [] q1) .BitOr (.Call (.Name "set" p2) [b] [] q2) opos] X.env = (false, eval (.BinOp (.Call (.Name "set" p1) [a] [] q1) .BitOr (.Call (.Name "set" p2) [b] [] q2) opos) X.env) :: starEach [] X.env := by rfl) :
    PE X (.Call (.Name "len" p) [.BinOp (.Call (.Name "set" p1) [a] [] q1) .BitOr (.Call (.Name "set" p2) [b] [] q2) opos] [] q) (Ee X.g X.mg W (e_or2 lenU ma mb)) :=
  pe_of (pe_lenU hg hm hg2 hm2 ha hb hc na nb nu) w_lenU
end
end Gd

/-! Gd, part 38: sorted(xs). -/
namespace Gd
open PySem L2 PyProof.Rows

def leS (a b : Str) : Bool := !decide (b.cps.toList < a.cps.toList)
def insS (x : Str) : List Str → List Str
  | [] => [x]
  | y :: ys => if leS x y = true then x :: y :: ys else y :: insS x ys
def sortS (xs : List Str) : List Str := xs.foldr insS []
theorem leS_iff {a b : Str} : leS a b = true ↔ a.cps.toList ≤ b.cps.toList := by
  unfold leS
  simp
theorem leS_total (a b : Str) : leS a b = true ∨ leS b a = true := by
  rw [leS_iff, leS_iff]
  exact List.le_total ..
theorem leS_trans {a b c : Str} (h : leS a b = true) (k : leS b c = true) : leS a c = true := by
  rw [leS_iff] at *
  exact List.le_trans h k
theorem leS_anti {a b : Str} (h : leS a b = true) (k : leS b a = true) : a = b := by
  rw [leS_iff] at *
  cases a; cases b
  congr 1
  exact Array.toList_inj.mp (List.le_antisymm h k)
theorem insS_perm (x : Str) : ∀ ys : List Str, (insS x ys).Perm (x :: ys)
  | [] => .refl _
  | y :: ys => by
    unfold insS
    split
    · exact .refl _
    · exact ((insS_perm x ys).cons y).trans (.swap ..)
theorem sortS_perm : ∀ xs : List Str, (sortS xs).Perm xs
  | [] => .refl _
  | x :: xs => (insS_perm x _).trans ((sortS_perm xs).cons x)
theorem insS_pw (x : Str) : ∀ ys : List Str, ys.Pairwise (fun a b => leS a b = true) → (insS x ys).Pairwise (fun a b => leS a b = true)
  | [], _ => List.pairwise_singleton ..
  | y :: ys, h => by
    unfold insS
    rw [List.pairwise_cons] at h
    split
    · next c =>
      refine List.pairwise_cons.mpr ⟨fun z hz => ?_, List.pairwise_cons.mpr h⟩
      rcases List.mem_cons.mp hz with rfl | hz
      · exact c
      · exact leS_trans c (h.1 z hz)
    · next c =>
      refine List.pairwise_cons.mpr ⟨fun z hz => ?_, insS_pw x ys h.2⟩
      rcases List.mem_cons.mp ((insS_perm x ys).mem_iff.mp hz) with rfl | hz
      · exact (leS_total y z).resolve_right c
      · exact h.1 z hz
theorem sortS_pw : ∀ xs : List Str, (sortS xs).Pairwise (fun a b => leS a b = true)
  | [] => .nil
  | x :: xs => insS_pw x _ (sortS_pw xs)
theorem pw_uniq : ∀ {xs ys : List Str}, xs.Perm ys → xs.Pairwise (fun a b => leS a b = true) → ys.Pairwise (fun a b => leS a b = true) → xs = ys
  | [], ys, p, _, _ => (List.nil_perm.mp p).symm
  | x :: xs, [], p, _, _ => absurd p.length_eq (by simp)
  | x :: xs, y :: ys, p, h, k => by
    rw [List.pairwise_cons] at h k
    have e : x = y := by
      have hx : x ∈ y :: ys := p.mem_iff.mp List.mem_cons_self
      have hy : y ∈ x :: xs := p.mem_iff.mpr List.mem_cons_self
      rcases List.mem_cons.mp hx with e | hx
      · exact e
      · rcases List.mem_cons.mp hy with e | hy
        · exact e.symm
        · exact leS_anti (h.1 y hy) (k.1 x hx)
    subst e
    rw [pw_uniq (List.perm_cons x |>.mp p) h.2 k.2]
theorem sortS_of {xs ys : List Str} (p : ys.Perm xs) (h : ys.Pairwise (fun a b => leS a b = true)) : ys = sortS xs := pw_uniq (p.trans (sortS_perm xs).symm) h (sortS_pw xs)
theorem rising_pw : ∀ (xs : List Str) (p : Str), risingS p xs = true → (p :: xs).Pairwise (fun a b => leS a b = true)
  | [], p, _ => List.pairwise_singleton ..
  | x :: xs, p, h => by
    have h : (!PySem.Spec.ltCps x.cps.toList p.cps.toList && risingS x xs) = true := h
    rw [Bool.and_eq_true, ltCps_eq] at h
    have ih := rising_pw xs x h.2
    refine List.pairwise_cons.mpr ⟨fun z hz => ?_, ih⟩
    rcases List.mem_cons.mp hz with rfl | hz
    · exact h.1
    · exact leS_trans (b := x) h.1 ((List.pairwise_cons.mp ih).1 z hz)
theorem sorted_pw {xs : List Str} (h : sortedS xs = true) : xs.Pairwise (fun a b => leS a b = true) := by
  cases xs with
  | nil => exact .nil
  | cons x xs => exact rising_pw xs x h
/-! ### ints -/
def insI (x : Int) : List Int → List Int
  | [] => [x]
  | y :: ys => if x ≤ y then x :: y :: ys else y :: insI x ys
def sortI (xs : List Int) : List Int := xs.foldr insI []
theorem insI_perm (x : Int) : ∀ ys : List Int, (insI x ys).Perm (x :: ys)
  | [] => .refl _
  | y :: ys => by
    unfold insI
    split
    · exact .refl _
    · exact ((insI_perm x ys).cons y).trans (.swap ..)
theorem sortI_perm : ∀ xs : List Int, (sortI xs).Perm xs
  | [] => .refl _
  | x :: xs => (insI_perm x _).trans ((sortI_perm xs).cons x)
theorem insI_pw (x : Int) : ∀ ys : List Int, ys.Pairwise (· ≤ ·) → (insI x ys).Pairwise (· ≤ ·)
  | [], _ => List.pairwise_singleton ..
  | y :: ys, h => by
    unfold insI
    rw [List.pairwise_cons] at h
    split
    · next c =>
      refine List.pairwise_cons.mpr ⟨fun z hz => ?_, List.pairwise_cons.mpr h⟩
      rcases List.mem_cons.mp hz with rfl | hz
      · exact c
      · exact Int.le_trans c (h.1 z hz)
    · next c =>
      refine List.pairwise_cons.mpr ⟨fun z hz => ?_, insI_pw x ys h.2⟩
      rcases List.mem_cons.mp ((insI_perm x ys).mem_iff.mp hz) with rfl | hz
      · omega
      · exact h.1 z hz
theorem sortI_pw : ∀ xs : List Int, (sortI xs).Pairwise (· ≤ ·)
  | [] => .nil
  | x :: xs => insI_pw x _ (sortI_pw xs)
theorem pwI_uniq : ∀ {xs ys : List Int}, xs.Perm ys → xs.Pairwise (· ≤ ·) → ys.Pairwise (· ≤ ·) → xs = ys
  | [], ys, p, _, _ => (List.nil_perm.mp p).symm
  | x :: xs, [], p, _, _ => absurd p.length_eq (by simp)
  | x :: xs, y :: ys, p, h, k => by
    rw [List.pairwise_cons] at h k
    have e : x = y := by
      have hx : x ∈ y :: ys := p.mem_iff.mp List.mem_cons_self
      have hy : y ∈ x :: xs := p.mem_iff.mpr List.mem_cons_self
      rcases List.mem_cons.mp hx with e | hx
      · exact e
      · rcases List.mem_cons.mp hy with e | hy
        · exact e.symm
        · have := h.1 y hy
          have := k.1 x hx
          omega
    subst e
    rw [pwI_uniq (List.perm_cons x |>.mp p) h.2 k.2]
theorem sortI_of {xs ys : List Int} (p : ys.Perm xs) (h : ys.Pairwise (· ≤ ·)) : ys = sortI xs := pwI_uniq (p.trans (sortI_perm xs).symm) h (sortI_pw xs)
/-! ### the call -/
def intsOf : List D → Option (List Int)
  | [] => some []
  | .int x :: ds => (intsOf ds).map fun r => x :: r
  | _ :: _ => none
theorem intsOf_eq : ∀ {ds : List D} {xs : List Int}, intsOf ds = some xs → ds = xs.map .int
  | [], _, h => by cases h; rfl
  | d :: ds, _, h => by
    cases d <;> first | cases h | skip
    rename_i i
    obtain ⟨r, hr, rfl⟩ := Option.map_eq_some_iff.mp (show (intsOf ds).map _ = _ from h)
    rw [intsOf_eq hr]; rfl
theorem intsOf_map (xs : List Int) : intsOf (xs.map .int) = some xs := by
  induction xs with
  | nil => rfl
  | cons x xs ih => show (intsOf (xs.map .int)).map (fun r => x :: r) = some (x :: xs); rw [ih]; rfl
def textsK : List Key → Option (List Str)
  | [] => some []
  | .inr x :: ks => (textsK ks).map fun r => x :: r
  | _ :: _ => none
theorem textsK_eq : ∀ {ks : List Key} {xs : List Str}, textsK ks = some xs → ks = xs.map Sum.inr
  | [], _, h => by cases h; rfl
  | k :: ks, _, h => by
    cases k with
    | inl i => cases h
    | inr x =>
      obtain ⟨r, hr, rfl⟩ := Option.map_eq_some_iff.mp (show (textsK ks).map _ = _ from h)
      rw [textsK_eq hr]; rfl
theorem textsK_map (xs : List Str) : textsK (xs.map Sum.inr) = some xs := by
  induction xs with
  | nil => rfl
  | cons x xs ih => show (textsK (xs.map Sum.inr)).map (fun r => x :: r) = some (x :: xs); rw [ih]; rfl
def d_sort : D → Option D
  | .lst ds => ((strsOf ds).bind fun xs => if xs.length < 64 then some (.lst ((sortS xs).map .str)) else none).or ((intsOf ds).bind fun xs => if xs.length < 64 then some (.lst ((sortI xs).map .int)) else none)
  | .dct kvs => (textsK (kvs.map (·.1))).bind fun xs => if xs.length < 64 then some (.lst ((sortS xs).map .str)) else none
  | .dcf kvs => (textsK (kvs.map (·.1))).bind fun xs => if xs.length < 64 then some (.lst ((sortS xs).map .str)) else none
  | _ => none
def rSortD : List V → Hp → VK → Prop := fun xs H Q => ∃ (a : Addr) (kvs : List (Key × V)) (ks : List Str), xs = [.ref a] ∧ Rd H a (.dK kvs) ∧ kvs.map (·.1) = ks.map Sum.inr ∧ ks.length < 64 ∧
    ∀ ys p, ys.Perm ks → sortedS ys = true → H p = none → Q (.ref p) (upd H p (.lst (ys.map V.str)))
def rSortAll (K : Fg) : List V → Hp → VK → Prop := fun xs H Q => (rSortedS K xs H Q ∨ rSorted K xs H Q) ∨ rSortD xs H Q
theorem cr_sortAll {X : Cx} (hc : X.calm = true) : CallR X (.builtin "sorted") (rSortAll X.g) := (cr_sortedS.or cr_sorted).or (call_sortedD hc)
section
variable {K : Fg} {mg : Mg}
theorem cpf_sort : CallPF K mg (rSortAll K) (d_1 d_sort) := by
  intro O ad H vs ds z r h
  obtain ⟨d, rfl, h⟩ := d_1_some h
  obtain ⟨x, rfl, rx⟩ := paired1 r
  intro Q k
  have dict : ∀ l : List (Key × D), Gd.asDct d = some l → ((textsK (l.map (·.1))).bind fun xs => if xs.length < 64 then some (D.lst ((sortS xs).map .str)) else none) = some z → rSortAll K [x] H Q := by
    intro l hl hz
    obtain ⟨xs, e1, e2⟩ := Option.bind_eq_some_iff.mp hz
    split at e2
    · rename_i c
      cases e2
      obtain ⟨a, kvs, rfl, h1, h2⟩ := rx.asDct hl
      refine .inr ⟨a, kvs, xs, rfl, h1, by rw [h2.keys]; exact textsK_eq e1, c, fun ys p pm so hp => ?_⟩
      rw [sortS_of pm (sorted_pw so)]
      exact k p _ hp ⟨_, rfl, Reps.of_strs⟩
    · cases e2
  cases d with
  | lst ds =>
    obtain ⟨a, ws, rfl, h1, h2⟩ := rx.lst
    have h : ((strsOf ds).bind fun xs => if xs.length < 64 then some (D.lst ((sortS xs).map .str)) else none).or ((intsOf ds).bind fun xs => if xs.length < 64 then some (D.lst ((sortI xs).map .int)) else none) = some z := h
    cases e : ((strsOf ds).bind fun xs => if xs.length < 64 then some (D.lst ((sortS xs).map .str)) else none) with
    | some y =>
      rw [e] at h
      cases h
      obtain ⟨xs, e1, e2⟩ := Option.bind_eq_some_iff.mp e
      split at e2
      · rename_i c
        cases e2
        have ed := strsOf_eq e1
        subst ed
        have ev := h2.strs
        subst ev
        refine .inl (.inl ⟨a, xs, rfl, h1, c, fun ys p pm so hp => ?_⟩)
        rw [sortS_of pm (sorted_pw so)]
        exact k p _ hp ⟨_, rfl, Reps.of_strs⟩
      · cases e2
    | none =>
      rw [e] at h
      obtain ⟨xs, e1, e2⟩ := Option.bind_eq_some_iff.mp (show ((intsOf ds).bind fun xs => if xs.length < 64 then some (D.lst ((sortI xs).map .int)) else none) = some z from h)
      split at e2
      · rename_i c
        cases e2
        have ed := intsOf_eq e1
        subst ed
        have ev := h2.ints
        subst ev
        refine .inl (.inr ⟨a, xs, rfl, h1, c, fun ys p pm so hp => ?_⟩)
        rw [sortI_of pm so]
        exact k p _ hp ⟨_, rfl, Reps.of_ints⟩
      · cases e2
  | dct l => exact dict l rfl h
  | dcf l => exact dict l rfl h
  | _ => cases h
end
end Gd

/-! Gd, part 39: name = {dict comprehension}; an own dict that stands still from here on; items(), values(), keys(). -/
namespace Gd
open PySem L2 PyProof.Rows

section
variable {X : Cx} {W : WX} {kx vx tg iter : Expr} {ifs : List Expr} {scope : Scope} {own : List (Str × Nat)} {pos spos py : Pos} {y : Str} {i : Nat}
theorem swd_true {gs : List Comprehension} {l : Nat} {env : Env} (hk : env.scope.kind = .function) (hy : env.scope.names.lookup y = some .local) (hl : (py.line == pos.line) = true)
    (ha : (scope.names.any fun (n, k) => n == y && (k == .local || k == .cell)) = false) : swapsWith (.DictComp kx vx gs scope pos) (some (.Name y py)) l env = pure true := by
  have e1 : env.blockKind = .function := by
    unfold Env.blockKind
    rw [hk]; rfl
  have e2 : env.kindOf y = some .local := hy
  unfold swapsWith
  simp only [e1, e2, ha, Expr.pos, hl]
  rfl
theorem ps_setDc {wi : TI} {g : TG} {tt : TT} {tk tv : TE} (hc : X.calm = true) (hN : X.N.Nodup) (hy : X.N[i]? = some y) (hyl : X.env.scope.names.lookup y = some .local)
    (hsw : swapsWith (.DictComp kx vx [⟨tg, iter, ifs, 0⟩] scope pos) (some (.Name y py)) spos.line X.env = pure true) (hi : PI X tg iter wi) (ok : BlkOk X.N X.env.scope scope own)
    (hg : BlkAll X scope fun Y => PG Y tg g) (ht : BlkAll X scope fun Y => PTs Y ifs tt) (hk : BlkAll X scope fun Y => PE Y kx tk) (he : BlkAll X scope fun Y => PE Y vx tv) (hs : ∀ x, foldedSetIterable iter X.env x = pure x) :
    PS X (.Assign [.Name y py] (.DictComp kx vx [⟨tg, iter, ifs, 0⟩] scope pos) spos) (tAsg (tDc wi g tt tk tv (own.map (·.2))) (gName i)) := by
  constructor
  intro pins s σ H Dn I q
  rw [exec_Assign_Name_used _ _ _ _ hsw]
  refine wpAny_bind (wpAny_standAt (wpAny_bind ?_))
  show wpAny _ X.A (do let _ ← comprehension (.DictComp kx vx [⟨tg, iter, ifs, 0⟩] scope pos) scope X.env (firstIterPos [⟨tg, iter, ifs, 0⟩] pos) newDict false (eval iter X.env) (some (assign (.Name y py) X.env))) _ _ s
  have q' : tDc wi g tt tk tv (own.map (·.2)) σ H (fun x H1 => gName i x σ H1 Dn.nx) := q
  refine wpAny_bind (thn (dc_core (Qf := fun _ s' => SP X pins Dn .next s') hc hN I hi ok hg ht hk he hs q' ?_) fun _ s2 z => wpAny_pure (wpAny_pure z))
  intro D C s2 m H2 I2 q2 ns ok2
  show wpAny _ _ (assign (.Name y py) X.env (.ref D)) _ _ _
  refine wpAny_assign_Name (store_ok2 (v := V.ref D) I2 hN hy (.inl hyl) rfl ?_ (.inr hyl))
  rintro s3 I3 ⟨a, same, ha⟩
  obtain ⟨g0, g1, g2, g3, g4, g5⟩ := ok2
  have ne : C ≠ a := by
    rcases ha with z | z
    · rw [z]; exact g1
    · intro e
      exact g4 y a z e.symm
  refine ⟨m, ns.sameBut same ne, fun h4 same4 => ⟨_, H2, I3.turned (t' := s3.toks) (fun b o hb e => ?_) g0 g1 g3 g4 g5, q2⟩⟩
  exact (same4.2 b hb).trans e
variable {mi : MJ} {g : TG} {tgt : Tgt} {t : MT} {mk mv : ME}
theorem S_dcG {ms : ME → MS} (hm : ∀ {K : Fg} {mg : Mg} {W : WX} {m : ME} Dn σ H, Ss K mg W (ms m) Dn σ H → tAsg (Ef K mg W m) (gName i) Dn σ H) (hc : X.calm = true) (hN : X.N.Nodup) (hy : X.N[i]? = some y) (hyl : X.env.scope.names.lookup y = some .local)
    (hsw : swapsWith (.DictComp kx vx [⟨tg, iter, ifs, 0⟩] scope pos) (some (.Name y py)) spos.line X.env = pure true) (hi : PI X tg iter (Ej X.g X.mg Stp W mi)) (ok : BlkOk X.N X.env.scope scope own) (tk : TgOk X.g X.mg (own.map (·.2)) g tgt)
    (hg : BlkAll X scope fun Y => PG Y tg g) (ht : BlkAll X scope fun Y => PTs Y ifs (Et X.g X.mg W0 t)) (hk : BlkAll X scope fun Y => PE Y kx (Ee X.g X.mg W0 mk)) (he : BlkAll X scope fun Y => PE Y vx (Ee X.g X.mg W0 mv))
    (hs : ∀ x, foldedSetIterable iter X.env x = pure x := by intro _; rfl) :
    PS X (.Assign [.Name y py] (.DictComp kx vx [⟨tg, iter, ifs, 0⟩] scope pos) spos) (Ss X.g X.mg W (ms (f_dcG (own.map (·.2)) mi tgt t mk mv))) :=
  ps_of (ps_setDc hc hN hy hyl hsw hi ok hg ht hk he hs) fun Dn σ H q => w_dcG tk _ _ _ (hm Dn σ H q)
theorem h_lk : ∀ {K : Fg} {mg : Mg} {W : WX} {m : ME} Dn σ H, Ss K mg W (s_set i (e_lk m)) Dn σ H → tAsg (tLk (Ef K mg W m)) (gName i) Dn σ H := fun Dn σ H q => w_lk _ _ _ (w_set (i := i) Dn σ H q)
end
/-! ### an own dict or list stands still from here on -/
def s_frz (i : Nat) (m : MS) : MS := fun ρ S => match ρ[i]? with
  | some (.ow (.dct l)) => m (ρ.set i (.va (.dcf l))) S
  | some (.ow (.lst l)) => m (ρ.set i (.va (.lst l))) S
  | _ => m ρ S
theorem Sta.frz {K : Fg} {mg : Mg} {c : Ctx} {O : Addr → Prop} {ad : List Addr} {S : Sg} {ρ : Ro} {σ : L2.St} {H H' : Hp} {i : Nat} {d d' : D} {p : Addr} (z : Sta K mg c O ad S ρ σ H) (hl : ρ[i]? = some (.ow d)) (hp : σ[i]? = some (some (.ref p))) (hO : O p) (hn : p ∉ ad)
    (ne : ∀ b, b ≠ p → H' b = H b) (r : (∀ b o, hide O H b = some o → hide (fun a => O a ∧ a ≠ p) H' b = some o) → Rep K mg (hide (fun a => O a ∧ a ≠ p) H') ad (.ref p) d') :
    Grow O ad H (fun a => O a ∧ a ≠ p) ad H' ∧ Sta K mg c (fun a => O a ∧ a ≠ p) ad S (ρ.set i (.va d')) σ H' := by
  have h0 := z.owf i _ p hl hp
  have hk : ∀ b o, hide O H b = some o → hide (fun a => O a ∧ a ≠ p) H' b = some o := fun b o e => by
    obtain ⟨n, e⟩ := of_hide e
    refine hide_of (fun q => n q.1) ?_
    rw [ne b (fun q => n (by rw [q]; exact hO))]
    exact e
  refine ⟨⟨hk, fun _ _ e => e⟩, ?_⟩
  refine ⟨⟨z.sto.len, z.sto.nd, fun a ha => ⟨z.sto.hid a ha, fun q => hn (by rw [← q]; exact ha)⟩, fun a ha => ?_, fun n d hd => ?_⟩, ⟨by rw [List.length_set]; exact z.fre.len, fun j d hd => ?_, fun j d hd => ?_, fun j k d e a n1 h1 h2 h3 => ?_⟩, ⟨fun b o hb m => ?_, fun a ha => ⟨z.cst.op a ha, fun q => ?_⟩, fun a ha => z.cst.oq a ha.1, z.cst.ap, z.cst.wf, z.cst.wd⟩, fun j d a h1 h2 => ?_⟩
  · obtain ⟨o, ho⟩ := z.sto.dom a ha.1
    exact ⟨o, by rw [ne _ ha.2]; exact ho⟩
  · obtain ⟨a, q1, q2⟩ := z.sto.ob n d hd
    refine ⟨a, q1, q2.mono hk (fun _ _ e => e) fun o e => ?_⟩
    rw [ne _ (fun q => hn (by rw [← q]; exact List.mem_of_getElem? q1))]
    exact e
  · rcases get_set hd with ⟨rfl, e1, _⟩ | ⟨nj, hd⟩
    · cases e1
      exact ⟨.ref p, hp, r hk⟩
    · obtain ⟨v, q1, q2⟩ := z.fre.va j d hd
      exact ⟨v, q1, q2.mono hk fun _ _ e => e⟩
  · rcases get_set hd with ⟨rfl, e1, _⟩ | ⟨nj, hd⟩
    · cases e1
    · obtain ⟨a, q1, q2, q3, q4⟩ := z.fre.ow j d hd
      have na : a ≠ p := fun e => z.fre.ap i j _ _ p nj hl hd hp (by rw [q1, e])
      refine ⟨a, q1, ⟨q2, na⟩, q3, q4.mono hk (fun _ _ e => e) fun o e => ?_⟩
      rw [ne _ na]; exact e
  · rcases get_set h1 with ⟨rfl, e1, _⟩ | ⟨nj, h1⟩
    · cases e1
    · rcases get_set h2 with ⟨rfl, e1, _⟩ | ⟨nk, h2⟩
      · cases e1
      · exact z.fre.ap j k d e a n1 h1 h2 h3
  · rw [ne _ (fun q => by rw [q, h0] at hb; cases hb)]
    exact z.cst.fr b o hb m
  · obtain ⟨o, ho⟩ := z.cst.wd a ha
    rw [q, h0] at ho; cases ho
  · rcases get_set h1 with ⟨rfl, e1, _⟩ | ⟨nj, h1⟩
    · cases e1
    · exact z.owf j d a h1 h2
theorem S_frz {X : Cx} {W : WX} {st : Stmt} {i : Nat} {m : MS} (h : PS X st (Ss X.g X.mg W m)) : PS X st (Ss X.g X.mg W (s_frz i m)) := by
  refine ⟨fun pins s σ H Dn I q => ?_⟩
  obtain ⟨c, O, ad, S, ρ, z, q⟩ := q
  unfold s_frz at q
  split at q
  · rename_i l hl
    obtain ⟨p, hp, hO, hn, kvs, hH, rk⟩ := z.fre.ow i _ hl
    obtain ⟨od, I2⟩ := I.lock hH trivial
    obtain ⟨gr, z2⟩ := z.frz (d' := .dcf l) hl hp hO hn (fun b nb => upd_ne nb) fun hk => .dcf (hide_of (fun q => q.2 rfl) upd_same) (rk.mono hk fun _ _ e => e)
    exact h.run pins s σ _ Dn I2 ⟨c, _, ad, S, _, z2, PostS.rebase q gr⟩
  · rename_i l hl
    obtain ⟨p, hp, hO, hn, vs, hH, rk⟩ := z.fre.ow i _ hl
    obtain ⟨gr, z2⟩ := z.frz (H' := H) (d' := .lst l) hl hp hO hn (fun b nb => rfl) fun hk => .lst (.of (hide_of (fun q => q.2 rfl) hH)) (rk.mono hk fun _ _ e => e)
    exact h.run pins s σ _ Dn I ⟨c, _, ad, S, _, z2, PostS.rebase q gr⟩
  · exact h.run pins s σ H Dn I ⟨c, O, ad, S, ρ, z, q⟩
/-! ### items(), values(), keys() -/
def pairsD (l : List (Key × D)) : List D := l.map fun kv => .tup [keyD kv.1, kv.2]
def dcfJ (f : List (Key × D) → List D) : D → Option (List D × List Nat)
  | .dcf l => some (f l, [])
  | _ => none
def j_dcf (f : List (Key × D) → List D) (m : ME) : MJ := fun ρ S => (m ρ S).bind fun d S1 => liftJ S1 (dcfJ f d)
abbrev j_items := j_dcf pairsD
abbrev j_vals := j_dcf fun l => l.map (·.2)
abbrev j_keysM := j_dcf fun l => l.map fun kv => keyD kv.1
theorem RepK.at {K : Fg} {mg : Mg} {G : Hp} {ad : List Addr} {i : Nat} {k : Key} {v : V} {vs : List (Key × V)} {ds : List (Key × D)} (r : RepK K mg G ad vs ds) (e : vs[i]? = some (k, v)) : ∃ d, ds[i]? = some (k, d) ∧ Rep K mg G ad v d := by
  induction vs generalizing ds i with
  | nil => simp at e
  | cons p vs ih =>
    cases r with
    | cons a b =>
      cases i with
      | zero => simp at e; obtain ⟨rfl, rfl⟩ := e; exact ⟨_, rfl, a⟩
      | succ i =>
        obtain ⟨d, h1, h2⟩ := ih (i := i) b (by simpa using e)
        exact ⟨d, by simpa using h1, h2⟩
theorem rep_key {K : Fg} {mg : Mg} {G : Hp} {ad : List Addr} : ∀ k : Key, Rep K mg G ad (kV k) (keyD k)
  | .inl i => .int i
  | .inr x => .str x
section
variable {K : Fg} {mg : Mg} {W : WX} {rel : Rel} {own : Bool} {ob : Obj} {p : Addr} {kvs : List (Key × V)} {l : List (Key × D)} {ok : RelS}
theorem src_itemsG (hf : ∀ O2 ad2 S2 H2, ok O2 ad2 S2 H2 → H2 p = some (.frz ob (.dK kvs)) ∧ RepK K mg (hide O2 H2) ad2 kvs l) (e : kvs.length = l.length) : SrcG K mg ok (Iti p ob kvs) (pairsD l) := by
  have hl : (pairsD l).length = kvs.length := by rw [e]; simp [pairsD]
  refine ⟨fun H => H p = some (.frz ob (.dK kvs)), fun i H x H' => ∃ T k v, kvs[i]? = some (k, v) ∧ x = .ref T ∧ H T = none ∧ H' = upd H T (.tup [kV k, v]), ?_, fun O2 ad2 S2 H2 h2 _ => (hf O2 ad2 S2 H2 h2).1, fun i H2 x H3 O2 ad2 S2 h2 s2 hi y => ?_⟩
  · rw [hl]
    exact ⟨fun _ _ hi q => ⟨q, hi⟩, fun _ q => ⟨q, Nat.le_refl _⟩, fun _ _ _ _ _ _ y => y⟩
  · obtain ⟨T, k, v, hk, rfl, hT, rfl⟩ := y
    obtain ⟨d, h3, h4⟩ := (hf O2 ad2 S2 H2 h2).2.at hk
    obtain ⟨p1, p2, p3⟩ := pair_new s2 hT (rep_key k) h4
    exact ⟨_, by rw [pairsD, List.getElem?_map, h3]; rfl, p1, p2, p3⟩
theorem src_valsG (hf : ∀ O2 ad2 S2 H2, ok O2 ad2 S2 H2 → H2 p = some (.frz ob (.dK kvs)) ∧ RepK K mg (hide O2 H2) ad2 kvs l) (e : kvs.length = l.length) : SrcG K mg ok (Itd p ob kvs) (l.map (·.2)) := by
  refine ⟨_, _, (by rw [List.length_map, ← e]; exact walk_values), fun O2 ad2 S2 H2 h2 _ => (hf O2 ad2 S2 H2 h2).1, fun i H2 x H3 O2 ad2 S2 h2 s2 hi y => ?_⟩
  obtain ⟨rfl, k, hk⟩ := y
  obtain ⟨d, h3, h4⟩ := (hf O2 ad2 S2 H3 h2).2.at hk
  exact ⟨d, by rw [List.getElem?_map, h3]; rfl, .refl _ _ _, s2, h4⟩
theorem w_jdcf {f : List (Key × D) → List D} {J : Addr → Obj → List (Key × V) → It} (R : RelOk rel own)
    (hsrc : ∀ {ok : RelS} {p : Addr} {ob : Obj} {kvs : List (Key × V)} {l : List (Key × D)}, (∀ O2 ad2 S2 H2, ok O2 ad2 S2 H2 → H2 p = some (.frz ob (.dK kvs)) ∧ RepK K mg (hide O2 H2) ad2 kvs l) → kvs.map (·.1) = l.map (·.1) → SrcG K mg ok (J p ob kvs) (f l)) {m : ME} :
    ∀ σ H R', Ej K mg rel W (j_dcf f m) σ H R' → Ee K mg W m σ H fun x H1 => ∃ d o kvs, x = .ref d ∧ H1 d = some (.frz o (.dK kvs)) ∧ R' (J d o kvs) H1 := by
  intro σ H R' q
  refine (bindEJ (f := fun ρ d S1 => liftJ S1 (dcfJ f d)) q).imp fun v H1 g => ?_
  obtain ⟨O, ad, S, ρ, d, s, fr, r, k⟩ := g
  obtain ⟨⟨ds, gs⟩, ez⟩ := liftJ_ok k
  rw [ez] at k
  cases d with
  | dcf l =>
    cases ez
    cases r with
    | dcf h1 h2 =>
      exact ⟨_, _, _, rfl, un_hide _ _ h1, k O ad H1 _ (.refl _ _ _) s (hsrc (fun O2 ad2 S2 H2 ⟨g, _⟩ => let e := R.grow _ _ _ _ _ _ s.hid g
        ⟨un_hide _ _ (e.ex _ _ h1), h2.mono e.ex e.ap⟩) h2.keys)⟩
  | _ => cases ez
end
section
variable {X : Cx} {W : WX} {rel : Rel} {own : Bool} {tg e : Expr} {m : ME} {apos cpos tpos : Pos} {elts : List Expr} {kk : Nat}
theorem lenK {kvs : List (Key × V)} {l : List (Key × D)} (e : kvs.map (·.1) = l.map (·.1)) : kvs.length = l.length := by simpa using congrArg List.length e
theorem J_items (R : RelOk rel own) (h : PE X e (Ee X.g X.mg W m)) (hb : attributeBase e "items" X.env (eval e X.env) = eval e X.env := by rfl) (hl : (apos.endLine == cpos.line) = true := by rfl) :
    PI X (.Tuple elts kk tpos) (.Call (.Attribute e "items" apos) [] [] cpos) (Ej X.g X.mg rel W (j_items m)) := pi_of (pi_items h hb hl) (w_jdcf R fun h e => src_itemsG h (lenK e))
theorem J_vals (R : RelOk rel own) (h : PE X e (Ee X.g X.mg W m)) (hb : attributeBase e "values" X.env (eval e X.env) = eval e X.env := by rfl) (hl : (apos.endLine == cpos.line) = true := by rfl) :
    PI X tg (.Call (.Attribute e "values" apos) [] [] cpos) (Ej X.g X.mg rel W (j_vals m)) := pi_of (pi_values h hb hl) (w_jdcf R fun h e => src_valsG h (lenK e))
theorem J_keysM (R : RelOk rel own) (h : PE X e (Ee X.g X.mg W m)) (hb : attributeBase e "keys" X.env (eval e X.env) = eval e X.env := by rfl) (hl : (apos.endLine == cpos.line) = true := by rfl) :
    PI X tg (.Call (.Attribute e "keys" apos) [] [] cpos) (Ej X.g X.mg rel W (j_keysM m)) := pi_of (pi_keysM h hb hl) (w_jdcf R fun h e => src_keysG (fun O2 ad2 S2 H2 q => (h O2 ad2 S2 H2 q).1) e)
end
end Gd

/-! Gd, part 40: list(d), dict(d), dict(pairs). -/
namespace Gd
open PySem L2 PyProof.Rows

def d_list5 : D → Option D
  | .lst ds => some (.lst ds)
  | .tup ds => some (.lst ds)
  | .dct l => some (.lst (l.map fun kv => keyD kv.1))
  | .dcf l => some (.lst (l.map fun kv => keyD kv.1))
  | _ => none
def rListK : List V → Hp → VK → Prop := fun xs H Q => ∃ (a : Addr) (kvs : List (Key × V)), xs = [.ref a] ∧ Rd H a (.dK kvs) ∧ ∀ p, H p = none → Q (.ref p) (upd H p (.lst (kvs.map fun kv => kV kv.1)))
def rList5 (K : Fg) : List V → Hp → VK → Prop := fun xs H Q => rList K xs H Q ∨ rListK xs H Q
theorem cr_list5 {X : Cx} (hc : X.calm = true) : CallR X (.type "list") (rList5 X.g) := cr_list.or (call_listD hc)
section
variable {K : Fg} {mg : Mg}
theorem RepK.keysR {G : Hp} {ad : List Addr} {kvs : List (Key × V)} {l : List (Key × D)} (r : RepK K mg G ad kvs l) : Reps K mg G ad (kvs.map fun kv => kV kv.1) (l.map fun kv => keyD kv.1) := by
  induction kvs generalizing l with
  | nil => cases r; exact .nil
  | cons p kvs ih => cases r with | cons a b => exact .cons (rep_key _) (ih b)
theorem cpf_list5 : CallPF K mg (rList5 K) (d_1 d_list5) := by
  intro O ad H vs ds z r h
  obtain ⟨d, rfl, h⟩ := d_1_some h
  obtain ⟨x, rfl, rx⟩ := paired1 r
  intro Q k
  have dict : ∀ l : List (Key × D), Gd.asDct d = some l → z = .lst (l.map fun kv => keyD kv.1) → rList5 K [x] H Q := by
    rintro l hl rfl
    obtain ⟨a, kvs, rfl, h1, h2⟩ := rx.asDct hl
    exact .inr ⟨a, kvs, rfl, h1, fun p hp => k p _ hp ⟨_, rfl, h2.keysR⟩⟩
  cases d with
  | lst ds =>
    cases h
    obtain ⟨a, vs, rfl, h1, h2⟩ := rx.lst
    exact .inl ⟨a, vs, rfl, .inl h1, fun l hl => k l _ hl ⟨vs, rfl, h2⟩⟩
  | tup ds =>
    cases h
    obtain ⟨a, vs, rfl, h1, h2⟩ := rx.tup
    exact .inl ⟨a, vs, rfl, .inr h1, fun l hl => k l _ hl ⟨vs, rfl, h2⟩⟩
  | dct l => cases h; exact dict l rfl rfl
  | dcf l => cases h; exact dict l rfl rfl
  | _ => cases h
/-- pairs (key, value) -/
def pairOf : D → Option (Key × D)
  | .tup [k, v] => (keyOf k).map fun q => (q, v)
  | _ => none
def pairsOf : List D → Option (List (Key × D))
  | [] => some []
  | d :: ds => (pairOf d).bind fun p => (pairsOf ds).map fun r => p :: r
def kputs (l : List (Key × D)) : List (Key × D) := l.foldl (fun acc kv => kput acc kv.1 kv.2) []
def d_dict : D → Option D
  | .lst ds => (pairsOf ds).map fun l => .dct (kputs l)
  | .dct l => some (.dct l)
  | .dcf l => some (.dct l)
  | _ => none
def rDictP (K : Fg) : List V → Hp → VK → Prop := fun xs H Q => ∃ (a : Addr) (ps : List Addr) (kvs : List (Key × V)), xs = [.ref a] ∧ SqL K H a (ps.map V.ref) ∧ Paired (fun p kv => SqT K H p [kV kv.1, kv.2]) ps kvs ∧ ∀ p, H p = none → Q (.ref p) (upd H p (.dK (mergeK [] kvs)))
def rDictC : List V → Hp → VK → Prop := fun xs H Q => ∃ (a : Addr) (kvs : List (Key × V)), xs = [.ref a] ∧ Rd H a (.dK kvs) ∧ ∀ p, H p = none → Q (.ref p) (upd H p (.dK kvs))
def rDict (K : Fg) : List V → Hp → VK → Prop := fun xs H Q => rDictP K xs H Q ∨ rDictC xs H Q
theorem cr_dict {X : Cx} (hc : X.calm = true) : CallR X (.type "dict") (rDict X.g) := (call_dictP hc).or call_dictD
theorem keyOf_rep {G : Hp} {ad : List Addr} {v : V} {d : D} {k : Key} (r : Rep K mg G ad v d) (e : keyOf d = some k) : v = kV k := by
  cases d <;> first | cases e | skip
  · cases r; rfl
  · cases r; rfl
theorem pairs_rep {O : Addr → Prop} {H : Hp} {ad : List Addr} : ∀ {ds : List D} {vs : List V} {l : List (Key × D)}, Reps K mg (hide O H) ad vs ds → pairsOf ds = some l →
    ∃ (ps : List Addr) (kvs : List (Key × V)), vs = ps.map V.ref ∧ Paired (fun p kv => SqT K H p [kV kv.1, kv.2]) ps kvs ∧ RepK K mg (hide O H) ad kvs l := by
  intro ds
  induction ds with
  | nil => intro vs l r e; cases r; cases e; exact ⟨[], [], rfl, .nil, .nil⟩
  | cons d ds ih =>
    intro vs l r e
    cases r with
    | cons ra rb =>
      obtain ⟨⟨k, y⟩, e1, e2⟩ := Option.bind_eq_some_iff.mp e
      obtain ⟨r2, e3, rfl⟩ := Option.map_eq_some_iff.mp e2
      obtain ⟨ps, kvs, rfl, h1, h2⟩ := ih rb e3
      unfold pairOf at e1
      split at e1
      · obtain ⟨q, e4, e5⟩ := Option.map_eq_some_iff.mp e1
        cases e5
        cases ra with
        | tup hs rs =>
          cases rs with
          | cons rk rr =>
            cases rr with
            | cons ry rn =>
              cases rn
              have ek := keyOf_rep rk e4
              subst ek
              exact ⟨_ :: ps, (_, _) :: kvs, rfl, .cons (sqt_mono un_hide hs) h1, .cons ry h2⟩
      · cases e1
theorem RepK.puts {G : Hp} {ad : List Addr} {more : List (Key × V)} : ∀ {l : List (Key × D)} {kvs : List (Key × V)} {m : List (Key × D)}, RepK K mg G ad more l → RepK K mg G ad kvs m → RepK K mg G ad (mergeK kvs more) (l.foldl (fun acc kv => kput acc kv.1 kv.2) m) := by
  induction more with
  | nil => intro l kvs m r q; cases r; exact q
  | cons p more ih =>
    intro l kvs m r q
    obtain ⟨k, v⟩ := p
    cases r with
    | cons a b =>
      have z := ih b (q.put (k := k) a)
      exact z
theorem cpf_dict : CallPF K mg (rDict K) (d_1 d_dict) := by
  intro O ad H vs ds z r h
  obtain ⟨d, rfl, h⟩ := d_1_some h
  obtain ⟨x, rfl, rx⟩ := paired1 r
  intro Q k
  have dict : ∀ l : List (Key × D), Gd.asDct d = some l → z = .dct l → rDict K [x] H Q := by
    rintro l hl rfl
    obtain ⟨a, kvs, rfl, h1, h2⟩ := rx.asDct hl
    exact .inr ⟨a, kvs, rfl, h1, fun p hp => k p _ hp ⟨_, rfl, h2⟩⟩
  cases d with
  | lst ds =>
    obtain ⟨l, hl, rfl⟩ := Option.map_eq_some_iff.mp h
    obtain ⟨a, vs, rfl, h1, h2⟩ := rx.lst
    obtain ⟨ps, kvs, rfl, h3, h4⟩ := pairs_rep h2 hl
    exact .inl ⟨a, ps, kvs, rfl, h1, h3, fun p hp => k p _ hp ⟨_, rfl, RepK.puts h4 .nil⟩⟩
  | dct l => cases h; exact dict l rfl rfl
  | dcf l => cases h; exact dict l rfl rfl
  | _ => cases h
end
end Gd

namespace Lb
open PySem L2 Gd PyProof.Rows
noncomputable def b_is_name : MS := (s_seq (s_if (t_or (t_not (t_e (e_op1 (d_isi "str") (e_var 0)))) (t_or (t_not (t_e (e_chain d_le d_le (e_c (.int 1)) (e_cb (d_1 d_len5) (a_cons (e_var 0) a_nil)) (e_c (.int 8))))) (t_e (e_op2 (d_in5 false) (e_var 0) (e_c (.tup [(.str "not"), (.str "never"), (.str "may")])))))) (s_ret (e_c (.bl false))) s_nx)
  (s_ret (e_cb (d_1 d_all) (a_cons (f_lcG [1] (j_seq true (e_var 0)) (t_name 1) t_yes (e_chain d_le d_le (e_c (.str "a")) (e_var 1) (e_c (.str "z")))) a_nil))))
noncomputable def m_is_name : List D → Sg → Out D := Gd.fn 2 b_is_name 1
noncomputable def b_are_names : MS := (s_seq (s_if (t_or (t_not (t_e (e_op1 (d_isiN ["list", "tuple"]) (e_var 0)))) (t_e (e_op2 d_gt (e_cb (d_1 d_len5) (a_cons (e_var 0) a_nil)) (e_var 1)))) (s_ret (e_c (.bl false))) s_nx)
  (s_ret (e_and (e_cb (d_1 d_all) (a_cons (f_lcG [2] (j_seq true (e_var 0)) (t_name 2) t_yes (e_call Lb.m_is_name (a_cons (e_var 2) a_nil))) a_nil)) (e_op2 d_eq5 (e_op1 d_lenset (e_var 0)) (e_cb (d_1 d_len5) (a_cons (e_var 0) a_nil))))))
noncomputable def m_are_names : List D → Sg → Out D := Gd.fn 3 b_are_names 2
noncomputable def b_Rule___init__ : MS := (s_seq (s_if (t_and (t_e (e_op2 d_notN (e_var 1) (e_c .non))) (t_not (t_e (e_call Lb.m_is_name (a_cons (e_var 1) a_nil))))) s_never s_nx)
  (s_seq (s_if (t_or (t_not (t_e (e_call Lb.m_are_names (a_cons (e_var 2) (a_cons (e_c (.int 6)) a_nil))))) (t_not (t_e (e_call Lb.m_are_names (a_cons (e_var 3) (a_cons (e_c (.int 4)) a_nil)))))) s_never s_nx)
  (s_seq (s_fld ["Rule"] "head" (e_var 1) (e_var 0))
  (s_seq (s_fld ["Rule"] "body" (e_cb (d_1 d_tuple) (a_cons (e_var 2) a_nil)) (e_var 0))
  (s_fld ["Rule"] "unless" (e_cb (d_1 d_tuple) (a_cons (e_var 3) a_nil)) (e_var 0))))))
noncomputable def m_Rule___init__ : List D → Sg → Out D := Gd.fn 4 b_Rule___init__ 4
noncomputable def b_Rule_names : MS := (s_seq (s_set 1 (e_if (t_e (e_op2 d_isN (e_op1 (d_fld ["Rule"] "head") (e_var 0)) (e_c .non))) (f_lst a_nil) (f_lst (a_cons (e_op1 (d_fld ["Rule"] "head") (e_var 0)) a_nil))))
  (s_ret (e_op2 d_add4 (e_var 1) (e_cb (d_1 d_list) (a_cons (e_op2 d_add4 (e_op1 (d_fld ["Rule"] "body") (e_var 0)) (e_op1 (d_fld ["Rule"] "unless") (e_var 0))) a_nil)))))
noncomputable def m_Rule_names : List D → Sg → Out D := Gd.fn 2 b_Rule_names 1
noncomputable def b_names_of : MS := (s_ret (f_dc2 [1, 2] (j_seq true (e_var 0)) (t_name 1) t_yes (j_seq false (e_meth "Rule" "names" Lb.m_Rule_names (e_var 1) a_nil)) (t_name 2) t_yes (e_var 2) (e_c (.bl true)) [2]))
noncomputable def m_names_of : List D → Sg → Out D := Gd.fn 3 b_names_of 1
noncomputable def b_is_base : MS := (s_seq (s_if (t_or (t_not (t_e (e_op1 (d_isiN ["list", "tuple"]) (e_var 0)))) (t_e (e_op2 d_gt (e_cb (d_1 d_len5) (a_cons (e_var 0) a_nil)) (e_c (.int 40))))) (s_ret (e_c (.bl false))) s_nx)
  (s_ret (e_and (e_cb (d_1 d_all) (a_cons (f_lcG [1] (j_seq true (e_var 0)) (t_name 1) t_yes (e_op1 (d_isC [("NoneType", false), ("bool", false), ("int", false), ("str", false), ("list", false), ("tuple", false), ("dict", false)] [("Rule", true)]) (e_var 1))) a_nil)) (e_op2 d_le (e_cb (d_1 d_len5) (a_cons (e_call Lb.m_names_of (a_cons (e_var 0) a_nil)) a_nil)) (e_c (.int 24))))))
noncomputable def m_is_base : List D → Sg → Out D := Gd.fn 2 b_is_base 1
noncomputable def b_need_base : MS := (s_if (t_not (t_e (e_call Lb.m_is_base (a_cons (e_var 0) a_nil)))) s_never s_nx)
noncomputable def m_need_base : List D → Sg → Out D := Gd.fn 1 b_need_base 1
noncomputable def b_need_names : MS := (s_if (t_not (t_e (e_call Lb.m_are_names (a_cons (e_var 0) (a_cons (e_var 1) a_nil))))) s_never s_nx)
noncomputable def m_need_names : List D → Sg → Out D := Gd.fn 2 b_need_names 2
noncomputable def b_Rule_told : MS := (s_ret (e_tup (a_cons (e_c (.str "rule")) (a_cons (e_op1 (d_fld ["Rule"] "head") (e_var 0)) (a_cons (e_op1 (d_fld ["Rule"] "body") (e_var 0)) (a_cons (e_op1 (d_fld ["Rule"] "unless") (e_var 0)) a_nil))))))
noncomputable def m_Rule_told : List D → Sg → Out D := Gd.fn 1 b_Rule_told 1
noncomputable def b_Rule___eq__ : MS := (s_ret (e_and (e_op1 (d_isC [("NoneType", false), ("bool", false), ("int", false), ("str", false), ("list", false), ("tuple", false), ("dict", false)] [("Rule", true)]) (e_var 1)) (e_op2 d_eq5 (e_meth "Rule" "told" Lb.m_Rule_told (e_var 0) a_nil) (e_meth "Rule" "told" Lb.m_Rule_told (e_var 1) a_nil))))
noncomputable def m_Rule___eq__ : List D → Sg → Out D := Gd.fn 2 b_Rule___eq__ 2
end Lb

namespace Lb
open PySem L2 Gd PyProof.Rows
noncomputable def b_reduct : MS := (s_seq (s_do (e_call Lb.m_need_base (a_cons (e_var 0) a_nil)))
  (s_seq (s_do (e_callK Lb.m_need_names (fun ds es => (ds ++ ((([(.int 24)] : List D)[0]?).toList ++ []))) (a_cons (e_var 1) a_nil) a_nil))
  (s_ret (e_sh (f_lcG [2] (j_seq true (e_var 0)) (t_name 2) (t_not (t_e (e_cb (d_1 d_any) (a_cons (f_lcG [3] (j_seq true (e_op1 (d_fld ["Rule"] "unless") (e_var 2))) (t_name 3) t_yes (e_op2 (d_in5 false) (e_var 3) (e_var 1))) a_nil)))) (e_mkF "Rule" Lb.m_Rule___init__ (fun ds es => (ds ++ ((([.tup []] : List D)[0]?).toList ++ []))) (a_cons (e_op1 (d_fld ["Rule"] "head") (e_var 2)) (a_cons (e_op1 (d_fld ["Rule"] "body") (e_var 2)) a_nil)) a_nil))))))
noncomputable def m_reduct : List D → Sg → Out D := Gd.fn 4 b_reduct 2
end Lb

namespace Lb
open PySem L2 Gd PyProof.Rows
noncomputable def b__law_begun_1 : MS := (s_ret (e_sh (f_disp [((e_c (.str "cells")), (e_var 0)), ((e_c (.str "at")), (e_c (.int 0))), ((e_c (.str "rest")), (e_c (.int 0))), ((e_c (.str "turn")), (e_c (.int 0))), ((e_c (.str "more")), (e_c (.int 17)))])))
noncomputable def m__law_begun_1 : List D → Sg → Out D := Gd.fn 1 b__law_begun_1 1
noncomputable def b__law_take_1 : MS := (s_seq (s_set 2 (e_op2 d_ix5 (e_var 0) (e_c (.str "cells"))))
  (s_seq (s_wh (t_and (t_e (e_op2 d_lt (e_op2 d_ix5 (e_var 0) (e_c (.str "rest"))) (e_c (.int 2)))) (t_e (e_op2 d_lt (e_op2 d_ix5 (e_var 0) (e_c (.str "at"))) (e_cb (d_1 d_len5) (a_cons (e_var 2) a_nil))))) (s_seq (s_if (t_e (e_op2 d_ge (e_op2 d_ix5 (e_var 2) (e_op2 d_ix5 (e_var 0) (e_c (.str "at")))) (e_op2 d_pow (e_c (.int 10)) (e_c (.int 18))))) (s_seti (e_op2 d_ix5 (e_var 2) (e_op2 d_ix5 (e_var 0) (e_c (.str "at")))) (e_var 0) (e_c (.str "rest"))) s_nx)
  (s_seti (e_op2 d_add4 (e_op2 d_ix5 (e_var 0) (e_c (.str "at"))) (e_c (.int 1))) (e_var 0) (e_c (.str "at")))) 100000)
  (s_seq (s_if (t_e (e_op2 d_gt (e_op2 d_ix5 (e_var 0) (e_c (.str "rest"))) (e_c (.int 1)))) (s_seq (s_set 3 (e_op2 d_mod (e_op2 d_ix5 (e_var 0) (e_c (.str "rest"))) (e_var 1)))
  (s_seq (s_seti (e_op2 d_fdiv (e_op2 d_ix5 (e_var 0) (e_c (.str "rest"))) (e_var 1)) (e_var 0) (e_c (.str "rest")))
  (s_ret (e_var 3)))) s_nx)
  (s_seq (s_set 4 (e_c (.int 0)))
  (s_seq (s_if (t_e (e_op2 d_gt (e_cb (d_1 d_len5) (a_cons (e_var 2) a_nil)) (e_c (.int 0)))) (s_set 4 (e_op2 d_ix5 (e_var 2) (e_op2 d_mod (e_op2 d_ix5 (e_var 0) (e_c (.str "turn"))) (e_cb (d_1 d_len5) (a_cons (e_var 2) a_nil))))) s_nx)
  (s_seq (s_seti (e_op2 d_add4 (e_op2 d_ix5 (e_var 0) (e_c (.str "turn"))) (e_c (.int 1))) (e_var 0) (e_c (.str "turn")))
  (s_seq (s_seti (e_op2 d_mod (e_op2 d_add4 (e_op2 d_add4 (e_op2 d_mul (e_op2 d_ix5 (e_var 0) (e_c (.str "more"))) (e_c (.int 48271))) (e_var 4)) (e_op2 d_ix5 (e_var 0) (e_c (.str "turn")))) (e_c (.int 2147483647))) (e_var 0) (e_c (.str "more")))
  (s_ret (e_op2 d_mod (e_op2 d_mod (e_op2 d_add4 (e_op2 d_mul (e_op2 d_ix5 (e_var 0) (e_c (.str "more"))) (e_op2 d_ix5 (e_var 0) (e_c (.str "more")))) (e_op2 d_mul (e_c (.int 16807)) (e_op2 d_ix5 (e_var 0) (e_c (.str "more"))))) (e_c (.int 2147483629))) (e_var 1))))))))))
noncomputable def m__law_take_1 : List D → Sg → Out D := Gd.fn 5 b__law_take_1 2
noncomputable def b__law_kept : MS := (s_ret (e_sh (f_lst (a_cons (e_c (.str "not")) (a_cons (e_c (.str "never")) (a_cons (e_c (.str "may")) a_nil))))))
noncomputable def m__law_kept : List D → Sg → Out D := Gd.fn 0 b__law_kept 0
noncomputable def b__law_name : MS := (s_seq (s_set 2 (e_c (.str "abcdefghijklmnopqrstuvwxyz")))
  (s_seq (s_set 3 (f_lst (a_cons (e_c (.str "lot")) (a_cons (e_c (.str "held")) (a_cons (e_c (.str "back")) (a_cons (e_c (.str "by")) (a_cons (e_c (.str "in")) (a_cons (e_c (.str "all")) (a_cons (e_c (.str "some")) (a_cons (e_c (.str "none")) (a_cons (e_c (.str "rule")) (a_cons (e_c (.str "rank")) (a_cons (e_c (.str "told")) (a_cons (e_c (.str "with")) (a_cons (e_c (.str "tell")) (a_cons (e_c (.str "drop")) a_nil))))))))))))))))
  (s_seq (s_set 3 (e_op2 d_add4 (e_var 3) (f_lst (a_cons (e_c (.str "label")) (a_cons (e_c (.str "rules")) (a_cons (e_c (.str "why")) (a_cons (e_c (.str "or")) (a_cons (e_c (.str "and")) (a_cons (e_c (.str "clash")) (a_cons (e_c (.str "set")) (a_cons (e_c (.str "sound")) (a_cons (e_c (.str "head")) (a_cons (e_c (.str "body")) (a_cons (e_c (.str "unless")) (a_cons (e_c (.str "names")) a_nil)))))))))))))))
  (s_seq (s_set 4 (e_call Lb.m__law_take_1 (a_cons (e_var 0) (a_cons (e_c (.int 5)) a_nil))))
  (s_seq (s_set 5 (e_op2 d_ix5 (e_var 2) (e_call Lb.m__law_take_1 (a_cons (e_var 0) (a_cons (e_c (.int 26)) a_nil)))))
  (s_seq (s_if (t_e (e_op2 d_eq5 (e_var 4) (e_c (.int 0)))) (s_set 5 (e_op2 d_ix5 (e_var 3) (e_call Lb.m__law_take_1 (a_cons (e_var 0) (a_cons (e_cb (d_1 d_len5) (a_cons (e_var 3) a_nil)) a_nil))))) (s_if (t_e (e_op2 d_eq5 (e_var 4) (e_c (.int 1)))) (s_seq (s_set 5 (e_op2 d_ix5 (e_var 1) (e_call Lb.m__law_take_1 (a_cons (e_var 0) (a_cons (e_cb (d_1 d_len5) (a_cons (e_var 1) a_nil)) a_nil)))))
  (s_seq (s_set 6 (e_call Lb.m__law_take_1 (a_cons (e_var 0) (a_cons (e_cb (d_1 d_len5) (a_cons (e_var 5) a_nil)) a_nil))))
  (s_set 5 (e_op2 d_add4 (e_op2 d_add4 (e_sl d_sl3 (e_var 5) o_no (o_e (e_var 6))) (e_op2 d_ix5 (e_var 2) (e_call Lb.m__law_take_1 (a_cons (e_var 0) (a_cons (e_c (.int 26)) a_nil))))) (e_sl d_sl3 (e_var 5) (o_e (e_op2 d_add4 (e_var 6) (e_call Lb.m__law_take_1 (a_cons (e_var 0) (a_cons (e_c (.int 2)) a_nil))))) o_no))))) (s_forG (j_rng (a_cons (e_call Lb.m__law_take_1 (a_cons (e_var 0) (a_cons (e_c (.int 8)) a_nil))) a_nil)) (t_name 7) (s_set 5 (e_op2 d_add4 (e_var 5) (e_op2 d_ix5 (e_var 2) (e_call Lb.m__law_take_1 (a_cons (e_var 0) (a_cons (e_c (.int 26)) a_nil)))))))))
  (s_seq (s_if (t_or (t_e (e_op2 (d_in5 false) (e_var 5) (e_var 1))) (t_e (e_op2 d_gt (e_cb (d_1 d_len5) (a_cons (e_var 5) a_nil)) (e_c (.int 8))))) (s_seq (s_set 8 (f_lcG [7] (j_rng (a_cons (e_op2 d_add4 (e_cb (d_1 d_len5) (a_cons (e_var 1) a_nil)) (e_c (.int 1))) a_nil)) (t_name 7) t_yes (e_op2 d_add4 (e_op2 d_add4 (e_sl d_sl3 (e_var 5) o_no (o_e (e_c (.int 6)))) (e_op2 d_ix5 (e_var 2) (e_op2 d_fdiv (e_var 7) (e_c (.int 26))))) (e_op2 d_ix5 (e_var 2) (e_op2 d_mod (e_var 7) (e_c (.int 26)))))))
  (s_set 5 (e_op2 d_ix5 (f_lcG [9] (j_seq true (e_var 8)) (t_name 9) (t_e (e_op2 (d_in5 true) (e_var 9) (e_var 1))) (e_var 9)) (e_c (.int 0))))) s_nx)
  (s_seq (s_app (e_var 1) (e_var 5))
  (s_ret (e_var 5))))))))))
noncomputable def m__law_name : List D → Sg → Out D := Gd.fn 10 b__law_name 2
noncomputable def b__law_names_1 : MS := (s_ret (f_lcG [3] (j_rng (a_cons (e_var 2) a_nil)) (t_name 3) t_yes (e_call Lb.m__law_name (a_cons (e_var 0) (a_cons (e_var 1) a_nil)))))
noncomputable def m__law_names_1 : List D → Sg → Out D := Gd.fn 4 b__law_names_1 3
noncomputable def b__law_pair : MS := (s_seq (s_set 2 (e_op2 d_ix5 (f_lst (a_cons (e_c (.int 0)) (a_cons (e_c (.int 1)) (a_cons (e_c (.int 1)) (a_cons (e_c (.int 1)) (a_cons (e_c (.int 2)) (a_cons (e_c (.int 2)) (a_cons (e_c (.int 3)) (a_cons (e_call Lb.m__law_take_1 (a_cons (e_var 0) (a_cons (e_c (.int 7)) a_nil))) a_nil))))))))) (e_call Lb.m__law_take_1 (a_cons (e_var 0) (a_cons (e_c (.int 8)) a_nil)))))
  (s_seq (s_set 3 (e_sh (e_cb (d_1 d_list) (a_cons (e_var 1) a_nil))))
  (s_seq (s_own 4 (f_lst a_nil))
  (s_seq (s_forG (j_rng (a_cons (e_cb d_min (a_cons (e_var 2) (a_cons (e_cb (d_1 d_len5) (a_cons (e_var 3) a_nil)) a_nil))) a_nil)) (t_name 5) (s_app (e_var 4) (e_pop (e_var 3) (e_call Lb.m__law_take_1 (a_cons (e_var 0) (a_cons (e_cb (d_1 d_len5) (a_cons (e_var 3) a_nil)) a_nil))))))
  (s_seq (s_if (t_e (e_op2 d_eq5 (e_call Lb.m__law_take_1 (a_cons (e_var 0) (a_cons (e_c (.int 6)) a_nil))) (e_c (.int 0)))) (s_ret (e_tup (a_cons (e_c .non) (a_cons (e_cb (d_1 d_tuple) (a_cons (e_var 4) a_nil)) a_nil)))) s_nx)
  (s_ret (e_tup (a_cons (e_op2 d_ix5 (e_var 1) (e_call Lb.m__law_take_1 (a_cons (e_var 0) (a_cons (e_cb (d_1 d_len5) (a_cons (e_var 1) a_nil)) a_nil)))) (a_cons (e_cb (d_1 d_tuple) (a_cons (e_var 4) a_nil)) a_nil)))))))))
noncomputable def m__law_pair : List D → Sg → Out D := Gd.fn 6 b__law_pair 2
noncomputable def b__law_pairs : MS := (s_ret (f_lcG [3] (j_rng (a_cons (e_call Lb.m__law_take_1 (a_cons (e_var 0) (a_cons (e_op2 d_add4 (e_var 2) (e_c (.int 1))) a_nil))) a_nil)) (t_name 3) t_yes (e_call Lb.m__law_pair (a_cons (e_var 0) (a_cons (e_var 1) a_nil)))))
noncomputable def m__law_pairs : List D → Sg → Out D := Gd.fn 4 b__law_pairs 3
noncomputable def b__law_some_1 : MS := (s_seq (s_set 2 (e_sh (e_cb (d_1 d_list) (a_cons (e_var 1) a_nil))))
  (s_ret (f_lcG [3] (j_rng (a_cons (e_call Lb.m__law_take_1 (a_cons (e_var 0) (a_cons (e_op2 d_add4 (e_cb (d_1 d_len5) (a_cons (e_var 2) a_nil)) (e_c (.int 1))) a_nil))) a_nil)) (t_name 3) t_yes (e_pop (e_var 2) (e_call Lb.m__law_take_1 (a_cons (e_var 0) (a_cons (e_cb (d_1 d_len5) (a_cons (e_var 2) a_nil)) a_nil)))))))
noncomputable def m__law_some_1 : List D → Sg → Out D := Gd.fn 4 b__law_some_1 2
end Lb

namespace Lb
open PySem L2 Gd PyProof.Rows
noncomputable def b_need_plain : MS := (s_seq (s_do (e_call Lb.m_need_base (a_cons (e_var 0) a_nil)))
  (s_if (t_e (e_cb (d_1 d_any) (a_cons (f_lcG [1] (j_seq true (e_var 0)) (t_name 1) t_yes (e_op2 d_ne5 (e_op1 (d_fld ["Rule"] "unless") (e_var 1)) (e_tup a_nil))) a_nil))) s_never s_nx))
noncomputable def m_need_plain : List D → Sg → Out D := Gd.fn 2 b_need_plain 1
noncomputable def b_are_together : MS := (s_ret (e_op2 d_le (e_or2 lenU (e_call Lb.m_names_of (a_cons (e_var 0) a_nil)) (e_var 1)) (e_c (.int 24))))
noncomputable def m_are_together : List D → Sg → Out D := Gd.fn 2 b_are_together 2
noncomputable def b_need_grounds : MS := (s_seq (s_do (e_call Lb.m_need_plain (a_cons (e_var 0) a_nil)))
  (s_seq (s_do (e_callK Lb.m_need_names (fun ds es => (ds ++ ((es[0]?).toList ++ []))) (a_cons (e_var 1) a_nil) (a_cons (e_var 2) a_nil)))
  (s_if (t_not (t_e (e_call Lb.m_are_together (a_cons (e_var 0) (a_cons (e_var 1) a_nil))))) s_never s_nx)))
noncomputable def m_need_grounds : List D → Sg → Out D := Gd.fn 3 b_need_grounds 3
noncomputable def b_stands : MS := (s_ret (e_cb (d_1 d_all) (a_cons (f_lcG [2] (j_seq true (e_op1 (d_fld ["Rule"] "body") (e_var 0))) (t_name 2) t_yes (e_op2 (d_in5 false) (e_var 2) (e_var 1))) a_nil)))
noncomputable def m_stands : List D → Sg → Out D := Gd.fn 3 b_stands 2
noncomputable def b_rounds : MS := (s_seq (s_set 3 (e_sh (f_dcG [2] (j_seq true (e_var 1)) (t_name 2) t_yes (e_var 2) (e_c (.int 0)))))
  (s_seq (s_set 4 (e_sh (f_disp [])))
  (s_seq (s_own 5 f_none1)
  (s_seq (s_set 6 (e_c (.int 0)))
  (s_seq (s_wh (t_e (e_op2 d_ne5 (e_var 5) (f_disp []))) (s_seq (s_own 5 (f_disp []))
  (s_seq (s_aug 6 d_addI (e_c (.int 1)))
  (s_seq (s_forG (j_enum false (e_var 0)) (t_tup [(t_name 7), (t_name 8)]) (s_if (t_and (t_e (e_op2 d_notN (e_op1 (d_fld ["Rule"] "head") (e_var 8)) (e_c .non))) (t_and (t_e (e_op2 (d_in5 true) (e_op1 (d_fld ["Rule"] "head") (e_var 8)) (e_var 3))) (t_and (t_e (e_op2 (d_in5 true) (e_op1 (d_fld ["Rule"] "head") (e_var 8)) (e_var 5))) (t_e (e_call Lb.m_stands (a_cons (e_var 8) (a_cons (e_var 3) a_nil))))))) (s_seti (e_var 7) (e_var 5) (e_op1 (d_fld ["Rule"] "head") (e_var 8))) s_nx))
  (s_frz 5 (s_forG (j_items (e_var 5)) (t_tup [(t_name 2), (t_name 7)]) (s_seq (s_seti (e_var 6) (e_var 3) (e_var 2))
  (s_seti (e_var 7) (e_var 4) (e_var 2)))))))) 100000)
  (s_ret (e_tup (a_cons (e_var 3) (a_cons (e_var 4) a_nil)))))))))
noncomputable def m_rounds : List D → Sg → Out D := Gd.fn 9 b_rounds 2
noncomputable def b_levels : MS := (s_seq (s_do (e_callK Lb.m_need_grounds (fun ds es => (ds ++ ((([(.int 24)] : List D)[0]?).toList ++ []))) (a_cons (e_var 0) (a_cons (e_var 1) a_nil)) a_nil))
  (s_seq (s_set 2 (e_op2 d_ix5 (e_call Lb.m_rounds (a_cons (e_var 0) (a_cons (e_var 1) a_nil))) (e_c (.int 0))))
  (s_ret (e_lk (f_dcG [3] (j_seq true (e_cb (d_1 d_sort) (a_cons (e_var 2) a_nil))) (t_name 3) t_yes (e_var 3) (e_op2 d_ix5 (e_var 2) (e_var 3)))))))
noncomputable def m_levels : List D → Sg → Out D := Gd.fn 4 b_levels 2
end Lb

namespace Lb
open PySem L2 Gd PyProof.Rows
noncomputable def b__law_begun : MS := (s_seq (s_set 1 (e_sh (f_lcG [2] (j_seq true (e_var 0)) (t_name 2) (t_e (e_op2 d_ge (e_var 2) (e_op2 d_pow (e_c (.int 10)) (e_c (.int 18))))) (e_op2 d_sub (e_var 2) (e_op2 d_pow (e_c (.int 10)) (e_c (.int 18)))))))
  (s_ret (e_sh (f_disp [((e_c (.str "great")), (e_var 1)), ((e_c (.str "cells")), (e_cb (d_1 d_list) (a_cons (e_var 0) a_nil))), ((e_c (.str "rest")), (e_c (.int 0))), ((e_c (.str "turn")), (e_c (.int 0)))]))))
noncomputable def m__law_begun : List D → Sg → Out D := Gd.fn 3 b__law_begun 1
noncomputable def b__law_mixed : MS := (s_seq (s_set 1 (e_op2 d_add4 (e_op2 d_ix5 (e_var 0) (e_c (.str "turn"))) (e_c (.int 1))))
  (s_seq (s_seti (e_var 1) (e_var 0) (e_c (.str "turn")))
  (s_seq (s_set 2 (e_c (.int 0)))
  (s_seq (s_forG (j_seq false (f_lst (a_cons (e_c (.int 2147483629)) (a_cons (e_c (.int 2147483587)) (a_cons (e_c (.int 2147483579)) (a_cons (e_c (.int 2147483563)) (a_cons (e_c (.int 2147483549)) (a_cons (e_c (.int 2147483543)) a_nil)))))))) (t_name 3) (s_seq (s_set 4 (e_op2 d_add4 (e_op2 d_mul (e_c (.int 104729)) (e_var 1)) (e_op2 d_fdiv (e_var 3) (e_c (.int 7)))))
  (s_seq (s_forG (j_seq false (e_op2 d_ix5 (e_var 0) (e_c (.str "cells")))) (t_name 5) (s_set 4 (e_op2 d_mod (e_op2 d_add4 (e_op2 d_mul (e_var 4) (e_c (.int 48271))) (e_var 5)) (e_var 3))))
  (s_set 2 (e_op2 d_add4 (e_op2 d_mul (e_var 2) (e_c (.int 2147483647))) (e_op2 d_mod (e_op2 d_mul (e_var 4) (e_var 4)) (e_var 3)))))))
  (s_ret (e_var 2))))))
noncomputable def m__law_mixed : List D → Sg → Out D := Gd.fn 6 b__law_mixed 1
noncomputable def b__law_take : MS := (s_seq (s_if (t_and (t_e (e_op2 d_eq5 (e_op2 d_ix5 (e_var 0) (e_c (.str "rest"))) (e_c (.int 0)))) (t_e (e_op2 d_ne5 (e_op2 d_ix5 (e_var 0) (e_c (.str "great"))) (f_lst a_nil)))) (s_seti (e_pop (e_op2 d_ix5 (e_var 0) (e_c (.str "great"))) (e_c (.int 0))) (e_var 0) (e_c (.str "rest"))) (s_if (t_e (e_op2 d_eq5 (e_op2 d_ix5 (e_var 0) (e_c (.str "rest"))) (e_c (.int 0)))) (s_seti (e_call Lb.m__law_mixed (a_cons (e_var 0) a_nil)) (e_var 0) (e_c (.str "rest"))) s_nx))
  (s_seq (s_set 2 (e_op2 d_mod (e_op2 d_ix5 (e_var 0) (e_c (.str "rest"))) (e_var 1)))
  (s_seq (s_seti (e_op2 d_fdiv (e_op2 d_ix5 (e_var 0) (e_c (.str "rest"))) (e_var 1)) (e_var 0) (e_c (.str "rest")))
  (s_ret (e_var 2)))))
noncomputable def m__law_take : List D → Sg → Out D := Gd.fn 3 b__law_take 2
noncomputable def b__law_pick : MS := (s_ret (e_op2 d_ix5 (e_var 1) (e_call Lb.m__law_take (a_cons (e_var 0) (a_cons (e_cb (d_1 d_len5) (a_cons (e_var 1) a_nil)) a_nil)))))
noncomputable def m__law_pick : List D → Sg → Out D := Gd.fn 2 b__law_pick 2
noncomputable def b__law_names : MS := (s_seq (s_set 2 (e_c (.str "abcdefghijklmnopqrstuvwxyz")))
  (s_seq (s_set 3 (f_lst (a_cons (e_c (.str "held")) (a_cons (e_c (.str "lot")) (a_cons (e_c (.str "back")) (a_cons (e_c (.str "by")) (a_cons (e_c (.str "in")) (a_cons (e_c (.str "all")) (a_cons (e_c (.str "some")) (a_cons (e_c (.str "none")) (a_cons (e_c (.str "rule")) (a_cons (e_c (.str "rank")) (a_cons (e_c (.str "told")) (a_cons (e_c (.str "with")) (a_cons (e_c (.str "sure")) (a_cons (e_c (.str "no")) (a_cons (e_c (.str "ma")) a_nil)))))))))))))))))
  (s_seq (s_own 4 (f_lst a_nil))
  (s_seq (s_forG (j_rng (a_cons (e_var 1) a_nil)) (t_name 5) (s_seq (s_set 6 (e_op2 d_ix5 (e_var 3) (e_call Lb.m__law_take (a_cons (e_var 0) (a_cons (e_cb (d_1 d_len5) (a_cons (e_var 3) a_nil)) a_nil)))))
  (s_seq (s_if (t_e (e_op2 d_gt (e_call Lb.m__law_take (a_cons (e_var 0) (a_cons (e_c (.int 3)) a_nil))) (e_c (.int 0)))) (s_set 6 (e_m1 d_join (e_c (.str "")) (f_lcG [8] (j_rng (a_cons (e_op2 d_add4 (e_c (.int 1)) (e_call Lb.m__law_take (a_cons (e_var 0) (a_cons (e_c (.int 8)) a_nil)))) a_nil)) (t_name 8) t_yes (e_call Lb.m__law_pick (a_cons (e_var 0) (a_cons (e_var 2) a_nil)))))) s_nx)
  (s_seq (s_set 7 (e_op2 d_add4 (f_lst (a_cons (e_var 6) a_nil)) (f_lcG [9] (j_seq true (e_var 2)) (t_name 9) t_yes (e_op2 d_add4 (e_sl d_sl3 (e_var 6) o_no (o_e (e_c (.int 7)))) (e_var 9)))))
  (s_app (e_var 4) (e_op2 d_ix5 (f_lcG [10] (j_seq true (e_var 7)) (t_name 10) (t_e (e_op2 (d_in5 true) (e_var 10) (e_op2 d_add4 (e_var 4) (f_lst (a_cons (e_c (.str "not")) (a_cons (e_c (.str "never")) (a_cons (e_c (.str "may")) a_nil))))))) (e_var 10)) (e_c (.int 0))))))))
  (s_ret (e_var 4))))))
noncomputable def m__law_names : List D → Sg → Out D := Gd.fn 11 b__law_names 2
end Lb

namespace Lb
open PySem L2 Gd PyProof.Rows
noncomputable def b__law_some : MS := (s_seq (s_set 3 (e_sh (e_cb (d_1 d_list) (a_cons (e_var 1) a_nil))))
  (s_ret (e_cb (d_1 d_tuple) (a_cons (f_lcG [4] (j_rng (a_cons (e_cb d_min (a_cons (e_cb (d_1 d_len5) (a_cons (e_var 3) a_nil)) (a_cons (e_call Lb.m__law_take (a_cons (e_var 0) (a_cons (e_op2 d_add4 (e_var 2) (e_c (.int 1))) a_nil))) a_nil))) a_nil)) (t_name 4) t_yes (e_pop (e_var 3) (e_call Lb.m__law_take (a_cons (e_var 0) (a_cons (e_cb (d_1 d_len5) (a_cons (e_var 3) a_nil)) a_nil))))) a_nil))))
noncomputable def m__law_some : List D → Sg → Out D := Gd.fn 5 b__law_some 3
noncomputable def b__law_rows : MS := (s_seq (s_own 3 (f_lst a_nil))
  (s_seq (s_set 4 (e_op2 d_eq5 (e_call Lb.m__law_take (a_cons (e_var 0) (a_cons (e_c (.int 8)) a_nil))) (e_c (.int 0))))
  (s_seq (s_set 5 (e_sl d_sl3 (e_var 1) o_no (o_e (e_op2 d_add4 (e_c (.int 1)) (e_call Lb.m__law_take (a_cons (e_var 0) (a_cons (e_cb (d_1 d_len5) (a_cons (e_var 1) a_nil)) a_nil)))))))
  (s_seq (s_set 6 (e_if (t_e (e_var 4)) (e_c (.int 4)) (e_op2 d_add4 (e_c (.int 1)) (e_call Lb.m__law_take (a_cons (e_var 0) (a_cons (e_c (.int 3)) a_nil))))))
  (s_seq (s_set 7 (f_lst (a_cons (e_c (.int 0)) (a_cons (e_c (.int 1)) (a_cons (e_c (.int 2)) (a_cons (e_if (t_e (e_var 4)) (e_c (.int 6)) (e_c (.int 2))) a_nil))))))
  (s_seq (s_forG (j_rng (a_cons (e_var 2) a_nil)) (t_name 8) (s_seq (s_set 9 (e_if (t_e (e_op2 d_eq5 (e_call Lb.m__law_take (a_cons (e_var 0) (a_cons (e_c (.int 8)) a_nil))) (e_c (.int 7)))) (e_c .non) (e_call Lb.m__law_pick (a_cons (e_var 0) (a_cons (e_var 1) a_nil)))))
  (s_app (e_var 3) (e_tup (a_cons (e_var 9) (a_cons (e_call Lb.m__law_some (a_cons (e_var 0) (a_cons (e_var 1) (a_cons (e_op2 d_ix5 (e_var 7) (e_call Lb.m__law_take (a_cons (e_var 0) (a_cons (e_c (.int 4)) a_nil)))) a_nil)))) (a_cons (e_call Lb.m__law_some (a_cons (e_var 0) (a_cons (e_var 5) (a_cons (e_var 6) a_nil)))) a_nil)))))))
  (s_ret (e_var 3))))))))
noncomputable def m__law_rows : List D → Sg → Out D := Gd.fn 10 b__law_rows 3
noncomputable def b__law_made : MS := (s_ret (f_lcG [1, 2, 3] (j_seq true (e_var 0)) (t_tup [(t_name 1), (t_name 2), (t_name 3)]) t_yes (e_mkF "Rule" Lb.m_Rule___init__ (fun ds es => (ds ++ ((es[0]?).toList ++ []))) (a_cons (e_var 1) (a_cons (e_cb (d_1 d_list) (a_cons (e_var 2) a_nil)) a_nil)) (a_cons (e_var 3) a_nil))))
noncomputable def m__law_made : List D → Sg → Out D := Gd.fn 4 b__law_made 1
end Lb

/-! Gm, part 1: what a mirror answers, read forwards. No program in sight. -/
namespace Gd
open PySem L2 PyProof.Rows

def Out.W {α : Type} (o : Out α) (Q : α → Sg → Prop) : Prop := match o with
  | .ok a S => Q a S
  | _ => False
theorem iteF_and {c : Prop} [Decidable c] {q : Prop} : (if c then q else False) = (c ∧ q) := by
  by_cases h : c
  · rw [if_pos h]; exact propext ⟨fun q => ⟨h, q⟩, fun q => q.2⟩
  · rw [if_neg h]; exact propext ⟨fun q => q.elim, fun q => (h q.1).elim⟩
@[simp] theorem ex_pe {β : Type} {c : Prop} {a : β} {q : β → Prop} : (∃ z, (c ∧ a = z) ∧ q z) = (c ∧ q a) := propext ⟨fun ⟨_, ⟨h, e⟩, k⟩ => by subst e; exact ⟨h, k⟩, fun ⟨h, k⟩ => ⟨_, ⟨h, rfl⟩, k⟩⟩
/-- statements: what goes on, what is returned -/
def OS.W (o : OS) (nx : Ro → Sg → Prop) (rt : D → Sg → Prop) : Prop := match o with
  | .nx ρ S => nx ρ S
  | .rt d S => rt d S
  | _ => False
theorem Out.W.mono {α : Type} {o : Out α} {Q Q' : α → Sg → Prop} (h : o.W Q) (k : ∀ a S, Q a S → Q' a S) : o.W Q' := by
  cases o with
  | ok a S => exact k _ _ h
  | er x fs S => exact h.elim
  | no => exact h.elim
theorem OS.W.mono {o : OS} {nx nx' : Ro → Sg → Prop} {rt rt' : D → Sg → Prop} (h : o.W nx rt) (k : ∀ a S, nx a S → nx' a S) (k' : ∀ a S, rt a S → rt' a S) : o.W nx' rt' := by
  cases o with
  | nx a S => exact k _ _ h
  | rt a S => exact k' _ _ h
  | _ => exact h.elim
theorem Out.W.eq {α : Type} {o : Out α} {Q : α → Sg → Prop} (h : o.W Q) : ∃ a S, o = .ok a S ∧ Q a S := by
  cases o with
  | ok a S => exact ⟨a, S, rfl, h⟩
  | er x fs S => exact h.elim
  | no => exact h.elim
section
variable {α β : Type} {ρ : Ro} {S : Sg} {Q : D → Sg → Prop} {nx : Ro → Sg → Prop} {rt : D → Sg → Prop}
@[simp] theorem W_ok (a : α) (S : Sg) (Q : α → Sg → Prop) : (Out.ok a S).W Q = Q a S := rfl
@[simp] theorem W_no (Q : α → Sg → Prop) : (Out.no).W Q = False := rfl
@[simp] theorem W_bind (o : Out α) (f : α → Sg → Out β) (Q : β → Sg → Prop) : (o.bind f).W Q = o.W fun a S => (f a S).W Q := by cases o <;> rfl
@[simp] theorem W_liftO (o : Option D) : (liftO S o).W Q = ∃ z, o = some z ∧ Q z S := by
  cases o with
  | none => exact propext ⟨fun h => h.elim, fun ⟨_, h, _⟩ => nomatch h⟩
  | some z => exact propext ⟨fun h => ⟨z, rfl, h⟩, fun ⟨_, h, q⟩ => by cases h; exact q⟩
@[simp] theorem W_liftI (o : Option (List D)) (Q : List D → Sg → Prop) : (liftI S o).W Q = ∃ z, o = some z ∧ Q z S := by
  cases o with
  | none => exact propext ⟨fun h => h.elim, fun ⟨_, h, _⟩ => nomatch h⟩
  | some z => exact propext ⟨fun h => ⟨z, rfl, h⟩, fun ⟨_, h, q⟩ => by cases h; exact q⟩
@[simp] theorem W_liftB (b : Bool) (Q : Bool → Sg → Prop) : (liftB S (.bl b)).W Q = Q b S := rfl
@[simp] theorem W_ite {c : Prop} [Decidable c] (a b : Out α) (Q : α → Sg → Prop) : (if c then a else b).W Q = if c then a.W Q else b.W Q := by split <;> rfl
@[simp] theorem W_c (d : D) : (e_c d ρ S).W Q = Q d S := rfl
@[simp] theorem W_op1 (f : D → Option D) (a : ME) : (e_op1 f a ρ S).W Q = (a ρ S).W fun d S1 => ∃ z, ((deref ρ S1 d).bind f) = some z ∧ Q z S1 := by simp [e_op1]
@[simp] theorem W_op2 (f : D → D → Option D) (a b : ME) : (e_op2 f a b ρ S).W Q = (a ρ S).W fun d S1 => (b ρ S1).W fun e S2 => ∃ z, ((deref ρ S2 d).bind fun d' => (deref ρ S2 e).bind fun e' => f d' e') = some z ∧ Q z S2 := by simp [e_op2]
@[simp] theorem W_te (m : ME) (Q : Bool → Sg → Prop) : (t_e m ρ S).W Q = (m ρ S).W fun d S1 => (liftB S1 d).W Q := by simp [t_e]
@[simp] theorem W_tnot (t : MT) (Q : Bool → Sg → Prop) : (t_not t ρ S).W Q = (t ρ S).W fun b S1 => Q (!b) S1 := by simp [t_not]
@[simp] theorem W_tand (t u : MT) (Q : Bool → Sg → Prop) : (t_and t u ρ S).W Q = (t ρ S).W fun b S1 => if b = true then (u ρ S1).W Q else Q false S1 := by simp [t_and]
@[simp] theorem W_tor (t u : MT) (Q : Bool → Sg → Prop) : (t_or t u ρ S).W Q = (t ρ S).W fun b S1 => if b = true then Q true S1 else (u ρ S1).W Q := by simp [t_or]
@[simp] theorem W_tyes (Q : Bool → Sg → Prop) : (t_yes ρ S).W Q = Q true S := rfl
@[simp] theorem W_eif (t : MT) (a b : ME) : (e_if t a b ρ S).W Q = (t ρ S).W fun c S1 => if c = true then (a ρ S1).W Q else (b ρ S1).W Q := by simp [e_if]
@[simp] theorem W_enot (m : ME) : (e_not m ρ S).W Q = (m ρ S).W fun d S1 => (liftB S1 d).W fun b S2 => Q (.bl (!b)) S2 := by simp [e_not]
@[simp] theorem W_eand (a b : ME) : (e_and a b ρ S).W Q = (a ρ S).W fun d S1 => (liftB S1 d).W fun c S2 => if c = true then (b ρ S2).W Q else Q (.bl false) S2 := by simp [e_and]
@[simp] theorem W_eor (a b : ME) : (e_or a b ρ S).W Q = (a ρ S).W fun d S1 => (liftB S1 d).W fun c S2 => if c = true then Q (.bl true) S2 else (b ρ S2).W Q := by simp [e_or]
@[simp] theorem W_anil (Q : List D → Sg → Prop) : (a_nil ρ S).W Q = Q [] S := rfl
@[simp] theorem W_acons (m : ME) (r : MA) (Q : List D → Sg → Prop) : (a_cons m r ρ S).W Q = (m ρ S).W fun d S1 => (r ρ S1).W fun ds S2 => Q (d :: ds) S2 := by simp [a_cons]
@[simp] theorem W_sh (m : ME) : (e_sh m ρ S).W Q = (m ρ S).W fun d S1 => Q (.obj S1.length) (S1 ++ [d]) := by simp [e_sh]
@[simp] theorem W_lst (r : MA) : (f_lst r ρ S).W Q = (r ρ S).W fun ds S1 => (noLoc ds = true ∧ ds.length ≤ 100000) ∧ Q (.lst ds) S1 := by
  simp only [f_lst, W_bind, W_ite, W_ok, W_no, iteF_and]
@[simp] theorem W_tup (r : MA) : (e_tup r ρ S).W Q = (r ρ S).W fun ds S1 => (noLoc ds = true ∧ ds.length ≤ 100000) ∧ Q (.tup ds) S1 := by
  simp only [e_tup, W_bind, W_ite, W_ok, W_no, iteF_and]
@[simp] theorem W_call (m : List D → Sg → Out D) (r : MA) : (e_call m r ρ S).W Q = (r ρ S).W fun ds S1 => noLoc ds = true ∧ (m ds S1).W Q := by
  simp only [e_call, W_bind, W_ite, W_ok, W_no, iteF_and]
@[simp] theorem W_callK (m : List D → Sg → Out D) (g : List D → List D → List D) (r rk : MA) : (e_callK m g r rk ρ S).W Q = (r ρ S).W fun ds S1 => (rk ρ S1).W fun es S2 => (noLoc ds = true ∧ noLoc es = true) ∧ (m (g ds es) S2).W Q := by
  simp only [e_callK, W_bind, W_ite, W_ok, W_no, iteF_and]
@[simp] theorem W_cb (f : List D → Option D) (r : MA) : (e_cb f r ρ S).W Q = (r ρ S).W fun ds S1 => ∃ z, ((derefL ρ S1 ds).bind f) = some z ∧ Q z S1 := by simp [e_cb]
@[simp] theorem W_chain (f g : D → D → Option D) (a b c : ME) : (e_chain f g a b c ρ S).W Q = (a ρ S).W fun d S1 => (b ρ S1).W fun e S2 => ∃ k, ((deref ρ S2 d).bind fun d' => (deref ρ S2 e).bind fun e' => f d' e') = some k ∧ (liftB S2 k).W fun kk S4 => if kk = true then (c ρ S4).W fun h S5 => ∃ z, ((deref ρ S5 e).bind fun e' => (deref ρ S5 h).bind fun h' => g e' h') = some z ∧ Q z S5 else Q (.bl false) S4 := by
  simp [e_chain]
@[simp] theorem W_oe (m : ME) (Q : Option Int → Sg → Prop) : (o_e m ρ S).W Q = (m ρ S).W fun d S1 => ∃ i, d = .int i ∧ Q (some i) S1 := by
  simp only [o_e, W_bind]
  congr 1; funext d S1
  cases d <;> simp
@[simp] theorem W_ono (Q : Option Int → Sg → Prop) : (o_no ρ S).W Q = Q none S := rfl
@[simp] theorem W_sl (f : D → Option Int → Option Int → Option D) (a : ME) (lo hi : MO) : (e_sl f a lo hi ρ S).W Q = (a ρ S).W fun d S1 => (lo ρ S1).W fun l S2 => (hi ρ S2).W fun h S3 => ∃ z, ((deref ρ S3 d).bind fun d' => f d' l h) = some z ∧ Q z S3 := by simp [e_sl]
@[simp] theorem W_m1 (f : Str → D → Option D) (a b : ME) : (e_m1 f a b ρ S).W Q = (a ρ S).W fun d S1 => ∃ x, d = .str x ∧ (b ρ S1).W fun e S2 => ∃ z, ((deref ρ S2 e).bind (f x)) = some z ∧ Q z S2 := by
  simp only [e_m1, W_bind]
  congr 1; funext d S1
  cases d <;> simp
@[simp] theorem W_iG (m : ME) (Q : List D → Sg → Prop) : (i_seqG m ρ S).W Q = (m ρ S).W fun d S1 => ∃ z, itemsG d = some z ∧ Q z S1 := by simp [i_seqG]
@[simp] theorem W_iC (m : ME) (Q : List D → Sg → Prop) : (i_seqC m ρ S).W Q = (m ρ S).W fun d S1 => ∃ z, itemsC ρ d = some z ∧ Q z S1 := by simp [i_seqC]
@[simp] theorem W_rng (r : MA) (Q : List D → Sg → Prop) : (i_rng r ρ S).W Q = (r ρ S).W fun ds S1 => ∃ z, rngOf ds = some z ∧ Q z S1 := by simp [i_rng]
theorem W_noEr (o : Out α) (Q : α → Sg → Prop) : (noEr o).W Q = o.W Q := by cases o <;> rfl
@[simp] theorem W_disp (l : List (ME × ME)) : (f_disp l ρ S).W Q = (pairsM l ρ S).W fun kvs S1 => kvs.length ≤ 15 ∧ Q (.dct (kmerge [] kvs)) S1 := by
  simp only [f_disp, W_bind, W_ite, W_ok, W_no, iteF_and]
@[simp] theorem W_pnil (Q : List (Key × D) → Sg → Prop) : (pairsM [] ρ S).W Q = Q [] S := rfl
@[simp] theorem W_pcons (k v : ME) (l : List (ME × ME)) (Q : List (Key × D) → Sg → Prop) : (pairsM ((k, v) :: l) ρ S).W Q = (k ρ S).W fun kd S1 => (v ρ S1).W fun vd S2 => ∃ key, keyOf kd = some key ∧ isLoc vd = false ∧ (pairsM l ρ S2).W fun ps S3 => Q ((key, vd) :: ps) S3 := by
  simp only [pairsM, W_bind]
  congr 1; funext d S1; congr 1; funext e S2
  cases keyOf d with
  | none => simp
  | some key => cases h : isLoc e <;> simp
/-! ### statements -/
@[simp] theorem W_fn (n k : Nat) (b : MS) (ds : List D) : (fn n b k ds S).W Q = (ds.length = k ∧ (b (ds.map .va ++ List.replicate (n - ds.length) .un) S).W (fun _ S => Q .non S) Q) := by
  unfold Gd.fn
  split
  · next h =>
    simp only [h, true_and]
    unfold fnM
    simp only [h]
    cases b (ds.map .va ++ List.replicate (n - k) .un) S <;> rfl
  · next h => simp [h]
@[simp] theorem W_nx : (s_nx ρ S).W nx rt = nx ρ S := rfl
@[simp] theorem W_seq (a b : MS) : (s_seq a b ρ S).W nx rt = (a ρ S).W (fun ρ S => (b ρ S).W nx rt) rt := by
  unfold s_seq
  cases a ρ S <;> rfl
theorem W_se (m : ME) (f : D → MS) : (s_e m f ρ S).W nx rt = (m ρ S).W fun d S1 => (f d ρ S1).W nx rt := by
  unfold s_e
  cases m ρ S <;> rfl
theorem W_st (m : MT) (f : Bool → MS) : (s_t m f ρ S).W nx rt = (m ρ S).W fun d S1 => (f d ρ S1).W nx rt := by
  unfold s_t
  cases m ρ S <;> rfl
@[simp] theorem W_if (t : MT) (a b : MS) : (s_if t a b ρ S).W nx rt = (t ρ S).W fun c S1 => if c = true then (a ρ S1).W nx rt else (b ρ S1).W nx rt := by
  unfold s_if
  rw [W_st]
  congr 1; funext c S1
  split <;> rfl
@[simp] theorem W_set (i : Nat) (m : ME) : (s_set i m ρ S).W nx rt = (m ρ S).W fun d S1 => isLoc d = false ∧ nx (ρ.set i (.va d)) S1 := by
  unfold s_set
  rw [W_se]
  congr 1; funext d S1
  cases h : isLoc d <;> simp [OS.W]
@[simp] theorem W_own (i : Nat) (m : ME) : (s_own i m ρ S).W nx rt = (m ρ S).W fun d S1 => nx (ρ.set i (.ow d)) S1 := by
  unfold s_own
  rw [W_se]; rfl
@[simp] theorem W_do (m : ME) : (s_do m ρ S).W nx rt = (m ρ S).W fun d S1 => nx ρ S1 := by
  unfold s_do
  rw [W_se]; rfl
@[simp] theorem W_ret (m : ME) : (s_ret m ρ S).W nx rt = (m ρ S).W fun d S1 => if isLoc d = true then ∃ e, deref ρ S1 d = some e ∧ rt e S1 else rt d S1 := by
  unfold s_ret
  rw [W_se]
  congr 1; funext d S1
  cases d <;> simp [OS.W, isLoc]
  case loc i =>
    cases e : deref ρ S1 (.loc i) <;> simp [OS.W]
@[simp] theorem W_retN : (s_retN ρ S).W nx rt = rt .non S := rfl
theorem W_putTo (dd : D) (f : D → Option D) : (putTo dd f ρ S).W nx rt = match dd with
    | .loc i => ∃ c c', ρ[i]? = some (.ow c) ∧ f c = some c' ∧ nx (ρ.set i (.ow c')) S
    | .obj n => ∃ c c', S[n]? = some c ∧ f c = some c' ∧ nx ρ (S.set n c')
    | _ => False := by
  cases dd <;> simp only [putTo] <;> try rfl
  case obj n =>
    cases e : S[n]? with
    | none => simp [OS.W]
    | some c => cases e2 : f c <;> simp [OS.W, e2]
  case loc i =>
    cases e : ρ[i]? with
    | none => simp [OS.W]
    | some c =>
      cases c with
      | ow c => cases e2 : f c <;> simp [OS.W, e2]
      | _ => simp [OS.W]
@[simp] theorem W_seti (mv mo mi : ME) : (s_seti mv mo mi ρ S).W nx rt = (mv ρ S).W fun dv S1 => (mo ρ S1).W fun dd S2 => (mi ρ S2).W fun di S3 => isLoc dv = false ∧ (putTo dd (updI di dv) ρ S3).W nx rt := by
  unfold s_seti
  rw [W_se]
  congr 1; funext d S1
  rw [W_se]
  congr 1; funext d2 S2
  rw [W_se]
  congr 1; funext d3 S3
  cases h : isLoc d <;> simp [OS.W]
@[simp] theorem W_app (mo me : ME) : (s_app mo me ρ S).W nx rt = (mo ρ S).W fun dd S1 => isLstAt ρ S1 dd = true ∧ (me ρ S1).W fun de S2 => isLoc de = false ∧ (putTo dd (appD de) ρ S2).W nx rt := by
  unfold s_app
  rw [W_se]
  congr 1; funext d S1
  cases h : isLstAt ρ S1 d with
  | false => simp [OS.W]
  | true =>
    simp only [if_true, true_and]
    rw [W_se]
    congr 1; funext d2 S2
    cases h : isLoc d2 <;> simp [OS.W]
/-- one statement at a time: what comes behind is out of sight -/
theorem seq_of {a b : MS} (h : ∀ N : Ro → Sg → Prop, (∀ ρ S, (b ρ S).W nx rt → N ρ S) → (a ρ S).W N rt) : (s_seq a b ρ S).W nx rt := by
  rw [W_seq]
  exact h _ fun _ _ h => h
/-- a for loop by an invariant over what is gone and what is to come -/
theorem W_for {mi : MI} {tgt : D → Ro → Option Ro} {b : MS} (I : List D → Ro → Sg → Prop)
    (h : (mi ρ S).W fun ds S1 => I ds ρ S1)
    (hb : ∀ d ds ρ S, I (d :: ds) ρ S → ∃ ρ1, tgt d ρ = some ρ1 ∧ (b ρ1 S).W (I ds) rt)
    (he : ∀ ρ S, I [] ρ S → nx ρ S) : (s_for mi tgt b ρ S).W nx rt := by
  unfold s_for
  obtain ⟨ds, S1, e, h⟩ := h.eq
  rw [e]
  have main : ∀ (ds : List D) (ρ : Ro) (S1 : Sg), I ds ρ S1 → (s_loop tgt b ds ρ S1).W nx rt := by
    intro ds
    induction ds with
    | nil => exact fun ρ S1 h => he _ _ h
    | cons d ds ih =>
      intro ρ S1 h
      obtain ⟨ρ1, e, k⟩ := hb d ds ρ S1 h
      unfold s_loop
      rw [e]
      show (match b ρ1 S1 with
        | OS.nx ρ2 S2 => s_loop tgt b ds ρ2 S2
        | OS.ct ρ2 S2 => s_loop tgt b ds ρ2 S2
        | OS.bk ρ2 S2 => OS.nx ρ2 S2
        | o => o).W nx rt
      cases e2 : b ρ1 S1 with
      | nx ρ2 S2 => rw [e2] at k; exact ih _ _ k
      | rt d S2 => rw [e2] at k; exact k
      | _ => rw [e2] at k; exact k.elim
  exact main ds ρ S1 h
/-- a comprehension: what each item gives -/
theorem W_lc {vs : List Nat} {mi : MI} {tgt : D → Ro → Option Ro} {t : MT} {e : ME} (I : List D → List D → Sg → Prop)
    (h : (mi ρ S).W fun ds S1 => I [] ds S1)
    (hb : ∀ ys d ds S, I ys (d :: ds) S → ∃ ρ1, tgt d (wipeR ρ vs) = some ρ1 ∧ (t ρ1 S).W fun b S1 => if b = true then (e ρ1 S1).W fun y S2 => isLoc y = false ∧ I (ys ++ [y]) ds S2 else I ys ds S1)
    (he : ∀ ys S, I ys [] S → ys.length ≤ 100000 ∧ Q (.lst ys) S) : (f_lc vs mi tgt t e ρ S).W Q := by
  unfold f_lc
  rw [W_bind]
  refine h.mono fun ds S1 h => ?_
  rw [W_bind]
  have main : ∀ ds ys S1, I ys ds S1 → (lcL tgt t e (wipeR ρ vs) ds S1).W fun zs S2 => I (ys ++ zs) [] S2 := by
    intro ds
    induction ds with
    | nil =>
      intro ys S1 h
      show I (ys ++ []) [] S1
      rw [List.append_nil]; exact h
    | cons d ds ih =>
      intro ys S1 h
      obtain ⟨ρ1, e1, k⟩ := hb ys d ds S1 h
      unfold lcL
      rw [e1]
      show (Out.bind _ _).W _
      rw [W_bind, W_noEr]
      refine k.mono fun b S2 k => ?_
      cases b with
      | false => exact ih _ _ k
      | true =>
        simp only [if_true] at k ⊢
        rw [W_bind, W_noEr]
        refine k.mono fun y S3 k => ?_
        rw [if_neg (by rw [k.1]; simp)]
        rw [W_bind]
        refine (ih _ _ k.2).mono fun zs S4 k => ?_
        show I (ys ++ (y :: zs)) [] S4
        rw [List.append_assoc] at k
        exact k
  refine (main ds [] S1 h).mono fun zs S2 k => ?_
  obtain ⟨h1, h2⟩ := he _ _ k
  rw [List.nil_append] at h1 h2
  rw [W_ite, if_pos h1]
  exact h2
end
/-! ### operations on values in view -/
section
variable {ρ : Ro} {S : Sg}
@[simp] theorem de_non : deref ρ S .non = some .non := rfl
@[simp] theorem de_int (i : Int) : deref ρ S (.int i) = some (.int i) := rfl
@[simp] theorem de_bl (i : Bool) : deref ρ S (.bl i) = some (.bl i) := rfl
@[simp] theorem de_str (i : Str) : deref ρ S (.str i) = some (.str i) := rfl
@[simp] theorem de_lst (i : List D) : deref ρ S (.lst i) = some (.lst i) := rfl
@[simp] theorem de_tup (i : List D) : deref ρ S (.tup i) = some (.tup i) := rfl
@[simp] theorem de_dct (i : List (Key × D)) : deref ρ S (.dct i) = some (.dct i) := rfl
@[simp] theorem de_ins (c : Str) (i : List (Str × D)) : deref ρ S (.ins c i) = some (.ins c i) := rfl
@[simp] theorem de_obj (n : Nat) : deref ρ S (.obj n) = S[n]? := rfl
@[simp] theorem lo_non : isLoc .non = false := rfl
@[simp] theorem lo_int (i : Int) : isLoc (.int i) = false := rfl
@[simp] theorem lo_bl (i : Bool) : isLoc (.bl i) = false := rfl
@[simp] theorem lo_str (i : Str) : isLoc (.str i) = false := rfl
@[simp] theorem lo_lst (i : List D) : isLoc (.lst i) = false := rfl
@[simp] theorem lo_tup (i : List D) : isLoc (.tup i) = false := rfl
@[simp] theorem lo_dct (i : List (Key × D)) : isLoc (.dct i) = false := rfl
@[simp] theorem lo_ins (c : Str) (i : List (Str × D)) : isLoc (.ins c i) = false := rfl
@[simp] theorem lo_obj (n : Nat) : isLoc (.obj n) = false := rfl
@[simp] theorem lo_loc (n : Nat) : isLoc (.loc n) = true := rfl
@[simp] theorem nl_nil : noLoc [] = true := rfl
@[simp] theorem nl_cons (d : D) (ds : List D) : noLoc (d :: ds) = (!isLoc d && noLoc ds) := rfl
@[simp] theorem dl_nil : derefL ρ S [] = some [] := rfl
theorem dl_cons (d : D) (ds : List D) : derefL ρ S (d :: ds) = (deref ρ S d).bind fun a => (derefL ρ S ds).map fun b => a :: b := by
  show (match deref ρ S d, derefL ρ S ds with
    | some a, some b => some (a :: b)
    | _, _ => none) = _
  cases deref ρ S d <;> cases derefL ρ S ds <;> rfl
@[simp] theorem dl_one (d : D) : derefL ρ S [d] = (deref ρ S d).map fun a => [a] := by
  rw [dl_cons]
  cases deref ρ S d <;> rfl
@[simp] theorem dl_two (d e : D) : derefL ρ S [d, e] = (deref ρ S d).bind fun a => (deref ρ S e).map fun b => [a, b] := by
  rw [dl_cons, dl_one]
  cases deref ρ S d <;> cases deref ρ S e <;> rfl
@[simp] theorem f1_one (f : D → Option D) (d : D) : d_1 f [d] = f d := rfl
@[simp] theorem f2_two (f : D → D → Option D) (d e : D) : d_2 f [d, e] = f d e := rfl
@[simp] theorem add_int (i j : Int) : d_add (.int i) (.int j) = some (.int (i + j)) := rfl
@[simp] theorem add_str (i j : Str) : d_add (.str i) (.str j) = if i.length + j.length ≤ 100000 then some (.str (i ++ j)) else none := rfl
@[simp] theorem sub_int (i j : Int) : d_sub (.int i) (.int j) = some (.int (i - j)) := rfl
@[simp] theorem neg_intD (i : Int) : d_neg (.int i) = some (.int (-i)) := rfl
@[simp] theorem mul_int (i j : Int) : d_mul (.int i) (.int j) = if CMul i j then some (.int (i * j)) else none := rfl
@[simp] theorem fdiv_int (i j : Int) : d_fdiv (.int i) (.int j) = if CDivN i j then some (.int (i.fdiv j)) else none := rfl
@[simp] theorem mod_int (i j : Int) : d_mod (.int i) (.int j) = if j ≠ 0 then some (.int (i.fmod j)) else none := rfl
@[simp] theorem pow_int (i j : Int) : d_pow (.int i) (.int j) = if CPow i j then some (.int (i ^ j.toNat)) else none := rfl
@[simp] theorem lt_int (i j : Int) : d_lt (.int i) (.int j) = some (.bl (decide (i < j))) := rfl
@[simp] theorem le_int (i j : Int) : d_le (.int i) (.int j) = some (.bl (decide (i ≤ j))) := rfl
@[simp] theorem gt_int (i j : Int) : d_gt (.int i) (.int j) = some (.bl (decide (j < i))) := rfl
@[simp] theorem ge_int (i j : Int) : d_ge (.int i) (.int j) = some (.bl (decide (j ≤ i))) := rfl
@[simp] theorem lt_str (i j : Str) : d_lt (.str i) (.str j) = some (.bl (decide (i.cps.toList < j.cps.toList))) := rfl
@[simp] theorem le_str (i j : Str) : d_le (.str i) (.str j) = some (.bl (!decide (j.cps.toList < i.cps.toList))) := rfl
@[simp] theorem eq_int (i j : Int) : d_eq (.int i) (.int j) = some (.bl (decide (i = j))) := rfl
@[simp] theorem eq_bl (i j : Bool) : d_eq (.bl i) (.bl j) = some (.bl (decide (i = j))) := rfl
@[simp] theorem eq_str (i j : Str) : d_eq (.str i) (.str j) = some (.bl (decide (i = j))) := rfl
@[simp] theorem ne_int (i j : Int) : d_ne (.int i) (.int j) = some (.bl (!decide (i = j))) := rfl
@[simp] theorem ne_bl (i j : Bool) : d_ne (.bl i) (.bl j) = some (.bl (!decide (i = j))) := rfl
@[simp] theorem ne_str (i j : Str) : d_ne (.str i) (.str j) = some (.bl (!decide (i = j))) := rfl
@[simp] theorem len_lst (l : List D) : d_len (.lst l) = some (.int l.length) := rfl
@[simp] theorem len_tup (l : List D) : d_len (.tup l) = some (.int l.length) := rfl
@[simp] theorem len_str (z : Str) : d_len (.str z) = if z.length ≤ 100000 then some (.int z.length) else none := rfl
@[simp] theorem abs_int (i : Int) : d_abs (.int i) = some (.int (if i < 0 then -i else i)) := rfl
@[simp] theorem ix_lst (l : List D) (i : Int) : d_ix (.lst l) (.int i) = atI l i := rfl
@[simp] theorem ix_tup (l : List D) (i : Int) : d_ix (.tup l) (.int i) = atI l i := rfl
@[simp] theorem ix_str (z : Str) (i : Int) : d_ix (.str z) (.int i) = if z.length ≤ 100000 then (atI z.cps.toList i).map fun c => .str ⟨#[c]⟩ else none := rfl
@[simp] theorem it_lst (l : List D) : itemsG (.lst l) = some l := rfl
@[simp] theorem it_tup (l : List D) : itemsG (.tup l) = some l := rfl
@[simp] theorem it_str (z : Str) : itemsG (.str z) = some (signs z) := rfl
@[simp] theorem ic_lst (l : List D) : itemsC ρ (.lst l) = some l := rfl
@[simp] theorem ic_tup (l : List D) : itemsC ρ (.tup l) = some l := rfl
@[simp] theorem ic_str (z : Str) : itemsC ρ (.str z) = some (signs z) := rfl
@[simp] theorem tn_of (i : Nat) (d : D) : t_name i d ρ = if isLoc d = true then none else some (ρ.set i (.va d)) := rfl
@[simp] theorem sl_lst (l : List D) (lo hi : Option Int) : d_sl (.lst l) lo hi = some (.lst (cutD l lo hi)) := rfl
@[simp] theorem sl_str (z : Str) (lo hi : Option Int) : d_sl (.str z) lo hi = if z.length ≤ 100000 then some (.str (cutS z lo hi)) else none := rfl
@[simp] theorem up_lst (k : Int) (v : D) (ds : List D) : updI (.int k) v (.lst ds) = (ixN ds.length k).map fun j => .lst (ds.set j v) := rfl
@[simp] theorem up_int (k : Int) (v : D) (kvs : List (Key × D)) : updI (.int k) v (.dct kvs) = if kvs.length < 100000 then some (.dct (kput kvs (.inl k) v)) else none := rfl
@[simp] theorem up_str (k : Str) (v : D) (kvs : List (Key × D)) : updI (.str k) v (.dct kvs) = if kvs.length < 100000 then some (.dct (kput kvs (.inr k) v)) else none := rfl
@[simp] theorem isl_obj (n : Nat) : isLstAt ρ S (.obj n) = match S[n]? with
  | some (.lst _) => true
  | _ => false := rfl
@[simp] theorem ap_lst (y : D) (ds : List D) : appD y (.lst ds) = if ds.length < 100000 then some (.lst (ds ++ [y])) else none := rfl
@[simp] theorem put_obj (n : Nat) (f : D → Option D) (nx : Ro → Sg → Prop) (rt : D → Sg → Prop) : (putTo (.obj n) f ρ S).W nx rt = ∃ c c', S[n]? = some c ∧ f c = some c' ∧ nx ρ (S.set n c') := by rw [W_putTo]
@[simp] theorem put_loc (n : Nat) (f : D → Option D) (nx : Ro → Sg → Prop) (rt : D → Sg → Prop) : (putTo (.loc n) f ρ S).W nx rt = ∃ c c', ρ[n]? = some (.ow c) ∧ f c = some c' ∧ nx (ρ.set n (.ow c')) S := by rw [W_putTo]
@[simp] theorem W_var (i : Nat) (Q : D → Sg → Prop) : (e_var i ρ S).W Q = match ρ[i]? with
  | some (.va d) => Q d S
  | some (.ow _) => Q (.loc i) S
  | _ => False := by
  unfold e_var
  cases ρ[i]? with
  | none => rfl
  | some z => cases z <;> rfl
end
@[simp] theorem add4_int (i j : Int) : d_add4 (.int i) (.int j) = some (.int (i + j)) := rfl
@[simp] theorem add4_str (i j : Str) : d_add4 (.str i) (.str j) = if i.length + j.length ≤ 100000 then some (.str (i ++ j)) else none := by
  show (((d_addI _ _).or (d_addS (.str i) (.str j))).or _).or _ = _
  show ((((none : Option D).or (if i.length + j.length ≤ 100000 then some (.str (i ++ j)) else none)).or none).or none) = _
  split <;> rfl
@[simp] theorem add4_lst (a b : List D) : d_add4 (.lst a) (.lst b) = if a.length + b.length ≤ 100000 then some (.lst (a ++ b)) else none := rfl
@[simp] theorem add4_tup (a b : List D) : d_add4 (.tup a) (.tup b) = if a.length + b.length ≤ 100000 then some (.tup (a ++ b)) else none := by
  show ((((none : Option D).or none).or (if a.length + b.length ≤ 100000 then some (.tup (a ++ b)) else none)).or none) = _
  split <;> rfl
@[simp] theorem sl3_lst (l : List D) (lo hi : Option Int) : d_sl3 (.lst l) lo hi = some (.lst (cutD l lo hi)) := rfl
@[simp] theorem sl3_tup (l : List D) (lo hi : Option Int) : d_sl3 (.tup l) lo hi = some (.tup (cutD l lo hi)) := rfl
@[simp] theorem sl3_str (z : Str) (lo hi : Option Int) : d_sl3 (.str z) lo hi = if z.length ≤ 100000 then some (.str (cutS z lo hi)) else none := by
  show ((if z.length ≤ 100000 then some (D.str (cutS z lo hi)) else none).or none) = _
  split <;> rfl
end Gd

/-! Hm, part 1: reading forwards: the forms of Gd19..Gd29, and of classes. -/
namespace Gd
open PySem L2 PyProof.Rows

theorem W_eqOk {α : Type} {o : Out α} {a : α} {S' : Sg} (h : o.W fun x S2 => x = a ∧ S2 = S') : o = .ok a S' := by
  obtain ⟨x, S2, e, rfl, rfl⟩ := h.eq
  exact e
section
variable {ρ : Ro} {S : Sg} {Q : D → Sg → Prop} {nx : Ro → Sg → Prop} {rt : D → Sg → Prop}
theorem W_iteF {α : Type} {c : Prop} [Decidable c] (a : Out α) (Q : α → Sg → Prop) : (if c then a else .no).W Q = (c ∧ a.W Q) := by
  rw [W_ite, W_no, iteF_and]
theorem W_noErS {α : Type} (o : Out α) (Q : α → Sg → Prop) : (noErS o).W Q = o.W Q := by cases o <;> rfl
@[simp] theorem W_meth (c x : Str) (m : List D → Sg → Out D) (mo : ME) (r : MA) : (e_meth c x m mo r ρ S).W Q = (mo ρ S).W fun o S1 => (isLoc o = false ∧ (match deref ρ S1 o with
    | some d => isCls c d && noFld x d
    | none => false) = true) ∧ (r ρ S1).W fun ds S2 => noLoc ds = true ∧ (m (o :: ds) S2).W Q := by
  unfold e_meth
  rw [W_bind]
  congr 1; funext o S1
  rw [W_iteF, W_bind]
  congr 2; funext ds S2
  rw [W_iteF]
theorem mkF_W {c : Str} {m : List D → Sg → Out D} {g : List D → List D → List D} {r rk : MA}
    (h : (r ρ S).W fun ds S1 => (rk ρ S1).W fun es S2 => (noLoc ds = true ∧ noLoc es = true) ∧ (m (g (.obj S2.length :: ds) es) (S2 ++ [.ins c []])).W fun z S3 => ∃ d, z = .non ∧ S3 = S2 ++ [d] ∧ okD S2.length d = true ∧ Q d S2) : (e_mkF c m g r rk ρ S).W Q := by
  unfold e_mkF
  rw [W_bind]
  refine h.mono fun ds S1 h => ?_
  rw [W_bind]
  refine h.mono fun es S2 h => ?_
  rw [W_iteF, W_bind]
  refine ⟨h.1, h.2.mono ?_⟩
  rintro z S3 ⟨d, rfl, rfl, hd, q⟩
  have e : (S2 ++ [d])[S2.length]? = some d := by
    rw [List.getElem?_append_right (Nat.le_refl _), Nat.sub_self]; rfl
  simp only [e]
  unfold popD
  rw [if_pos ⟨rfl, hd⟩]
  exact q
@[simp] theorem W_sfld (cs : List Str) (f : Str) (mv mo : ME) : (s_fld cs f mv mo ρ S).W nx rt = (mv ρ S).W fun dv S1 => (mo ρ S1).W fun dd S2 => isLoc dv = false ∧ (putTo dd (setF cs f dv) ρ S2).W nx rt := by
  unfold s_fld
  rw [W_se]
  congr 1; funext d S1
  rw [W_se]
  congr 1; funext d2 S2
  cases h : isLoc d <;> simp [OS.W]
@[simp] theorem W_star (i j : Nat) (m : ME) : (s_star i j m ρ S).W nx rt = (m ρ S).W fun d S1 => ∃ x xs, deref ρ S1 d = some (.lst (x :: xs)) ∧ isLoc x = false ∧ xs.length ≤ 16000 ∧ nx ((ρ.set i (.va x)).set j (.va (.lst xs))) S1 := by
  unfold s_star
  rw [W_se]
  congr 1; funext d S1
  cases e : deref ρ S1 d with
  | none => simp [OS.W]
  | some d' =>
    cases d' with
    | lst l =>
      cases l with
      | nil => simp [OS.W]
      | cons x xs =>
        by_cases hc : isLoc x = false ∧ xs.length ≤ 16000
        · simp only [if_pos hc]
          exact propext ⟨fun h => ⟨x, xs, rfl, hc.1, hc.2, h⟩, fun ⟨a, b, e, _, _, h⟩ => by cases e; exact h⟩
        · simp only [if_neg hc]
          exact propext ⟨fun h => h.elim, fun ⟨a, b, e, h1, h2, h⟩ => by cases e; exact (hc ⟨h1, h2⟩).elim⟩
    | _ => simp [OS.W]
@[simp] theorem W_par (i j : Nat) (r : MA) : (s_par i j r ρ S).W nx rt = (r ρ S).W fun ds S1 => ∃ x y, ds = [x, y] ∧ isLoc x = false ∧ isLoc y = false ∧ nx ((ρ.set i (.va x)).set j (.va y)) S1 := by
  unfold s_par
  cases e : r ρ S with
  | ok ds S1 =>
    simp only [W_ok]
    cases ds with
    | nil => simp [OS.W]
    | cons x ds =>
      cases ds with
      | nil => simp [OS.W]
      | cons y ds =>
        cases ds with
        | cons _ _ => simp [OS.W]
        | nil =>
          simp only
          cases hx : isLoc x <;> cases hy : isLoc y <;> simp [OS.W, hx, hy]
  | er x fs S1 => rfl
  | no => rfl
theorem W_aug (i : Nat) (f : D → D → Option D) (m : ME) {x : D} (hx : ρ[i]? = some (.va x)) (h : (m ρ S).W fun d S1 => ∃ z, ((deref ρ S1 x).bind fun x' => (deref ρ S1 d).bind fun d' => f x' d') = some z ∧ isLoc z = false ∧ nx (ρ.set i (.va z)) S1) : (s_aug i f m ρ S).W nx rt := by
  unfold s_aug
  rw [hx]
  show (s_e m _ ρ S).W nx rt
  rw [W_se]
  refine h.mono ?_
  rintro d S1 ⟨z, e, hz, q⟩
  simp only [e]
  rw [if_neg (by rw [hz]; simp)]
  exact q
@[simp] theorem W_fmt (m : ME) : (e_fmt m ρ S).W Q = (m ρ S).W fun d S1 => ∃ y, d = .str y ∧ y.length ≤ 100000 ∧ Q (.str y) S1 := by
  unfold e_fmt
  rw [W_bind]
  congr 1; funext d S1
  cases d <;> simp [W_iteF]
@[simp] theorem W_fs0 (acc : Str) : (e_fstr [] acc ρ S).W Q = Q (.str acc) S := rfl
@[simp] theorem W_fs1 (m : ME) (ms : List ME) (acc : Str) : (e_fstr (m :: ms) acc ρ S).W Q = (m ρ S).W fun d S1 => ∃ y, d = .str y ∧ acc.length + y.length ≤ 100000 ∧ (e_fstr ms (acc ++ y) ρ S1).W Q := by
  rw [e_fstr, W_bind]
  congr 1; funext d S1
  cases d <;> simp [W_iteF]
@[simp] theorem W_eqO (c : Str) (m : List D → Sg → Out D) (a b : ME) : (e_eqO c m a b ρ S).W Q = (a ρ S).W fun d S1 => (b ρ S1).W fun e S2 => (isLoc d = false ∧ isLoc e = false ∧ (deref ρ S2 d).any (isCls c) = true ∧ (deref ρ S2 e).any (isCls c) = true) ∧ (m [d, e] S2).W Q := by
  unfold e_eqO
  rw [W_bind]
  congr 1; funext d S1
  rw [W_bind]
  congr 1; funext e S2
  rw [W_iteF, W_noErS]
@[simp] theorem W_strO (c : Str) (m : List D → Sg → Out D) (a : ME) : (e_strO c m a ρ S).W Q = (a ρ S).W fun d S1 => (isLoc d = false ∧ (deref ρ S1 d).any (isCls c) = true) ∧ (m [d] S1).W fun z S2 => ∃ y, z = .str y ∧ Q (.str y) S2 := by
  unfold e_strO
  rw [W_bind]
  congr 1; funext d S1
  rw [W_iteF, W_bind, W_noErS]
  congr 2; funext z S2
  cases z <;> simp
@[simp] theorem W_rep (a b : ME) : (e_rep a b ρ S).W Q = (a ρ S).W fun d S1 => (b ρ S1).W fun e S2 => ∃ z, d_rep d e = some z ∧ Q z S2 := by simp [e_rep]
theorem W_try {tc : List (Str × Bool)} {b h : MS} (k : (b ρ S).W nx rt) : (s_try tc b h ρ S).W nx rt := by
  unfold s_try
  cases e : b ρ S with
  | ex x fs ρ' S' => rw [e] at k; exact k.elim
  | _ => rw [e] at k; exact k
/-- a while loop by an invariant with a count that falls -/
theorem W_while {t : MT} {b : MS} (I : Nat → Ro → Sg → Prop) (hb : ∀ k ρ S, I k ρ S → (t ρ S).W fun c S1 => if c = true then (b ρ S1).W (fun ρ2 S2 => ∃ j, j < k ∧ I j ρ2 S2) rt else nx ρ S1) :
    ∀ (n k : Nat) (ρ : Ro) (S : Sg), I k ρ S → k < n → (s_wh t b n ρ S).W nx rt := by
  intro n
  induction n with
  | zero => intro k ρ S _ h; omega
  | succ n ih =>
    intro k ρ S h hk
    have := hb k ρ S h
    unfold s_wh
    obtain ⟨c, S1, e, q⟩ := this.eq
    rw [e]
    cases c with
    | false => exact q
    | true =>
      simp only [if_true] at q ⊢
      cases e2 : b ρ S1 with
      | nx ρ2 S2 =>
        rw [e2] at q
        obtain ⟨j, hj, hi⟩ := q
        exact ih j ρ2 S2 hi (by omega)
      | rt d S2 => rw [e2] at q; exact q
      | _ => rw [e2] at q; exact q.elim
@[simp] theorem W_lk (m : ME) : (e_lk m ρ S).W Q = (m ρ S).W fun d S1 => ∃ l, d = .dct l ∧ Q (.dcf l) S1 := by
  unfold e_lk
  rw [W_bind]
  congr 1; funext d S1
  cases d <;> simp
@[simp] theorem W_pop (mo mi : ME) : (e_pop mo mi ρ S).W Q = (mo ρ S).W fun dd S1 => ∃ n, dd = .obj n ∧ isLstAt ρ S1 (.obj n) = true ∧ (mi ρ S1).W fun di S2 => ∃ i ds y es, di = .int i ∧ S2[n]? = some (.lst ds) ∧ popAt ds i = some (y, es) ∧ ds.length ≤ 100000 ∧ Q y (S2.set n (.lst es)) := by
  unfold e_pop
  rw [W_bind]
  congr 1; funext dd S1
  cases dd with
  | obj n =>
    simp only [D.obj.injEq, exists_eq_left']
    rw [W_iteF, W_bind]
    congr 2; funext di S2
    cases di with
    | int i =>
      cases e : S2[n]? with
      | none => simp
      | some c =>
        cases c with
        | lst ds =>
          cases e2 : popAt ds i with
          | none => simp [e2]
          | some p =>
            obtain ⟨y, es⟩ := p
            simp [W_iteF, e2]
        | _ => simp
    | _ => simp
  | _ => simp
theorem W_sa (m : MA) (f : List D → MS) : (s_a m f ρ S).W nx rt = (m ρ S).W fun ds S1 => (f ds ρ S1).W nx rt := by
  unfold s_a
  cases m ρ S <;> rfl
@[simp] theorem W_mt (f : List D → D → Option D) (mo : ME) (ma : MA) : (s_mt f mo ma ρ S).W nx rt = (mo ρ S).W fun dd S1 => isLstAt ρ S1 dd = true ∧ (ma ρ S1).W fun ds S2 => noLoc ds = true ∧ (putTo dd (f ds) ρ S2).W nx rt := by
  unfold s_mt
  rw [W_se]
  congr 1; funext d S1
  cases h : isLstAt ρ S1 d with
  | false => simp [OS.W]
  | true =>
    simp only [if_true, true_and]
    rw [W_sa]
    congr 1; funext d2 S2
    cases h : noLoc d2 <;> simp [OS.W]
/-! ### sources -/
@[simp] theorem W_liftJ (o : Option (List D × List Nat)) (Q : List D × List Nat → Sg → Prop) : (liftJ S o).W Q = ∃ z, o = some z ∧ Q z S := by
  cases o with
  | none => exact propext ⟨fun h => h.elim, fun ⟨_, h, _⟩ => nomatch h⟩
  | some z => exact propext ⟨fun h => ⟨z, rfl, h⟩, fun ⟨_, h, q⟩ => by cases h; exact q⟩
@[simp] theorem W_jseq (own : Bool) (m : ME) (Q : List D × List Nat → Sg → Prop) : (j_seq own m ρ S).W Q = (m ρ S).W fun d S1 => ∃ z, seqJ own ρ S1 d = some z ∧ Q z S1 := by simp [j_seq]
@[simp] theorem W_jenum (own : Bool) (m : ME) (Q : List D × List Nat → Sg → Prop) : (j_enum own m ρ S).W Q = (m ρ S).W fun d S1 => ∃ z, enumJ own ρ S1 d = some z ∧ Q z S1 := by simp [j_enum]
@[simp] theorem W_jzip (own : Bool) (m m2 : ME) (Q : List D × List Nat → Sg → Prop) : (j_zip own m m2 ρ S).W Q = (m ρ S).W fun d S1 => (m2 ρ S1).W fun e S2 => ∃ z, zipJ own ρ S2 d e = some z ∧ Q z S2 := by simp [j_zip]
@[simp] theorem W_jrng (r : MA) (Q : List D × List Nat → Sg → Prop) : (j_rng r ρ S).W Q = (r ρ S).W fun ds S1 => ∃ z, rngOf ds = some z ∧ Q (z, []) S1 := by
  simp only [j_rng, W_bind]
  congr 1; funext ds S1
  cases rngOf ds <;> simp
variable {own : Bool}
@[simp] theorem sj_lst (l : List D) : seqJ own ρ S (.lst l) = some (l, []) := rfl
@[simp] theorem sj_tup (l : List D) : seqJ own ρ S (.tup l) = some (l, []) := rfl
@[simp] theorem sj_str (z : Str) : seqJ own ρ S (.str z) = some (signs z, []) := rfl
@[simp] theorem sj_dcf (l : List (Key × D)) : seqJ own ρ S (.dcf l) = some (l.map fun kv => keyD kv.1, []) := rfl
theorem sj_obj {n : Nat} {l : List D} (h : S[n]? = some (.lst l)) : seqJ own ρ S (.obj n) = some (l, [n]) := by
  show (match S[n]? with
    | some (.lst ds) => some (ds, [n])
    | _ => none) = _
  rw [h]
theorem sj_loc (i : Nat) : seqJ true ρ S (.loc i) = match ρ[i]? with
  | some (.ow (.lst ds)) => some (ds, [])
  | _ => none := rfl
@[simp] theorem ej_lst (l : List D) : enumJ own ρ S (.lst l) = some (enumD l, []) := rfl
@[simp] theorem ej_tup (l : List D) : enumJ own ρ S (.tup l) = some (enumD l, []) := rfl
@[simp] theorem zj_lst (l r : List D) : zipJ own ρ S (.lst l) (.lst r) = some (zipD l r, []) := rfl
@[simp] theorem zj_tup (l r : List D) : zipJ own ρ S (.tup l) (.tup r) = some (zipD l r, []) := rfl
theorem zj_objL {n : Nat} {l : List D} (h : S[n]? = some (.lst l)) (r : List D) : zipJ own ρ S (.obj n) (.lst r) = some (zipD l r, [n]) := by
  show (lstJ own ρ S (.obj n)).bind _ = _
  have : lstJ own ρ S (.obj n) = some (l, [n]) := by
    show (match S[n]? with
    | some (.lst ds) => some (ds, [n])
    | _ => none) = _
    rw [h]
  rw [this]
  rfl
theorem zj_Lobj {n : Nat} {l : List D} (h : S[n]? = some (.lst l)) (r : List D) : zipJ own ρ S (.lst r) (.obj n) = some (zipD r l, [n]) := by
  have : lstJ own ρ S (.obj n) = some (l, [n]) := by
    show (match S[n]? with
    | some (.lst ds) => some (ds, [n])
    | _ => none) = _
    rw [h]
  show ((some (r, [])).bind fun p : List D × List Nat => (lstJ own ρ S (.obj n)).map fun q => (zipD p.1 q.1, p.2 ++ q.2)) = _
  rw [this]
  rfl
@[simp] theorem same_nil (S0 S1 : Sg) : Same [] S0 S1 = True := propext ⟨fun _ => trivial, fun _ _ h => nomatch h⟩
@[simp] theorem same_one (n : Nat) (S0 S1 : Sg) : Same [n] S0 S1 = (S1[n]? = S0[n]?) := propext ⟨fun h => h n (by simp), fun h m hm => by rw [List.mem_singleton.mp hm]; exact h⟩
@[simp] theorem same_self (gs : List Nat) (S : Sg) : Same gs S S = True := propext ⟨fun _ => trivial, fun _ _ _ => rfl⟩
/-! ### walks -/
/-- a for loop by an invariant over what is gone and what is to come -/
theorem W_forG {mi : MJ} {tgt : D → Ro → Option Ro} {b : MS} (I : List D → Ro → Sg → Prop)
    (h : (mi ρ S).W fun p S1 => I p.1 ρ S1 ∧ (p.2 = [] ∨ ∀ ds ρ2 S2, I ds ρ2 S2 → Same p.2 S1 S2))
    (hb : ∀ d ds ρ S, I (d :: ds) ρ S → ∃ ρ1, tgt d ρ = some ρ1 ∧ (b ρ1 S).W (I ds) rt)
    (he : ∀ ρ S, I [] ρ S → nx ρ S) : (s_forG mi tgt b ρ S).W nx rt := by
  unfold s_forG
  obtain ⟨⟨ds, gs⟩, S1, e, h, sm⟩ := h.eq
  rw [e]
  have sm' : ∀ ds ρ2 S2, I ds ρ2 S2 → Same gs S1 S2 := by
    rcases sm with sm | sm
    · intro _ _ _ _
      have : gs = [] := sm
      rw [this]; exact Same.nil
    · exact sm
  have main : ∀ (ds : List D) (ρ : Ro) (S2 : Sg), I ds ρ S2 → (s_loopG gs S1 tgt b ds ρ S2).W nx rt := by
    intro ds
    induction ds with
    | nil =>
      intro ρ S2 h
      unfold s_loopG
      rw [if_pos (sm' _ _ _ h)]
      exact he _ _ h
    | cons d ds ih =>
      intro ρ S2 h
      obtain ⟨ρ1, e, k⟩ := hb d ds ρ S2 h
      unfold s_loopG
      rw [if_pos (sm' _ _ _ h), e]
      show (match b ρ1 S2 with
        | OS.nx ρ2 S2 => s_loopG gs S1 tgt b ds ρ2 S2
        | OS.ct ρ2 S2 => s_loopG gs S1 tgt b ds ρ2 S2
        | OS.bk ρ2 S2 => OS.nx ρ2 S2
        | o => o).W nx rt
      cases e2 : b ρ1 S2 with
      | nx ρ2 S2 => rw [e2] at k; exact ih _ _ k
      | rt d S2 => rw [e2] at k; exact k
      | _ => rw [e2] at k; exact k.elim
  exact main ds ρ S1 h
/-- a comprehension: what each item gives -/
theorem W_lcG {vs : List Nat} {mi : MJ} {tgt : D → Ro → Option Ro} {t : MT} {e : ME} (I : List D → List D → Sg → Prop)
    (h : (mi ρ S).W fun p S1 => I [] p.1 S1 ∧ (p.2 = [] ∨ ∀ ys ds S2, I ys ds S2 → Same p.2 S1 S2))
    (hb : ∀ ys d ds S, I ys (d :: ds) S → ∃ ρ1, tgt d (wipeR ρ vs) = some ρ1 ∧ (t ρ1 S).W fun b S1 => if b = true then (e ρ1 S1).W fun y S2 => isLoc y = false ∧ I (ys ++ [y]) ds S2 else I ys ds S1)
    (he : ∀ ys S, I ys [] S → ys.length ≤ 100000 ∧ Q (.lst ys) S) : (f_lcG vs mi tgt t e ρ S).W Q := by
  unfold f_lcG
  rw [W_bind]
  obtain ⟨⟨ds, gs⟩, S1, e0, h, sm⟩ := h.eq
  rw [e0]
  rw [W_ok, W_bind]
  have sm' : ∀ ys ds S2, I ys ds S2 → Same gs S1 S2 := by
    rcases sm with sm | sm
    · intro _ _ _ _
      have : gs = [] := sm
      rw [this]; exact Same.nil
    · exact sm
  have main : ∀ ds ys S2, I ys ds S2 → (lcLG gs S1 tgt t e (wipeR ρ vs) ds S2).W fun zs S3 => I (ys ++ zs) [] S3 := by
    intro ds
    induction ds with
    | nil =>
      intro ys S2 h
      unfold lcLG
      rw [if_pos (sm' _ _ _ h)]
      show I (ys ++ []) [] S2
      rw [List.append_nil]; exact h
    | cons d ds ih =>
      intro ys S2 h
      obtain ⟨ρ1, e1, k⟩ := hb ys d ds S2 h
      unfold lcLG
      rw [if_pos (sm' _ _ _ h), e1]
      show (Out.bind _ _).W _
      rw [W_bind, W_noEr]
      refine k.mono fun b S2 k => ?_
      cases b with
      | false => exact ih _ _ k
      | true =>
        simp only [if_true] at k ⊢
        rw [W_bind, W_noEr]
        refine k.mono fun y S3 k => ?_
        rw [if_neg (by rw [k.1]; simp)]
        rw [W_bind]
        refine (ih _ _ k.2).mono fun zs S4 k => ?_
        show I (ys ++ (y :: zs)) [] S4
        rw [List.append_assoc] at k
        exact k
  refine (main ds [] S1 h).mono fun zs S2 k => ?_
  obtain ⟨h1, h2⟩ := he _ _ k
  rw [List.nil_append] at h1 h2
  rw [W_ite, if_pos h1]
  exact h2
/-- a comprehension that leaves the store, over items told by f -/
theorem W_mapG {α : Type} {vs : List Nat} {mi : MJ} {tgt : D → Ro → Option Ro} {t : MT} {e : ME} (f : α → D) (xs : List α) (p : α → Bool) (g : α → D)
    (h : (mi ρ S).W fun pr S1 => pr.1 = xs.map f ∧ (∀ x ∈ xs, ∃ ρ1, tgt (f x) (wipeR ρ vs) = some ρ1 ∧ (t ρ1 S1).W (fun b S2 => b = p x ∧ S2 = S1) ∧ (p x = true → (e ρ1 S1).W fun y S2 => y = g x ∧ isLoc y = false ∧ S2 = S1)) ∧ xs.length ≤ 100000 ∧ Q (.lst ((xs.filter p).map g)) S1) : (f_lcG vs mi tgt t e ρ S).W Q := by
  obtain ⟨⟨ds, gs⟩, S1, e1, h0, h1, h2, h3⟩ := h.eq
  have h0 : ds = xs.map f := h0
  subst h0
  refine W_lcG (fun ys r S' => ∃ r' : List α, r = r'.map f ∧ S' = S1 ∧ ys.length + r'.length ≤ 100000 ∧ (∀ d ∈ r', d ∈ xs) ∧ ys ++ (r'.filter p).map g = (xs.filter p).map g) ?_ ?_ ?_
  · rw [e1]
    refine ⟨⟨xs, rfl, rfl, by simpa using h2, fun d h => h, by simp⟩, .inr ?_⟩
    rintro ys ds S2 ⟨_, _, rfl, _⟩
    exact fun _ _ => rfl
  · rintro ys d r S' ⟨r', er, rfl, hl, hm, he⟩
    cases r' with
    | nil => cases er
    | cons x r' =>
      cases er
      obtain ⟨ρ1, k1, k2, k3⟩ := h1 x (hm x (List.mem_cons_self ..))
      refine ⟨ρ1, k1, k2.mono ?_⟩
      rintro b S2 ⟨rfl, rfl⟩
      have hm' : ∀ x ∈ r', x ∈ xs := fun x hx => hm x (List.mem_cons_of_mem _ hx)
      rw [List.length_cons] at hl
      cases hp : p x with
      | true =>
        rw [if_pos rfl]
        refine (k3 hp).mono ?_
        rintro y S3 ⟨rfl, hy, rfl⟩
        refine ⟨hy, r', rfl, rfl, by rw [List.length_append]; simp; omega, hm', ?_⟩
        rw [List.filter_cons, if_pos hp, List.map_cons] at he
        rw [List.append_assoc]
        exact he
      | false =>
        rw [if_neg (by simp)]
        refine ⟨r', rfl, rfl, by omega, hm', ?_⟩
        rw [List.filter_cons, if_neg (by simp [hp])] at he
        exact he
  · rintro ys S' ⟨r', er, rfl, hl, _, he⟩
    have : r' = [] := List.map_eq_nil_iff.mp er.symm
    subst this
    simp at he hl
    refine ⟨hl, ?_⟩
    rw [he]
    exact h3
end
/-! ### values -/
section
variable {ρ : Ro} {S : Sg}
@[simp] theorem de_dcf (i : List (Key × D)) : deref ρ S (.dcf i) = some (.dcf i) := rfl
@[simp] theorem de_dcl (i : List (Leaf × D)) : deref ρ S (.dcl i) = some (.dcl i) := rfl
@[simp] theorem lo_dcf (i : List (Key × D)) : isLoc (.dcf i) = false := rfl
@[simp] theorem lo_dcl (i : List (Leaf × D)) : isLoc (.dcl i) = false := rfl
theorem de_loc (i : Nat) : deref ρ S (.loc i) = match ρ[i]? with
  | some (.ow d) => some d
  | _ => none := rfl
@[simp] theorem li_lst (l : List D) : d_list (.lst l) = some (.lst l) := rfl
@[simp] theorem li_tup (l : List D) : d_list (.tup l) = some (.lst l) := rfl
@[simp] theorem tu_lst (l : List D) : d_tuple (.lst l) = some (.tup l) := rfl
@[simp] theorem tu_tup (l : List D) : d_tuple (.tup l) = some (.tup l) := rfl
@[simp] theorem rev_lst (l : List D) : d_rev (.lst l) = some (.lst l.reverse) := rfl
@[simp] theorem addL_lst (a b : List D) : d_addL (.lst a) (.lst b) = if a.length + b.length ≤ 100000 then some (.lst (a ++ b)) else none := rfl
@[simp] theorem setF_ins (cs : List Str) (f : Str) (v : D) (c : Str) (gs : List (Str × D)) : setF cs f v (.ins c gs) = if c ∈ cs ∧ gs.length < 1000 then some (.ins c (putFD f v gs)) else none := rfl
@[simp] theorem fld_ins (cs : List Str) (f : Str) (c : Str) (gs : List (Str × D)) : d_fld cs f (.ins c gs) = if c ∈ cs then gs.lookup f else none := rfl
@[simp] theorem ix5_lst (l : List D) (i : Int) : d_ix5 (.lst l) (.int i) = atI l i := by
  show (atI l i).or none = _
  cases atI l i <;> rfl
@[simp] theorem ix5_tup (l : List D) (i : Int) : d_ix5 (.tup l) (.int i) = atI l i := by
  show (atI l i).or none = _
  cases atI l i <;> rfl
@[simp] theorem ix5_str (z : Str) (i : Int) : d_ix5 (.str z) (.int i) = if z.length ≤ 100000 then (atI z.cps.toList i).map fun c => .str ⟨#[c]⟩ else none := by
  show Option.or (if z.length ≤ 100000 then (atI z.cps.toList i).map fun c => D.str ⟨#[c]⟩ else none) none = _
  rw [Option.or_none]
@[simp] theorem ix5_dctS (l : List (Key × D)) (k : Str) : d_ix5 (.dct l) (.str k) = kget l (.inr k) := rfl
@[simp] theorem ix5_dctI (l : List (Key × D)) (k : Int) : d_ix5 (.dct l) (.int k) = kget l (.inl k) := rfl
@[simp] theorem ix5_dcfS (l : List (Key × D)) (k : Str) : d_ix5 (.dcf l) (.str k) = kget l (.inr k) := rfl
@[simp] theorem ix5_dcfI (l : List (Key × D)) (k : Int) : d_ix5 (.dcf l) (.int k) = kget l (.inl k) := rfl
@[simp] theorem len5_lst (l : List D) : d_len5 (.lst l) = some (.int l.length) := rfl
@[simp] theorem len5_tup (l : List D) : d_len5 (.tup l) = some (.int l.length) := rfl
@[simp] theorem len5_dct (l : List (Key × D)) : d_len5 (.dct l) = some (.int l.length) := rfl
@[simp] theorem len5_dcf (l : List (Key × D)) : d_len5 (.dcf l) = some (.int l.length) := rfl
@[simp] theorem len5_str (z : Str) : d_len5 (.str z) = if z.length ≤ 100000 then some (.int z.length) else none := by
  show Option.or (if z.length ≤ 100000 then some (D.int z.length) else none) none = _
  rw [Option.or_none]
theorem eq5_of {d e : D} (h : asL d = none) : d_eq5 d e = d_eq d e := by
  unfold d_eq5 eqDc
  rw [h]
  cases d_eq d e <;> rfl
theorem ne5_of {d e : D} (h : asL d = none) : d_ne5 d e = d_ne d e := by
  unfold d_ne5 eqDc
  rw [h]
  cases d_ne d e <;> rfl
@[simp] theorem eq5_int (i : Int) (e : D) : d_eq5 (.int i) e = d_eq (.int i) e := eq5_of rfl
@[simp] theorem eq5_bl (i : Bool) (e : D) : d_eq5 (.bl i) e = d_eq (.bl i) e := eq5_of rfl
@[simp] theorem eq5_str (i : Str) (e : D) : d_eq5 (.str i) e = d_eq (.str i) e := eq5_of rfl
@[simp] theorem eq5_lst (i : List D) (e : D) : d_eq5 (.lst i) e = d_eq (.lst i) e := eq5_of rfl
@[simp] theorem eq5_tup (i : List D) (e : D) : d_eq5 (.tup i) e = d_eq (.tup i) e := eq5_of rfl
@[simp] theorem eq5_non (e : D) : d_eq5 .non e = d_eq .non e := eq5_of rfl
@[simp] theorem ne5_int (i : Int) (e : D) : d_ne5 (.int i) e = d_ne (.int i) e := ne5_of rfl
@[simp] theorem ne5_bl (i : Bool) (e : D) : d_ne5 (.bl i) e = d_ne (.bl i) e := ne5_of rfl
@[simp] theorem ne5_str (i : Str) (e : D) : d_ne5 (.str i) e = d_ne (.str i) e := ne5_of rfl
@[simp] theorem ne5_lst (i : List D) (e : D) : d_ne5 (.lst i) e = d_ne (.lst i) e := ne5_of rfl
@[simp] theorem ne5_tup (i : List D) (e : D) : d_ne5 (.tup i) e = d_ne (.tup i) e := ne5_of rfl
@[simp] theorem ne5_non (e : D) : d_ne5 .non e = d_ne .non e := ne5_of rfl
@[simp] theorem in5_lst (neg : Bool) (d : D) (l : List D) : d_in5 neg d (.lst l) = d_in neg d (.lst l) := by
  show (d_in neg d (.lst l)).or none = _
  rw [Option.or_none]
@[simp] theorem in5_tup (neg : Bool) (d : D) (l : List D) : d_in5 neg d (.tup l) = d_in neg d (.tup l) := by
  show (d_in neg d (.tup l)).or none = _
  rw [Option.or_none]
@[simp] theorem in5_str (neg : Bool) (d : D) (l : Str) : d_in5 neg d (.str l) = d_in neg d (.str l) := by
  show (d_in neg d (.str l)).or none = _
  rw [Option.or_none]
@[simp] theorem dint_int (i : Int) : d_int (.int i) = some (.int i) := rfl
@[simp] theorem dint_bl (b : Bool) : d_int (.bl b) = some (.int (if b then 1 else 0)) := rfl
@[simp] theorem dmin_ints (i j : Int) : d_min [.int i, .int j] = some (.int (if j < i then j else i)) := rfl
@[simp] theorem dmax_ints (i j : Int) : d_max [.int i, .int j] = some (.int (if j > i then j else i)) := rfl
@[simp] theorem frev_lst (l : List D) : f_rev [] (.lst l) = some (.lst l.reverse) := rfl
@[simp] theorem fclear_lst (l : List D) : f_clear [] (.lst l) = some (.lst []) := rfl
@[simp] theorem tt_nil : t_items [] [] ρ = some ρ := rfl
@[simp] theorem tt_cons (t : Tgt) (ts : List Tgt) (d : D) (ds : List D) : t_items (t :: ts) (d :: ds) ρ = if isLoc d = true then none else (t d ρ).bind (t_items ts ds) := rfl
@[simp] theorem tt_tup (ts : List Tgt) (ds : List D) : t_tup ts (.tup ds) ρ = t_items ts ds ρ := rfl
end
end Gd

/-! Hm, part 2: facts about values: lists alike, what is in a list, names, unlike things. -/
namespace Gd
open PySem L2 PyProof.Rows

theorem getSet {S : Sg} {n : Nat} {d e : D} (h : S[n]? = some d) : (S.set n e)[n]? = some e := by
  rw [List.getElem?_set_self (List.getElem?_eq_some_iff.mp h).1]
theorem atI_nn {α : Type} {xs : List α} {i : Int} (h : 0 ≤ i) (l : i < xs.length) : ∃ x, xs[i.toNat]? = some x ∧ atI xs i = some x ∧ ixN xs.length i = some i.toNat := by
  have l2 : i.toNat < xs.length := by omega
  have e : ixN xs.length i = some i.toNat := by unfold ixN; rw [if_pos h, if_pos l]
  refine ⟨xs[i.toNat], List.getElem?_eq_getElem l2, ?_, e⟩
  unfold atI
  rw [e]
  exact List.getElem?_eq_getElem l2
theorem fmod_bd {a b : Int} (h : 0 < b) : 0 ≤ a.fmod b ∧ a.fmod b < b := ⟨Int.fmod_nonneg_of_pos a h, Int.fmod_lt_of_pos a h⟩
theorem fdiv_nn {a b : Int} (h : 0 ≤ a) (hb : 0 < b) : 0 ≤ a.fdiv b := by
  rw [Int.fdiv_eq_ediv_of_nonneg a (by omega)]
  exact Int.ediv_nonneg h (by omega)
theorem upd_ints (i : Int) (v : D) (cs : List Int) : updI (.int i) v (.lst (cs.map .int)) = (ixN cs.length i).map fun j => .lst ((cs.map D.int).set j v) := by
  rw [up_lst, List.length_map]
theorem pyL_ints (cs : List Int) : pyL (cs.map .int) = some (cs.map .int) := by
  induction cs with
  | nil => rfl
  | cons c cs ih => simp [pyL, py, ih]
theorem pyL_strs (cs : List Str) : pyL (cs.map .str) = some (cs.map .str) := by
  induction cs with
  | nil => rfl
  | cons c cs ih => simp [pyL, py, ih]
theorem lay_ints (cs : List Int) : PyData.canLayAll0 (cs.map .int) = true ∧ PyData.depthAll (cs.map .int) = 0 := by
  induction cs with
  | nil => simp [PyData.canLayAll0, PyData.depthAll]
  | cons c cs ih => simp [PyData.canLayAll0, PyData.depthAll, PyData.canLay0, PyData.depth, ih]
theorem lay_strs (cs : List Str) (h : ∀ c ∈ cs, PyData.strOk c = true) : PyData.canLayAll0 (cs.map .str) = true ∧ PyData.depthAll (cs.map .str) = 0 := by
  induction cs with
  | nil => simp [PyData.canLayAll0, PyData.depthAll]
  | cons c cs ih =>
    have ih := ih fun x hx => h x (List.mem_cons_of_mem _ hx)
    simp [PyData.canLayAll0, PyData.depthAll, PyData.canLay0, PyData.depth, ih, h c]
theorem shp_ints (cs : List Int) : SeqAt.shaped (.list (cs.map .int)) = true := by
  obtain ⟨h1, h2⟩ := lay_ints cs
  simp [SeqAt.shaped, PyData.canLay0, PyData.depth, h1, h2]
theorem shp_strs (cs : List Str) (h : ∀ c ∈ cs, PyData.strOk c = true) : SeqAt.shaped (.list (cs.map .str)) = true := by
  obtain ⟨h1, h2⟩ := lay_strs cs h
  simp [SeqAt.shaped, PyData.canLay0, PyData.depth, h1, h2]
theorem eqv_ints : ∀ (as bs : List Int), PyData.eqvAll (as.map .int) (bs.map .int) = decide (as = bs)
  | [], [] => by simp [PyData.eqvAll]
  | [], _ :: _ => by simp [PyData.eqvAll]
  | _ :: _, [] => by simp [PyData.eqvAll]
  | a :: as, b :: bs => by
    simp only [List.map_cons, PyData.eqvAll, PyData.eqv, eqv_ints as bs, List.cons.injEq]
    rw [Bool.decide_and]
    rfl
theorem eqv_strs : ∀ (as bs : List Str), PyData.eqvAll (as.map .str) (bs.map .str) = decide (as = bs)
  | [], [] => by simp [PyData.eqvAll]
  | [], _ :: _ => by simp [PyData.eqvAll]
  | _ :: _, [] => by simp [PyData.eqvAll]
  | a :: as, b :: bs => by
    simp only [List.map_cons, PyData.eqvAll, PyData.eqv, eqv_strs as bs, List.cons.injEq]
    rw [Bool.decide_and]
    rfl
theorem eq_ints (as bs : List Int) : d_eq (.lst (as.map .int)) (.lst (bs.map .int)) = some (.bl (decide (as = bs))) := by
  have h : eqDp (.lst (as.map .int)) (.lst (bs.map .int)) = some (decide (as = bs)) := by
    simp [eqDp, py, pyL_ints, shp_ints, PyData.eqv, eqv_ints]
  unfold d_eq
  rw [h]
  rfl
theorem eq_strs (as bs : List Str) (ha : ∀ c ∈ as, PyData.strOk c = true) (hb : ∀ c ∈ bs, PyData.strOk c = true) : d_eq (.lst (as.map .str)) (.lst (bs.map .str)) = some (.bl (decide (as = bs))) := by
  have h : eqDp (.lst (as.map .str)) (.lst (bs.map .str)) = some (decide (as = bs)) := by
    simp [eqDp, py, pyL_strs, shp_strs as ha, shp_strs bs hb, PyData.eqv, eqv_strs]
  unfold d_eq
  rw [h]
  rfl
def keptS : List Str := ["not", "never", "may"]
def letters : Str := "abcdefghijklmnopqrstuvwxyz"
def smallS (z : Str) : Prop := ∀ c ∈ z.cps.toList, 97 ≤ c ∧ c ≤ 122
instance (z : Str) : Decidable (smallS z) := inferInstanceAs (Decidable (∀ c ∈ z.cps.toList, 97 ≤ c ∧ c ≤ 122))
def isW (z : Str) : Prop := (1 ≤ z.length ∧ z.length ≤ 8) ∧ smallS z ∧ z ∉ keptS
instance (z : Str) : Decidable (isW z) := inferInstanceAs (Decidable (_ ∧ _ ∧ _))
theorem str_len (z : Str) : z.length = z.cps.toList.length := by simp [Str.length]
theorem flat_strs (ss : List Str) : (ss.map D.str).all flatD = true := by
  rw [List.all_eq_true]
  intro d hd
  obtain ⟨z, _, rfl⟩ := List.mem_map.mp hd
  rfl
theorem inD_strs (z : Str) (ss : List Str) : inD (.str z) (ss.map .str) = some (decide (z ∈ ss)) := by
  unfold inD
  rw [if_pos ⟨rfl, flat_strs ss⟩]
  congr 1
  induction ss with
  | nil => rfl
  | cons s ss ih =>
    rw [List.map_cons, List.any_cons, ih]
    show ((s == z) || decide (z ∈ ss)) = decide (z ∈ s :: ss)
    by_cases h : s = z
    · subst h; simp
    · have h2 : z ≠ s := fun e => h e.symm
      simp [h, h2]
theorem in_strs (neg : Bool) (z : Str) (ss : List Str) : d_in neg (.str z) (.lst (ss.map .str)) = some (.bl (if neg then !decide (z ∈ ss) else decide (z ∈ ss))) := by
  unfold d_in
  simp only [inD_strs]
  rfl
theorem in_strsT (neg : Bool) (z : Str) (ss : List Str) : d_in neg (.str z) (.tup (ss.map .str)) = some (.bl (if neg then !decide (z ∈ ss) else decide (z ∈ ss))) := by
  unfold d_in
  simp only [inD_strs]
  rfl
theorem in_sign (neg : Bool) (c : Nat) (z : Str) : d_in neg (.str ⟨#[c]⟩) (.str z) = some (.bl (if neg then !decide (c ∈ z.cps.toList) else decide (c ∈ z.cps.toList))) := rfl
theorem app_list (a b : Str) : (a ++ b).cps.toList = a.cps.toList ++ b.cps.toList := by
  show (Str.append a b).cps.toList = _
  simp [Str.append]
theorem small_ok {z : Str} (h : smallS z) : PyData.strOk z = true := by
  unfold PyData.strOk
  rw [Array.all_eq_true']
  intro c hc
  have := h c (by simpa using hc)
  simp; omega
theorem letters_small : smallS letters := by decide +kernel
theorem rng_no (lo : Int) (n : Nat) : ∀ d ∈ rng lo n, isLoc d = false := by
  intro d hd
  obtain ⟨i, _, rfl⟩ := List.mem_map.mp hd
  rfl
theorem rng_len (lo : Int) (n : Nat) : (rng lo n).length = n := by simp [rng]
theorem rng_1 {n : Int} (h : -100000 ≤ n ∧ n ≤ 100000) : rngOf [.int n] = some (rng 0 n.toNat) := by
  show (if _ then _ else _) = _
  rw [if_pos h]
def noText : D → Bool
  | .str _ => false
  | d => (((tyD d).bind fun a => kitB a "str")) == some false
theorem isi_text (z : Str) : d_isi "str" (.str z) = some (.bl true) := by
  unfold d_isi
  rfl
theorem isi_other {d : D} (h : noText d = true) : d_isi "str" d = some (.bl false) := by
  have : ((tyD d).bind fun a => kitB a "str") = some false := by
    cases d <;> first | (simp [noText] at h; exact h) | cases h
  unfold d_isi
  rw [this]
  rfl
theorem bls_of (bs : List Bool) : blsOf (bs.map .bl) = some bs := by
  induction bs with
  | nil => rfl
  | cons b bs ih => simp [blsOf, asBl, ih]
def smallD : D → Bool
  | .str x => x.cps.toList.all fun c => decide (97 ≤ c ∧ c ≤ 122)
  | _ => false
theorem one_lt (a b : Nat) : (([a] : List Nat) < [b]) ↔ a < b := by
  constructor
  · intro h
    cases h with
    | rel h => exact h
    | cons h => cases h
  · exact fun h => List.Lex.rel h
theorem le_az (c : Nat) : d_le (.str "a") (.str ⟨#[c]⟩) = some (.bl (decide (97 ≤ c))) ∧ d_le (.str ⟨#[c]⟩) (.str "z") = some (.bl (decide (c ≤ 122))) := by
  have ea : ("a" : Str).cps.toList = [97] := by decide +kernel
  have ez : ("z" : Str).cps.toList = [122] := by decide +kernel
  rw [le_str, le_str, ea, ez]
  constructor
  · congr 2
    rw [← decide_not, decide_eq_decide, one_lt]; omega
  · congr 2
    rw [← decide_not, decide_eq_decide, one_lt]; omega
theorem dd_nodup (ks acc : List Key) (h : (acc ++ ks).Nodup) : dd acc ks = acc ++ ks := by
  induction ks generalizing acc with
  | nil => simp [dd]
  | cons k ks ih =>
    have hk : inK acc k = false := by
      unfold inK
      rw [List.any_eq_false]
      intro x hx q
      have : x = k := of_decide_eq_true q
      subst this
      rw [List.nodup_append] at h
      exact h.2.2 x hx x (List.mem_cons_self ..) rfl
    show dd (if inK acc k = true then acc else acc ++ [k]) ks = _
    rw [hk, if_neg Bool.false_ne_true, ih _ (by simpa using h)]
    simp
theorem keys_strs (ss : List Str) : keysOf (ss.map .str) = some (ss.map Sum.inr) := by
  induction ss with
  | nil => rfl
  | cons s ss ih => simp [keysOf, keyOf, ih]
theorem lenset_lst {ss : List Str} (h : ss.Nodup) (hl : ss.length ≤ 4000) : d_lenset (.lst (ss.map .str)) = some (.int ss.length) := by
  show (keysOf (ss.map .str)).bind _ = _
  rw [keys_strs]
  show (if (ss.map Sum.inr : List Key).length ≤ 4000 then _ else _) = _
  have hn : ([] ++ (ss.map Sum.inr : List Key)).Nodup := by
    rw [List.nil_append]
    exact List.Pairwise.map _ (fun a b h e => h (Sum.inr.inj e)) h
  rw [if_pos (by simpa using hl), dd_nodup _ _ hn]
  simp
theorem lenset_tup {ss : List Str} (h : ss.Nodup) (hl : ss.length ≤ 4000) : d_lenset (.tup (ss.map .str)) = some (.int ss.length) := lenset_lst h hl
theorem pigeon {α : Type} [DecidableEq α] : ∀ (L T : List α), L.Nodup → (∀ x ∈ L, x ∈ T) → L.length ≤ T.length
  | [], _, _, _ => Nat.zero_le _
  | x :: L, T, hn, hs => by
    have hx := hs x (List.mem_cons_self ..)
    have hn' := List.nodup_cons.mp hn
    have h := pigeon L (T.erase x) hn'.2 fun y hy => (List.mem_erase_of_ne (fun e => hn'.1 (by rw [← e]; exact hy))).mpr (hs y (List.mem_cons_of_mem _ hy))
    rw [List.length_erase_of_mem hx] at h
    have := List.length_pos_of_mem hx
    rw [List.length_cons]; omega
theorem str_ext {a b : Str} (h : a.cps.toList = b.cps.toList) : a = b := by
  cases a; cases b
  congr 1
  exact Array.toList_inj.mp h
theorem strlen_app (a b : Str) : (a ++ b).length = a.length + b.length := by
  rw [str_len, app_list, List.length_append, ← str_len, ← str_len]
def cut7 (z : Str) : Str := cutS z none (some 7)
theorem cut7_len (z : Str) : (cut7 z).length ≤ 7 := by
  rw [str_len]
  show ((z.cps.toList.drop _).take _).length ≤ 7
  have e : HT.sIx z.length z.length (some 7) = min 7 z.length := HT.sIx_nat z.length z.length 7
  rw [e]
  simp only [List.length_take]
  omega
theorem cut7_small {z : Str} (h : smallS z) : smallS (cut7 z) := fun c hc => by
  have hc : c ∈ (z.cps.toList.drop _).take _ := hc
  exact h c (List.mem_of_mem_drop (List.mem_of_mem_take hc))
def sg (z : Str) (c : Nat) : Str := cut7 z ++ (⟨#[c]⟩ : Str)
theorem sg_list (z : Str) (c : Nat) : (sg z c).cps.toList = (cut7 z).cps.toList ++ [c] := by
  unfold sg
  rw [app_list]
theorem sg_W {z : Str} {c : Nat} (h : smallS z) (hc : c ∈ letters.cps.toList) (hk : sg z c ∉ keptS) : isW (sg z c) := by
  have l : (sg z c).length = (cut7 z).length + 1 := by
    unfold sg
    rw [strlen_app]; rfl
  have := cut7_len z
  refine ⟨⟨by omega, by omega⟩, fun x hx => ?_, hk⟩
  rw [sg_list] at hx
  rcases List.mem_append.mp hx with hx | hx
  · exact cut7_small h x hx
  · rw [List.mem_singleton.mp hx]; exact letters_small c hc
theorem some_sg (z : Str) (T : List Str) (h : T.length < 26) : ∃ c ∈ letters.cps.toList, sg z c ∉ T := by
  by_cases q : ∃ c ∈ letters.cps.toList, sg z c ∉ T
  · exact q
  · exfalso
    have all : ∀ x ∈ letters.cps.toList.map (sg z), x ∈ T := by
      intro x hx
      obtain ⟨c, hc, rfl⟩ := List.mem_map.mp hx
      by_cases hm : sg z c ∈ T
      · exact hm
      · exact absurd ⟨c, hc, hm⟩ q
    have nd : (letters.cps.toList.map (sg z)).Nodup := by
      refine List.Pairwise.map _ (fun a b hab e => ?_) (show letters.cps.toList.Nodup by decide +kernel)
      have := congrArg (fun s : Str => s.cps.toList) e
      simp only [sg_list] at this
      have := List.append_cancel_left this
      exact hab (by simpa using this)
    have := pigeon _ _ nd all
    rw [List.length_map, show letters.cps.toList.length = 26 by decide +kernel] at this
    omega
theorem isiN_lst (l : List D) : d_isiN ["list", "tuple"] (.lst l) = some (.bl true) := by
  unfold d_isiN
  rfl
theorem isiN_tup (l : List D) : d_isiN ["list", "tuple"] (.tup l) = some (.bl true) := by
  unfold d_isiN
  rfl
end Gd

/-! Hm, part 3: data told as values, and when such are alike; sequences. -/
namespace Gd
open PySem L2 PyProof.Rows

class Py (α : Type) where
  dv : α → D
  pv : α → PyData
  ok : α → Prop
  dp : Nat
  hpy : ∀ a, py (dv a) = some (pv a)
  heq : ∀ a b, PyData.eqv (pv a) (pv b) = true ↔ a = b
  hlay : ∀ a, ok a → PyData.canLay0 (pv a) = true
  hdp : ∀ a, PyData.depth (pv a) ≤ dp
theorem pyL_map {α : Type} [Py α] (xs : List α) : pyL (xs.map Py.dv) = some (xs.map Py.pv) := by
  induction xs with
  | nil => rfl
  | cons x xs ih => simp [pyL, Py.hpy, ih]
theorem eqvAll_map {α : Type} [Py α] : ∀ xs ys : List α, PyData.eqvAll (xs.map Py.pv) (ys.map Py.pv) = true ↔ xs = ys
  | [], [] => by simp [PyData.eqvAll]
  | [], _ :: _ => by simp [PyData.eqvAll]
  | _ :: _, [] => by simp [PyData.eqvAll]
  | x :: xs, y :: ys => by simp [PyData.eqvAll, Py.heq, eqvAll_map xs ys]
theorem layAll_map {α : Type} [Py α] (xs : List α) (h : ∀ x ∈ xs, Py.ok x) : PyData.canLayAll0 (xs.map Py.pv) = true := by
  induction xs with
  | nil => simp [PyData.canLayAll0]
  | cons x xs ih => simp [PyData.canLayAll0, Py.hlay x (h x (List.mem_cons_self ..)), ih fun y hy => h y (List.mem_cons_of_mem _ hy)]
theorem dpAll_map {α : Type} [Py α] (xs : List α) : PyData.depthAll (xs.map Py.pv) ≤ Py.dp α := by
  induction xs with
  | nil => simp [PyData.depthAll]
  | cons x xs ih =>
    have := Py.hdp x
    simp only [List.map_cons, PyData.depthAll]; omega
instance : Py Int where
  dv := .int
  pv := .int
  ok _ := True
  dp := 0
  hpy _ := rfl
  heq a b := by simp [PyData.eqv]
  hlay _ _ := by simp [PyData.canLay0]
  hdp _ := by simp [PyData.depth]
instance : Py Bool where
  dv := .bl
  pv := .bool
  ok _ := True
  dp := 0
  hpy _ := rfl
  heq a b := by simp [PyData.eqv]
  hlay _ _ := by simp [PyData.canLay0]
  hdp _ := by simp [PyData.depth]
instance : Py Str where
  dv := .str
  pv := .str
  ok z := PyData.strOk z = true
  dp := 0
  hpy _ := rfl
  heq a b := by simp [PyData.eqv]
  hlay _ h := by simpa [PyData.canLay0] using h
  hdp _ := by simp [PyData.depth]
/-- a text or None -/
def optD : Option Str → D
  | none => .non
  | some z => .str z
instance : Py (Option Str) where
  dv := optD
  pv o := match o with
    | none => .none
    | some z => .str z
  ok o := ∀ z, o = some z → PyData.strOk z = true
  dp := 0
  hpy o := by cases o <;> rfl
  heq a b := by cases a <;> cases b <;> simp [PyData.eqv]
  hlay o h := by cases o with
    | none => simp [PyData.canLay0]
    | some z => simpa [PyData.canLay0] using h z rfl
  hdp o := by cases o <;> simp [PyData.depth]
instance {α : Type} [Py α] : Py (List α) where
  dv xs := .lst (xs.map Py.dv)
  pv xs := .list (xs.map Py.pv)
  ok xs := ∀ x ∈ xs, Py.ok x
  dp := Py.dp α + 1
  hpy xs := by
    show (pyL (xs.map Py.dv)).map PyData.list = _
    rw [pyL_map]; rfl
  heq a b := by simp only [PyData.eqv]; exact eqvAll_map a b
  hlay xs h := by simp only [PyData.canLay0]; exact layAll_map xs h
  hdp xs := by
    have := dpAll_map xs
    simp only [PyData.depth]; omega
/-- a list told as a tuple -/
structure Tp (α : Type) where
  l : List α
deriving DecidableEq
theorem Tp.mk_inj {α : Type} {a b : List α} : (Tp.mk a = Tp.mk b) ↔ a = b := ⟨fun h => congrArg Tp.l h, fun h => congrArg Tp.mk h⟩
instance {α : Type} [Py α] : Py (Tp α) where
  dv xs := .tup (xs.l.map Py.dv)
  pv xs := .tuple (xs.l.map Py.pv)
  ok xs := ∀ x ∈ xs.l, Py.ok x
  dp := Py.dp α + 1
  hpy xs := by
    show (pyL (xs.l.map Py.dv)).map PyData.tuple = _
    rw [pyL_map]; rfl
  heq a b := by
    simp only [PyData.eqv]
    rw [eqvAll_map]
    cases a; cases b; simp
  hlay xs h := by simp only [PyData.canLay0]; exact layAll_map xs.l h
  hdp xs := by
    have := dpAll_map xs.l
    simp only [PyData.depth]; omega
/-- pairs, triples, quadruples: tuples -/
instance {α β : Type} [Py α] [Py β] : Py (α × β) where
  dv x := .tup [Py.dv x.1, Py.dv x.2]
  pv x := .tuple [Py.pv x.1, Py.pv x.2]
  ok x := Py.ok x.1 ∧ Py.ok x.2
  dp := max (Py.dp α) (Py.dp β) + 1
  hpy x := by simp [py, pyL, Py.hpy]
  heq a b := by
    simp only [PyData.eqv, PyData.eqvAll, Bool.and_eq_true, Py.heq]
    cases a; cases b; simp
  hlay x h := by simp [PyData.canLay0, PyData.canLayAll0, Py.hlay _ h.1, Py.hlay _ h.2]
  hdp x := by
    have := Py.hdp x.1
    have := Py.hdp x.2
    simp only [PyData.depth, PyData.depthAll]; omega
structure T3 (α β γ : Type) where
  a : α
  b : β
  c : γ
deriving DecidableEq
instance {α β γ : Type} [Py α] [Py β] [Py γ] : Py (T3 α β γ) where
  dv x := .tup [Py.dv x.a, Py.dv x.b, Py.dv x.c]
  pv x := .tuple [Py.pv x.a, Py.pv x.b, Py.pv x.c]
  ok x := Py.ok x.a ∧ Py.ok x.b ∧ Py.ok x.c
  dp := max (Py.dp α) (max (Py.dp β) (Py.dp γ)) + 1
  hpy x := by simp [py, pyL, Py.hpy]
  heq a b := by
    simp only [PyData.eqv, PyData.eqvAll, Bool.and_eq_true, Py.heq]
    cases a; cases b; simp
  hlay x h := by simp [PyData.canLay0, PyData.canLayAll0, Py.hlay _ h.1, Py.hlay _ h.2.1, Py.hlay _ h.2.2]
  hdp x := by
    have := Py.hdp x.a
    have := Py.hdp x.b
    have := Py.hdp x.c
    simp only [PyData.depth, PyData.depthAll]; omega
structure T4 (α β γ δ : Type) where
  a : α
  b : β
  c : γ
  d : δ
deriving DecidableEq
instance {α β γ δ : Type} [Py α] [Py β] [Py γ] [Py δ] : Py (T4 α β γ δ) where
  dv x := .tup [Py.dv x.a, Py.dv x.b, Py.dv x.c, Py.dv x.d]
  pv x := .tuple [Py.pv x.a, Py.pv x.b, Py.pv x.c, Py.pv x.d]
  ok x := Py.ok x.a ∧ Py.ok x.b ∧ Py.ok x.c ∧ Py.ok x.d
  dp := max (max (Py.dp α) (Py.dp β)) (max (Py.dp γ) (Py.dp δ)) + 1
  hpy x := by simp [py, pyL, Py.hpy]
  heq a b := by
    simp only [PyData.eqv, PyData.eqvAll, Bool.and_eq_true, Py.heq]
    cases a; cases b; simp
  hlay x h := by simp [PyData.canLay0, PyData.canLayAll0, Py.hlay _ h.1, Py.hlay _ h.2.1, Py.hlay _ h.2.2.1, Py.hlay _ h.2.2.2]
  hdp x := by
    have := Py.hdp x.a
    have := Py.hdp x.b
    have := Py.hdp x.c
    have := Py.hdp x.d
    simp only [PyData.depth, PyData.depthAll]; omega
theorem eqSc_py {d e : D} {b : Bool} {p q : PyData} (h : eqSc d e = some b) (hp : py d = some p) (hq : py e = some q) : b = PyData.eqv p q := by
  unfold eqSc at h
  split at h <;> cases h <;> cases hp <;> cases hq <;> simp [PyData.eqv, Bool.beq_eq_decide_eq]
theorem eqC_py {α : Type} [Py α] [DecidableEq α] (a b : α) (ha : Py.ok a) (hb : Py.ok b) (hd : Py.dp α ≤ 64) : (eqSc (Py.dv a) (Py.dv b)).or (eqDp (Py.dv a) (Py.dv b)) = some (decide (a = b)) := by
  have e0 : PyData.eqv (Py.pv a) (Py.pv b) = decide (a = b) := by
    rw [Bool.eq_iff_iff, Py.heq]; simp
  have e1 : eqDp (Py.dv a) (Py.dv b) = some (decide (a = b)) := by
    have s : ∀ x : α, Py.ok x → SeqAt.shaped (Py.pv x) = true := fun x hx => by
      have := Py.hdp x
      simp [SeqAt.shaped, Py.hlay x hx]; omega
    unfold eqDp
    rw [Py.hpy, Py.hpy]
    simp only [s a ha, s b hb, e0, and_self, if_true]
  cases e : eqSc (Py.dv a) (Py.dv b) with
  | none => rw [e1]; rfl
  | some c =>
    have := eqSc_py e (Py.hpy a) (Py.hpy b)
    rw [this, e0]; rfl
theorem eq_py {α : Type} [Py α] [DecidableEq α] (a b : α) (ha : Py.ok a) (hb : Py.ok b) (hd : Py.dp α ≤ 64 := by decide) : d_eq (Py.dv a) (Py.dv b) = some (.bl (decide (a = b))) := by
  unfold d_eq
  rw [eqC_py a b ha hb hd]; rfl
theorem ne_py {α : Type} [Py α] [DecidableEq α] (a b : α) (ha : Py.ok a) (hb : Py.ok b) (hd : Py.dp α ≤ 64 := by decide) : d_ne (Py.dv a) (Py.dv b) = some (.bl (!decide (a = b))) := by
  unfold d_ne
  rw [eqC_py a b ha hb hd]; rfl
theorem eqSc_none_asL {d : D} {p : PyData} (h : py d = some p) : asL d = none := by
  cases d <;> first | rfl | cases h
theorem eq5_py {α : Type} [Py α] [DecidableEq α] (a b : α) (ha : Py.ok a) (hb : Py.ok b) (hd : Py.dp α ≤ 64 := by decide) : d_eq5 (Py.dv a) (Py.dv b) = some (.bl (decide (a = b))) := by
  rw [eq5_of (eqSc_none_asL (Py.hpy a)), eq_py a b ha hb hd]
theorem ne5_py {α : Type} [Py α] [DecidableEq α] (a b : α) (ha : Py.ok a) (hb : Py.ok b) (hd : Py.dp α ≤ 64 := by decide) : d_ne5 (Py.dv a) (Py.dv b) = some (.bl (!decide (a = b))) := by
  rw [ne5_of (eqSc_none_asL (Py.hpy a)), ne_py a b ha hb hd]

/-! ### what is walked -/
/-- d is read as the items ds -/
inductive SeqOf (S : Sg) (ds : List D) : D → Prop where
  | lst : SeqOf S ds (.lst ds)
  | tup : SeqOf S ds (.tup ds)
  | obj {n : Nat} : S[n]? = some (.lst ds) → SeqOf S ds (.obj n)
theorem SeqOf.lo {S : Sg} {ds : List D} {d : D} (h : SeqOf S ds d) : isLoc d = false := by cases h <;> rfl
theorem SeqOf.src {S : Sg} {ds : List D} {d : D} (h : SeqOf S ds d) (own : Bool) (ρ : Ro) : ∃ gs, seqJ own ρ S d = some (ds, gs) := by
  cases h with
  | lst => exact ⟨_, rfl⟩
  | tup => exact ⟨_, rfl⟩
  | obj h => exact ⟨_, sj_obj h⟩
theorem SeqOf.de {S : Sg} {ds : List D} {d : D} (h : SeqOf S ds d) (ρ : Ro) : deref ρ S d = some (.lst ds) ∨ deref ρ S d = some (.tup ds) := by
  cases h with
  | lst => exact .inl rfl
  | tup => exact .inr rfl
  | obj h => exact .inl h
theorem SeqOf.len {S : Sg} {ds : List D} {d : D} (h : SeqOf S ds d) (ρ : Ro) : ((deref ρ S d).map fun a => [a]).bind (d_1 d_len5) = some (.int ds.length) := by
  rcases h.de ρ with e | e <;> rw [e] <;> rfl
theorem SeqOf.isi {S : Sg} {ds : List D} {d : D} (h : SeqOf S ds d) (ρ : Ro) : (deref ρ S d).bind (d_isiN ["list", "tuple"]) = some (.bl true) := by
  rcases h.de ρ with e | e <;> rw [e]
  · exact isiN_lst _
  · exact isiN_tup _
theorem SeqOf.tuple {S : Sg} {ds : List D} {d : D} (h : SeqOf S ds d) (ρ : Ro) : ((deref ρ S d).map fun a => [a]).bind (d_1 d_tuple) = some (.tup ds) := by
  rcases h.de ρ with e | e <;> rw [e] <;> rfl
theorem SeqOf.list {S : Sg} {ds : List D} {d : D} (h : SeqOf S ds d) (ρ : Ro) : ((deref ρ S d).map fun a => [a]).bind (d_1 d_list) = some (.lst ds) := by
  rcases h.de ρ with e | e <;> rw [e] <;> rfl
theorem SeqOf.app {S : Sg} {ds : List D} {d : D} (h : SeqOf S ds d) (X : Sg) : SeqOf (S ++ X) ds d := by
  cases h with
  | lst => exact .lst
  | tup => exact .tup
  | obj h => exact .obj (by rw [List.getElem?_append_left (List.getElem?_eq_some_iff.mp h).1]; exact h)
theorem getLast {S : Sg} {d : D} : (S ++ [d])[S.length]? = some d := by
  rw [List.getElem?_append_right (Nat.le_refl _), Nat.sub_self]; rfl
theorem getApp {S X : Sg} {n : Nat} {d : D} (h : S[n]? = some d) : (S ++ X)[n]? = some d := by
  rw [List.getElem?_append_left (List.getElem?_eq_some_iff.mp h).1]; exact h
theorem setLast {S : Sg} {d e : D} : (S ++ [d]).set S.length e = S ++ [e] := by
  rw [List.set_append_right _ _ (Nat.le_refl _), Nat.sub_self]; rfl
/-! ### all, any over texts told -/
theorem all_bls (bs : List Bool) : d_all (.lst (bs.map .bl)) = some (.bl (bs.all id)) := by
  show (blsOf _).map _ = _
  rw [bls_of]; rfl
theorem any_bls (bs : List Bool) : d_any (.lst (bs.map .bl)) = some (.bl (bs.any id)) := by
  show (blsOf _).map _ = _
  rw [bls_of]; rfl
theorem filter_true {α : Type} (xs : List α) : xs.filter (fun _ => true) = xs := List.filter_eq_self.mpr fun _ _ => rfl
/-- a comprehension without a test -/
theorem W_mapA {α : Type} {vs : List Nat} {mi : MJ} {tgt : D → Ro → Option Ro} {e : ME} {ρ : Ro} {S : Sg} {Q : D → Sg → Prop} (f : α → D) (xs : List α) (g : α → D)
    (h : (mi ρ S).W fun pr S1 => pr.1 = xs.map f ∧ (∀ x ∈ xs, ∃ ρ1, tgt (f x) (wipeR ρ vs) = some ρ1 ∧ (e ρ1 S1).W fun y S2 => y = g x ∧ isLoc y = false ∧ S2 = S1) ∧ xs.length ≤ 100000 ∧ Q (.lst (xs.map g)) S1) : (f_lcG vs mi tgt t_yes e ρ S).W Q := by
  refine W_mapG f xs (fun _ => true) g (h.mono fun pr S1 h => ⟨h.1, fun x hx => ?_, h.2.2.1, by rw [filter_true]; exact h.2.2.2⟩)
  obtain ⟨ρ1, h1, h2⟩ := h.2.1 x hx
  exact ⟨ρ1, h1, by simp, fun _ => h2⟩
end Gd

/-! Hm, part 4: dict comprehensions, read forwards. -/
namespace Gd
open PySem L2 PyProof.Rows

section
variable {ρ : Ro} {S : Sg} {Q : D → Sg → Prop}
theorem dcLG_eq {α : Type} {gs : List Nat} {tgt : Tgt} {t : MT} {mk mv : ME} {ρ : Ro} {S : Sg} (f : α → D) (p : α → Bool) (k : α → Key) (v : α → D) : ∀ xs : List α,
    (∀ x ∈ xs, ∃ ρ1, tgt (f x) ρ = some ρ1 ∧ (t ρ1 S).W (fun b S2 => b = p x ∧ S2 = S) ∧ (p x = true → (mk ρ1 S).W fun kd S2 => (keyOf kd = some (k x) ∧ S2 = S) ∧ (mv ρ1 S).W fun y S3 => y = v x ∧ isLoc y = false ∧ S3 = S)) →
    dcLG gs S tgt t mk mv ρ (xs.map f) S = .ok ((xs.filter p).map fun x => (k x, v x)) S
  | [], _ => by
    have sm : Same gs S S := fun _ _ => rfl
    rw [List.map_nil]
    unfold dcLG
    rw [if_pos sm]
    rfl
  | x :: xs, h => by
    have ih := dcLG_eq (gs := gs) f p k v xs fun y hy => h y (List.mem_cons_of_mem _ hy)
    obtain ⟨ρ1, h1, h2, h3⟩ := h x (List.mem_cons_self ..)
    have e2 := W_eqOk h2
    rw [List.map_cons]
    unfold dcLG
    rw [if_pos (show Same gs _ _ from fun _ _ => rfl), h1]
    show (noEr (t ρ1 S)).bind _ = _
    rw [e2]
    show (if p x = true then _ else _) = _
    cases hp : p x with
    | false =>
      rw [if_neg Bool.false_ne_true, List.filter_cons, if_neg (by rw [hp]; exact Bool.false_ne_true)]
      exact ih
    | true =>
      rw [if_pos rfl]
      obtain ⟨kd, S2, ek, ⟨k1, rfl⟩, h4⟩ := (h3 hp).eq
      obtain ⟨y, S3, ev, rfl, k2, rfl⟩ := h4.eq
      rw [ek]
      show (noEr (mv ρ1 S3)).bind _ = _
      rw [ev]
      show (match keyOf kd with
        | none => _
        | some key => _) = _
      rw [k1]
      show (if isLoc (v x) = true then _ else _) = _
      rw [if_neg (by rw [k2]; exact Bool.false_ne_true), ih, List.filter_cons, if_pos (by rw [hp])]
      rfl
theorem W_dcA {α : Type} {vs : List Nat} {mi : MJ} {tgt : Tgt} {t : MT} {mk mv : ME} (f : α → D) (xs : List α) (p : α → Bool) (k : α → Key) (v : α → D)
    (h : (mi ρ S).W fun pr S1 => pr.1 = xs.map f ∧ (∀ x ∈ xs, ∃ ρ1, tgt (f x) (wipeR ρ vs) = some ρ1 ∧ (t ρ1 S1).W (fun b S2 => b = p x ∧ S2 = S1) ∧ (p x = true → (mk ρ1 S1).W fun kd S2 => (keyOf kd = some (k x) ∧ S2 = S1) ∧ (mv ρ1 S1).W fun y S3 => y = v x ∧ isLoc y = false ∧ S3 = S1)) ∧ xs.length ≤ 100000 ∧
      Q (.dct (kmerge [] ((xs.filter p).map fun x => (k x, v x)))) S1) : (f_dcG vs mi tgt t mk mv ρ S).W Q := by
  obtain ⟨⟨ds, gs⟩, S1, e1, h0, h1, h2, h3⟩ := h.eq
  have h0 : ds = xs.map f := h0
  subst h0
  unfold f_dcG
  rw [e1]
  show ((dcLG gs S1 tgt t mk mv (wipeR ρ vs) (xs.map f) S1).bind dcEnd).W Q
  rw [dcLG_eq f p k v xs h1]
  show (dcEnd _ S1).W Q
  unfold dcEnd
  rw [if_pos (by rw [List.length_map]; exact Nat.le_trans (List.length_filter_le ..) h2)]
  exact h3
theorem dcL2_eq {α β : Type} {gs : List Nat} {tgt tgt1 : Tgt} {mi1 : MJ} {mk mv : ME} {vs1 : List Nat} {ρ : Ro} {S : Sg} (f : α → D) (f1 : α → β → D) (ys : α → List β) (k : α → β → Key) (v : α → β → D) : ∀ xs : List α,
    (∀ x ∈ xs, ∃ ρ1, tgt (f x) ρ = some ρ1 ∧ (mi1 ρ1 S).W fun pr1 S2 => (pr1.1 = (ys x).map (f1 x) ∧ S2 = S) ∧ ∀ y ∈ ys x, ∃ ρ2, tgt1 (f1 x y) (wipeR (unown ρ1) vs1) = some ρ2 ∧ (mk ρ2 S).W fun kd S3 => (keyOf kd = some (k x y) ∧ S3 = S) ∧ (mv ρ2 S).W fun z S4 => z = v x y ∧ isLoc z = false ∧ S4 = S) →
    dcL2 gs S tgt t_yes mi1 tgt1 t_yes mk mv vs1 ρ (xs.map f) S = .ok (xs.flatMap fun x => (ys x).map fun y => (k x y, v x y)) S
  | [], _ => by
    have sm : Same gs S S := fun _ _ => rfl
    rw [List.map_nil]
    unfold dcL2
    rw [if_pos sm]
    rfl
  | x :: xs, h => by
    have ih := dcL2_eq (gs := gs) f f1 ys k v xs fun y hy => h y (List.mem_cons_of_mem _ hy)
    obtain ⟨ρ1, h1, h2⟩ := h x (List.mem_cons_self ..)
    obtain ⟨⟨ds, gs1⟩, S2, e2, ⟨h3, rfl⟩, h4⟩ := h2.eq
    have h3 : ds = (ys x).map (f1 x) := h3
    subst h3
    rw [List.map_cons]
    unfold dcL2
    rw [if_pos (show Same gs _ _ from fun _ _ => rfl), h1]
    show (noEr (mi1 ρ1 S2)).bind _ = _
    rw [e2]
    show (dcLG gs1 S2 tgt1 t_yes mk mv (wipeR (unown ρ1) vs1) ((ys x).map (f1 x)) S2).bind _ = _
    rw [dcLG_eq (f1 x) (fun _ => true) (k x) (v x) (ys x) fun y hy => by
      obtain ⟨ρ2, q1, q2⟩ := h4 y hy
      exact ⟨ρ2, q1, by simp, fun _ => q2⟩, filter_true]
    show (dcL2 gs S2 tgt t_yes mi1 tgt1 t_yes mk mv vs1 ρ (xs.map f) S2).bind _ = _
    rw [ih]
    rfl
theorem W_dc2A {α β : Type} {vs vs1 : List Nat} {mi mi1 : MJ} {tgt tgt1 : Tgt} {mk mv : ME} (f : α → D) (xs : List α) (f1 : α → β → D) (ys : α → List β) (k : α → β → Key) (v : α → β → D)
    (h : (mi ρ S).W fun pr S1 => pr.1 = xs.map f ∧ (∀ x ∈ xs, ∃ ρ1, tgt (f x) (wipeR ρ vs) = some ρ1 ∧ (mi1 ρ1 S1).W fun pr1 S2 => (pr1.1 = (ys x).map (f1 x) ∧ S2 = S1) ∧ ∀ y ∈ ys x, ∃ ρ2, tgt1 (f1 x y) (wipeR (unown ρ1) vs1) = some ρ2 ∧ (mk ρ2 S1).W fun kd S3 => (keyOf kd = some (k x y) ∧ S3 = S1) ∧ (mv ρ2 S1).W fun z S4 => z = v x y ∧ isLoc z = false ∧ S4 = S1) ∧
      (xs.flatMap ys).length ≤ 100000 ∧ Q (.dct (kmerge [] (xs.flatMap fun x => (ys x).map fun y => (k x y, v x y)))) S1) : (f_dc2 vs mi tgt t_yes mi1 tgt1 t_yes mk mv vs1 ρ S).W Q := by
  obtain ⟨⟨ds, gs⟩, S1, e1, h0, h1, h2, h3⟩ := h.eq
  have h0 : ds = xs.map f := h0
  subst h0
  unfold f_dc2
  rw [e1]
  show ((dcL2 gs S1 tgt t_yes mi1 tgt1 t_yes mk mv vs1 (wipeR ρ vs) (xs.map f) S1).bind dcEnd).W Q
  rw [dcL2_eq f f1 ys k v xs h1]
  show (dcEnd _ S1).W Q
  unfold dcEnd
  have hl : (xs.flatMap fun x => (ys x).map fun y => (k x y, v x y)).length = (xs.flatMap ys).length := by
    rw [List.length_flatMap, List.length_flatMap]
    congr 1
    refine List.map_congr_left fun x _ => ?_
    rw [List.length_map]
  rw [if_pos (by rw [hl]; exact h2)]
  exact h3
end
end Gd

/-! Hm, part 5: words of the text told apart; dicts in view; stores that grow. -/
namespace Gd
open PySem L2 PyProof.Rows

@[simp] theorem ex_pair {A B : Type} {a : A} {b : B} {P : A × B → Prop} : (∃ x y, (a = x ∧ b = y) ∧ P (x, y)) = P (a, b) := propext ⟨fun ⟨_, _, ⟨h1, h2⟩, k⟩ => by subst h1 h2; exact k, fun k => ⟨_, _, ⟨rfl, rfl⟩, k⟩⟩
@[simp] theorem ex_pair2 {A B : Type} {a : A} {b : B} {P : A → B → Prop} : (∃ x y, (a = x ∧ b = y) ∧ P x y) = P a b := propext ⟨fun ⟨_, _, ⟨h1, h2⟩, k⟩ => by subst h1 h2; exact k, fun k => ⟨_, _, ⟨rfl, rfl⟩, k⟩⟩
@[simp] theorem ex_pair3 {A B : Type} {a : A} {b : B} {P : A → B → Prop} : (∃ x y, (a = x ∧ y = b) ∧ P x y) = P a b := propext ⟨fun ⟨_, _, ⟨h1, h2⟩, k⟩ => by subst h1 h2; exact k, fun k => ⟨_, _, ⟨rfl, rfl⟩, k⟩⟩
@[simp] theorem ko_str (z : Str) : keyOf (.str z) = some (.inr z) := rfl
@[simp] theorem ko_int (z : Int) : keyOf (.int z) = some (.inl z) := rfl
theorem charNat_inj {a b : Char} (h : a.toNat = b.toNat) : a = b := Char.toNat_inj.mp h
@[simp] theorem ofS_inj (a b : String) : (Str.ofString a = Str.ofString b) = (a = b) := by
  refine propext ⟨fun h => ?_, fun h => by rw [h]⟩
  rw [Str.ofString_eq_toList, Str.ofString_eq_toList] at h
  have h1 : (a.toList.map Char.toNat).toArray = (b.toList.map Char.toNat).toArray := congrArg Str.cps h
  have h2 : a.toList.map Char.toNat = b.toList.map Char.toNat := by simpa using h1
  have h3 : a.toList = b.toList := (List.map_inj_right fun x y e => charNat_inj e).mp h2
  exact String.toList_inj.mp h3
@[simp] theorem kget_nil {κ : Type} [DecidableEq κ] (k : κ) : kget ([] : List (κ × D)) k = none := rfl
@[simp] theorem kget_cons {κ : Type} [DecidableEq κ] (a : κ) (v : D) (r : List (κ × D)) (k : κ) : kget ((a, v) :: r) k = if a = k then some v else kget r k := by
  unfold kget
  rw [List.find?_cons]
  by_cases h : a = k
  · simp [h]
  · simp [h]
theorem kput_at (kvs : List (Key × D)) (k : Key) (v : D) (h : (kvs.any fun kv => decide (kv.1 = k)) = true) : kput kvs k v = kvs.map (fun kv => if kv.1 = k then (kv.1, v) else kv) := if_pos h
/-- what is sawn off a budget -/
structure Grows (n g : Nat) (S S' : Sg) : Prop where
  len : S.length ≤ S'.length
  at' : ∀ i, i < S.length → i ≠ n → i ≠ g → S'[i]? = S[i]?
theorem Grows.refl {n g : Nat} {S : Sg} : Grows n g S S := ⟨Nat.le_refl _, fun _ _ _ _ => rfl⟩
theorem Grows.trans {n g : Nat} {S S1 S2 : Sg} (a : Grows n g S S1) (b : Grows n g S1 S2) : Grows n g S S2 := ⟨Nat.le_trans a.len b.len, fun i h h1 h2 => (b.at' i (Nat.lt_of_lt_of_le h a.len) h1 h2).trans (a.at' i h h1 h2)⟩
theorem Grows.setN {n g : Nat} {S : Sg} (d : D) : Grows n g S (S.set n d) := ⟨by rw [List.length_set]; exact Nat.le_refl _, fun i _ h1 _ => by rw [List.getElem?_set_ne (Ne.symm h1)]⟩
theorem Grows.setG {n g : Nat} {S : Sg} (d : D) : Grows n g S (S.set g d) := ⟨by rw [List.length_set]; exact Nat.le_refl _, fun i _ _ h1 => by rw [List.getElem?_set_ne (Ne.symm h1)]⟩
theorem Grows.app {n g : Nat} {S : Sg} (X : Sg) : Grows n g S (S ++ X) := ⟨by rw [List.length_append]; omega, fun i h _ _ => by rw [List.getElem?_append_left h]⟩
theorem Grows.set {n g : Nat} {S S1 : Sg} (h : Grows n g S S1) {k : Nat} (hk : S.length ≤ k) (d : D) : Grows n g S (S1.set k d) := ⟨by rw [List.length_set]; exact h.len, fun i h0 h1 h2 => by rw [List.getElem?_set_ne (by omega)]; exact h.at' i h0 h1 h2⟩
theorem SeqOf.grows {n g : Nat} {S S1 : Sg} {ds : List D} {d : D} (h : SeqOf S ds d) (gr : Grows n g S S1) (hn : ∀ k, d = .obj k → k ≠ n ∧ k ≠ g) : SeqOf S1 ds d := by
  cases h with
  | lst => exact .lst
  | tup => exact .tup
  | obj h =>
    obtain ⟨h1, h2⟩ := hn _ rfl
    exact .obj (by rw [gr.at' _ (List.getElem?_eq_some_iff.mp h).1 h1 h2]; exact h)
/-- W_mapG where the items come with the source -/
theorem W_mapX {α : Type} {vs : List Nat} {mi : MJ} {tgt : D → Ro → Option Ro} {t : MT} {e : ME} {ρ : Ro} {S : Sg} {Q : D → Sg → Prop} (f : α → D) (p : α → Bool) (g : α → D)
    (h : (mi ρ S).W fun pr S1 => ∃ xs : List α, pr.1 = xs.map f ∧ (∀ x ∈ xs, ∃ ρ1, tgt (f x) (wipeR ρ vs) = some ρ1 ∧ (t ρ1 S1).W (fun b S2 => b = p x ∧ S2 = S1) ∧ (p x = true → (e ρ1 S1).W fun y S2 => y = g x ∧ isLoc y = false ∧ S2 = S1)) ∧ xs.length ≤ 100000 ∧ Q (.lst ((xs.filter p).map g)) S1) : (f_lcG vs mi tgt t e ρ S).W Q := by
  obtain ⟨pr, S1, e1, xs, h⟩ := h.eq
  exact W_mapG f xs p g (by rw [e1]; exact h)
end Gd

/-! Hm, part 6: the forms of Gd30..Gd40, read forwards; dicts of numbers. -/
namespace Gd
open PySem L2 PyProof.Rows

section
variable {ρ : Ro} {S : Sg} {Q : D → Sg → Prop} {nx : Ro → Sg → Prop} {rt : D → Sg → Prop}
theorem W_frzD {i : Nat} {m : MS} {l : List (Key × D)} (h : ρ[i]? = some (.ow (.dct l))) (k : (m (ρ.set i (.va (.dcf l))) S).W nx rt) : (s_frz i m ρ S).W nx rt := by
  unfold s_frz
  rw [h]; exact k
theorem W_frzL {i : Nat} {m : MS} {l : List D} (h : ρ[i]? = some (.ow (.lst l))) (k : (m (ρ.set i (.va (.lst l))) S).W nx rt) : (s_frz i m ρ S).W nx rt := by
  unfold s_frz
  rw [h]; exact k
@[simp] theorem W_jdcf (f : List (Key × D) → List D) (m : ME) (Q : List D × List Nat → Sg → Prop) : (j_dcf f m ρ S).W Q = (m ρ S).W fun d S1 => ∃ z, dcfJ f d = some z ∧ Q z S1 := by simp [j_dcf]
@[simp] theorem dcfJ_dcf (f : List (Key × D) → List D) (l : List (Key × D)) : dcfJ f (.dcf l) = some (f l, []) := rfl
@[simp] theorem W_none1 : (f_none1 ρ S).W Q = Q (.dcl [(.none, .non)]) S := rfl
theorem W_or2 {g : List Key → Option D} {a b : ME} (h : (a ρ S).W fun d S1 => ∃ ks, (deref ρ S1 d).bind keysD = some ks ∧ ks.length < 32 ∧ (b ρ S1).W fun e S2 => ∃ ks2, (deref ρ S2 e).bind keysD = some ks2 ∧ ks2.length < 32 ∧ ∃ z, g (ks ++ ks2) = some z ∧ Q z S2) :
    (e_or2 g a b ρ S).W Q := by
  unfold e_or2
  rw [W_bind]
  refine h.mono fun d S1 ⟨ks, e1, l1, h⟩ => ?_
  rw [e1]
  show (if ks.length < 32 then _ else _ : Out D).W Q
  rw [if_pos l1, W_bind]
  refine h.mono fun e S2 ⟨ks2, e2, l2, z, ez, q⟩ => ?_
  rw [e2]
  show (if ks2.length < 32 then _ else _ : Out D).W Q
  rw [if_pos l2, ez]
  exact q
end
/-! ### dicts of numbers -/
def numK (l : List (Str × Int)) : List (Key × D) := l.map fun p => (.inr p.1, .int p.2)
def ksN (l : List (Str × Int)) : List Str := l.map (·.1)
def numAt (l : List (Str × Int)) (z : Str) : Option Int := (l.find? fun p => decide (p.1 = z)).map (·.2)
@[simp] theorem numK_len (l : List (Str × Int)) : (numK l).length = l.length := List.length_map ..
theorem numK_app (l m : List (Str × Int)) : numK (l ++ m) = numK l ++ numK m := List.map_append
theorem numK_keys (l : List (Str × Int)) : (numK l).map (·.1) = (ksN l).map Sum.inr := by
  unfold numK ksN
  rw [List.map_map, List.map_map]; rfl
theorem kget_num (l : List (Str × Int)) (z : Str) : kget (numK l) (.inr z) = (numAt l z).map .int := by
  induction l with
  | nil => rfl
  | cons p l ih =>
    show kget ((.inr p.1, .int p.2) :: numK l) (.inr z) = _
    rw [kget_cons]
    unfold numAt
    rw [List.find?_cons]
    by_cases h : p.1 = z
    · simp [h]
    · rw [if_neg (fun e => h (Sum.inr.inj e)), ih]
      simp only [h, decide_false]
      rfl
theorem numAt_mem {l : List (Str × Int)} {z : Str} : (numAt l z).isSome = decide (z ∈ ksN l) := by
  induction l with
  | nil => rfl
  | cons p l ih =>
    unfold numAt
    rw [List.find?_cons]
    by_cases h : p.1 = z
    · subst h; simp [ksN]
    · have h2 : ¬ z = p.1 := fun e => h e.symm
      have e : decide (z ∈ ksN (p :: l)) = decide (z ∈ ksN l) := by
        have : (z ∈ ksN (p :: l)) ↔ (z = p.1 ∨ z ∈ ksN l) := List.mem_cons
        simp [this, h2]
      rw [e, ← ih]
      simp [h, numAt]
theorem numAt_of {l : List (Str × Int)} (nd : (ksN l).Nodup) {z : Str} {n : Int} (h : (z, n) ∈ l) : numAt l z = some n := by
  induction l with
  | nil => cases h
  | cons p l ih =>
    have nd2 := List.nodup_cons.mp nd
    unfold numAt
    rw [List.find?_cons]
    rcases List.mem_cons.mp h with rfl | h
    · simp
    · have : p.1 ≠ z := fun e => nd2.1 (List.mem_map.mpr ⟨(z, n), h, e.symm⟩)
      simp only [this, decide_false]
      exact ih nd2.2 h
theorem any_num (l : List (Str × Int)) (z : Str) : ((numK l).any fun kv => decide (kv.1 = Sum.inr z)) = decide (z ∈ ksN l) := by
  rw [Bool.eq_iff_iff, List.any_eq_true, decide_eq_true_iff]
  constructor
  · rintro ⟨kv, h, e⟩
    obtain ⟨p, hp, rfl⟩ := List.mem_map.mp h
    have e : (Sum.inr p.1 : Key) = Sum.inr z := of_decide_eq_true e
    cases e
    exact List.mem_map.mpr ⟨p, hp, rfl⟩
  · intro h
    obtain ⟨p, hp, rfl⟩ := List.mem_map.mp h
    exact ⟨_, List.mem_map.mpr ⟨p, hp, rfl⟩, by simp⟩
def putN (l : List (Str × Int)) (z : Str) (n : Int) : List (Str × Int) := if z ∈ ksN l then l.map fun p => if p.1 = z then (p.1, n) else p else l ++ [(z, n)]
theorem kput_num (l : List (Str × Int)) (z : Str) (n : Int) : kput (numK l) (.inr z) (.int n) = numK (putN l z n) := by
  unfold kput putN
  rw [any_num]
  by_cases h : z ∈ ksN l
  · simp only [h, decide_true, if_true]
    unfold numK
    rw [List.map_map, List.map_map]
    refine List.map_congr_left fun p hp => ?_
    show (if (Sum.inr p.1 : Key) = Sum.inr z then ((Sum.inr p.1 : Key), D.int n) else _) = _
    by_cases e : p.1 = z
    · simp [e]
    · simp [e]
  · simp only [h, decide_false, if_false]
    rw [if_neg Bool.false_ne_true]
    unfold numK
    rw [List.map_append]; rfl
theorem putN_new {l : List (Str × Int)} {z : Str} (n : Int) (h : z ∉ ksN l) : putN l z n = l ++ [(z, n)] := if_neg h
theorem kput_new {l : List (Str × Int)} {z : Str} (n : Int) (h : z ∉ ksN l) : kput (numK l) (.inr z) (.int n) = numK (l ++ [(z, n)]) := by rw [kput_num, putN_new n h]
theorem in_num (neg : Bool) (z : Str) (l : List (Str × Int)) : d_in5 neg (.str z) (.dct (numK l)) = some (.bl (if neg then !decide (z ∈ ksN l) else decide (z ∈ ksN l))) := by
  have e : d_inD neg (.str z) (.dct (numK l)) = some (.bl (if neg then !decide (z ∈ ksN l) else decide (z ∈ ksN l))) := by
    show (some ((kget (numK l) (.inr z)).isSome)).map _ = _
    rw [kget_num, ← numAt_mem]
    simp
  show (d_in neg (.str z) (.dct (numK l))).or _ = _
  rw [e]
  have : d_in neg (.str z) (.dct (numK l)) = none := rfl
  rw [this]; rfl
theorem ne5_dct0 (l : List (Key × D)) : d_ne5 (.dct l) (.dct []) = some (.bl (!decide (l = []))) := by
  cases l with
  | nil => rfl
  | cons p l => rfl
theorem ne5_dcf0 (l : List (Key × D)) : d_ne5 (.dcf l) (.dct []) = some (.bl (!decide (l = []))) := by
  cases l with
  | nil => rfl
  | cons p l => rfl
theorem ne5_dcl0 : d_ne5 (.dcl [(.none, .non)]) (.dct []) = some (.bl true) := rfl
/-! ### items with their places -/
def enF {α : Type} (f : α → D) : Nat → List α → List D
  | _, [] => []
  | k, x :: xs => .tup [.int k, f x] :: enF f (k + 1) xs
theorem enF_len {α : Type} (f : α → D) : ∀ (xs : List α) (k : Nat), (enF f k xs).length = xs.length
  | [], _ => rfl
  | x :: xs, k => by simp [enF, enF_len f xs]
theorem enF_get {α : Type} (f : α → D) : ∀ (xs : List α) (k i : Nat), (enF f k xs)[i]? = (xs[i]?).map fun x => D.tup [.int ((k + i : Nat) : Int), f x]
  | [], _, _ => rfl
  | x :: xs, k, 0 => rfl
  | x :: xs, k, i + 1 => by
    show (enF f (k + 1) xs)[i]? = _
    rw [enF_get f xs (k + 1) i]
    simp only [List.getElem?_cons_succ]
    rw [show k + 1 + i = k + (i + 1) by omega]
theorem enumD_enF {α : Type} (f : α → D) (xs : List α) : enumD (xs.map f) = enF f 0 xs := by
  refine List.ext_getElem? fun i => ?_
  rw [enF_get]
  unfold enumD
  rw [List.getElem?_map, List.length_map]
  by_cases h : i < xs.length
  · rw [List.getElem?_range h, List.getElem?_eq_getElem h]
    have : (xs.map f).getD i .non = f xs[i] := by
      rw [List.getD_eq_getElem?_getD, List.getElem?_map, List.getElem?_eq_getElem h]; rfl
    simp only [Option.map_some, this, Nat.zero_add]
  · rw [List.getElem?_eq_none (by simpa using h), List.getElem?_eq_none (by omega)]; rfl
theorem SeqOf.enum {S : Sg} {ds : List D} {d : D} (h : SeqOf S ds d) (own : Bool) (ρ : Ro) : ∃ gs, enumJ own ρ S d = some (enumD ds, gs) ∧ ∀ S', SeqOf S' ds d → Same gs S S' := by
  cases h with
  | lst => exact ⟨[], rfl, fun _ _ => .nil⟩
  | tup => exact ⟨[], rfl, fun _ _ => .nil⟩
  | @obj n h =>
    refine ⟨[n], ?_, fun S' h' m hm => ?_⟩
    · show (match S[n]? with
        | some (.lst ds) => some (ds, [n])
        | _ => none).map (fun p : List D × List Nat => (enumD p.1, p.2)) = _
      rw [h]; rfl
    · rw [List.mem_singleton.mp hm]
      cases h' with
      | obj h' => rw [h, h']
theorem SeqOf.src2 {S : Sg} {ds : List D} {d : D} (h : SeqOf S ds d) (own : Bool) (ρ : Ro) : ∃ gs, seqJ own ρ S d = some (ds, gs) ∧ ∀ S', SeqOf S' ds d → Same gs S S' := by
  cases h with
  | lst => exact ⟨[], rfl, fun _ _ => .nil⟩
  | tup => exact ⟨[], rfl, fun _ _ => .nil⟩
  | @obj n h =>
    refine ⟨[n], sj_obj h, fun S' h' m hm => ?_⟩
    rw [List.mem_singleton.mp hm]
    cases h' with
    | obj h' => rw [h, h']
end Gd

/-! Hr, part 1: names, rules, bases: what the library's mirrors of them answer. -/
namespace Gd
open PySem L2 PyProof.Rows

/-- a value that may stand in a list of drawn things -/
def plainE : D → Bool
  | .str z => decide (z.length ≤ 100000)
  | .obj _ => false
  | .loc _ => false
  | d => noText d
theorem plainE.de {d : D} (h : plainE d = true) (ρ : Ro) (S : Sg) : deref ρ S d = some d := by cases d <;> first | rfl | cases h
theorem plainE.lo {d : D} (h : plainE d = true) : isLoc d = false := by cases d <;> first | rfl | cases h
def isNmD : D → Bool
  | .str z => decide (isW z)
  | _ => false
theorem is_name_eq {d : D} (h : plainE d = true) (S : Sg) : Lb.m_is_name [d] S = .ok (.bl (isNmD d)) S := by
  refine W_eqOk ?_
  unfold Lb.m_is_name
  rw [W_fn]
  refine ⟨rfl, ?_⟩
  unfold Lb.b_is_name
  refine seq_of fun N hN => ?_
  by_cases ht : noText d = true
  · simp [List.replicate, plainE.de h, isi_other ht]
    cases d <;> first | rfl | cases ht
  · cases d with
    | str z =>
      have hl : z.length ≤ 100000 := of_decide_eq_true h
      have ein : d_in false (.str z) (.tup [.str "not", .str "never", .str "may"]) = some (.bl (decide (z ∈ keptS))) := in_strsT false z keptS
      have e1 : (1 : Int) ≤ (z.length : Int) ↔ 1 ≤ z.length := by omega
      have e8 : (z.length : Int) ≤ 8 ↔ z.length ≤ 8 := by omega
      simp [List.replicate, isi_text, hl, ein]
      by_cases c1 : 1 ≤ z.length
      · by_cases c8 : z.length ≤ 8
        · by_cases ck : z ∈ keptS
          · have hw : ¬ isW z := fun w => w.2.2 ck
            simp [e1, e8, c1, c8, ck]
            simp [isNmD, hw]
          · simp [e1, e8, c1, c8, ck]
            refine hN _ _ ?_
            rw [W_ret, W_cb, W_acons]
            refine W_mapA (fun c => D.str ⟨#[c]⟩) z.cps.toList (fun c => .bl (decide (97 ≤ c) && decide (c ≤ 122))) ?_
            simp [List.replicate, wipeR, -le_str]
            refine ⟨rfl, ?_, ?_, ?_⟩
            · intro c hc
              simp [(le_az c).1, (le_az c).2, -le_str]
              by_cases h : 97 ≤ c <;> simp [h]
            · rw [← Array.length_toList, ← str_len]; omega
            · have e : z.cps.toList.map (fun c => D.bl (decide (97 ≤ c) && decide (c ≤ 122))) = (z.cps.toList.map fun c => decide (97 ≤ c ∧ c ≤ 122)).map .bl := by
                rw [List.map_map]
                refine List.map_congr_left fun c _ => ?_
                simp
              rw [e, all_bls]
              have hw : (List.map (fun c => decide (97 ≤ c ∧ c ≤ 122)) z.cps.toList).all id = decide (isW z) := by
                rw [Bool.eq_iff_iff, decide_eq_true_iff, List.all_map, List.all_eq_true]
                constructor
                · intro h
                  exact ⟨⟨c1, c8⟩, fun c hc => by simpa using h c hc, ck⟩
                · intro h c hc
                  simpa using h.2.1 c hc
              rw [hw]
              simp [isNmD]
        · have hw : ¬ isW z := fun w => c8 w.1.2
          simp [e1, e8, c1, c8]
          simp [isNmD, hw]
      · have hw : ¬ isW z := fun w => c1 w.1.1
        simp [e1, c1]
        simp [isNmD, hw]
    | _ => exact absurd h (by simpa [plainE] using ht)
theorem plain_str {z : Str} (h : isW z) : plainE (.str z) = true := decide_eq_true (by have := h.1.2; omega)
@[simp] theorem is_name_str {z : Str} (h : z.length ≤ 100000) (S : Sg) : Lb.m_is_name [.str z] S = .ok (.bl (decide (isW z))) S := is_name_eq (d := .str z) (decide_eq_true h) S
/-! ### lists of names -/
def strsD (ds : List D) : List Str := ds.filterMap fun d => match d with
  | .str z => some z
  | _ => none
def areD (most : Int) (ds : List D) : Bool := decide ((ds.length : Int) ≤ most) && (ds.all isNmD && decide (strsD ds).Nodup)
theorem strsD_map (ss : List Str) : strsD (ss.map .str) = ss := by
  unfold strsD
  induction ss with
  | nil => rfl
  | cons s ss ih => simp [ih]
theorem all_names {ds : List D} (h : ds.all isNmD = true) : ds = (strsD ds).map .str ∧ ∀ w ∈ strsD ds, isW w := by
  induction ds with
  | nil => exact ⟨rfl, fun _ h => nomatch h⟩
  | cons d ds ih =>
    rw [List.all_cons, Bool.and_eq_true] at h
    obtain ⟨h1, h2⟩ := ih h.2
    cases d with
    | str z =>
      have hz : isW z := of_decide_eq_true h.1
      refine ⟨?_, ?_⟩
      · show _ = (z :: strsD ds).map D.str
        rw [List.map_cons, ← h1]
      · intro w hw
        rcases List.mem_cons.mp (show w ∈ z :: strsD ds from hw) with rfl | hw
        · exact hz
        · exact h2 w hw
    | _ => exact absurd h.1 (by simp [isNmD])
theorem dd_len_iff : ∀ (ks acc : List Key), acc.Nodup → ((dd acc ks).length = acc.length + ks.length ↔ (acc ++ ks).Nodup)
  | [], acc, h => by simp [dd, h]
  | k :: ks, acc, h => by
    show (dd (if inK acc k = true then acc else acc ++ [k]) ks).length = _ ↔ _
    cases hk : inK acc k with
    | true =>
      rw [if_pos rfl]
      have := dd_len ks acc
      have hm : k ∈ acc := by
        unfold inK at hk
        obtain ⟨x, hx, e⟩ := List.any_eq_true.mp hk
        have e' : x = k := of_decide_eq_true e
        exact e' ▸ hx
      constructor
      · intro e; rw [List.length_cons] at e; omega
      · intro nd
        exfalso
        rw [List.nodup_append] at nd
        exact nd.2.2 k hm k (List.mem_cons_self ..) rfl
    | false =>
      rw [if_neg Bool.false_ne_true]
      have hm : k ∉ acc := by
        intro hm
        unfold inK at hk
        rw [List.any_eq_false] at hk
        exact hk k hm (decide_eq_true rfl)
      have nd : (acc ++ [k]).Nodup := by
        rw [List.nodup_append]
        exact ⟨h, by simp, fun a ha b hb e => hm (by rw [List.mem_singleton.mp hb] at e; exact e ▸ ha)⟩
      have := dd_len_iff ks (acc ++ [k]) nd
      rw [List.append_assoc] at this
      rw [← show acc ++ ([k] ++ ks) = acc ++ k :: ks from rfl, ← this, List.length_append, List.length_cons, List.length_singleton]
      constructor <;> intro e <;> omega
theorem lenset_seq {ss : List Str} (hl : ss.length ≤ 4000) {d : D} (hd : d = .lst (ss.map .str) ∨ d = .tup (ss.map .str)) : ∃ n : Nat, d_lenset d = some (.int n) ∧ (n = ss.length ↔ ss.Nodup) := by
  have e : ∀ ds, ds = ss.map D.str → (keysOf ds).bind (fun ks => if ks.length ≤ 4000 then some (D.int ((dd [] ks).length : Nat)) else none) = some (.int (dd [] (ss.map Sum.inr)).length) := by
    rintro _ rfl
    rw [keys_strs]
    show (if _ then _ else _) = _
    rw [if_pos (by simpa using hl)]
  refine ⟨(dd [] (ss.map Sum.inr)).length, ?_, ?_⟩
  · rcases hd with rfl | rfl
    · exact e _ rfl
    · exact e _ rfl
  · have := dd_len_iff (ss.map Sum.inr) [] .nil
    rw [List.nil_append, List.length_nil, Nat.zero_add, List.length_map] at this
    rw [this]
    constructor
    · intro h
      exact List.Pairwise.of_map _ (fun a b h e => h (congrArg Sum.inr e)) h
    · intro h
      exact List.Pairwise.map _ (fun a b h e => h (Sum.inr.inj e)) h
theorem are_names_eq {d : D} {ds : List D} {S : Sg} (h : SeqOf S ds d) (hp : ∀ x ∈ ds, plainE x = true) {most : Int} (hm : most ≤ 1000) : Lb.m_are_names [d, .int most] S = .ok (.bl (areD most ds)) S := by
  refine W_eqOk ?_
  unfold Lb.m_are_names
  rw [W_fn]
  refine ⟨rfl, ?_⟩
  unfold Lb.b_are_names
  refine seq_of fun N hN => ?_
  simp [List.replicate, h.isi, h.len, h.lo]
  by_cases hgt : most < (ds.length : Int)
  · simp [hgt]
    have : ¬ (ds.length : Int) ≤ most := by omega
    simp [areD, this]
  · simp [hgt]
    refine hN _ _ ?_
    rw [W_ret, W_eand, W_cb, W_acons]
    refine W_mapA id ds (fun x => .bl (isNmD x)) ?_
    obtain ⟨gs, hs⟩ := h.src true (([.va d, .va (.int most)] : Ro) ++ List.replicate 1 .un)
    have hs : seqJ true [.va d, .va (.int most), .un] S d = some (ds, gs) := hs
    simp [hs, wipeR]
    refine ⟨fun x hx => ?_, by omega, ?_⟩
    · refine ⟨plainE.lo (hp x hx), ?_⟩
      rw [is_name_eq (hp x hx)]
      exact ⟨rfl, rfl, rfl⟩
    · have e : ds.map (fun x => D.bl (isNmD x)) = (ds.map isNmD).map .bl := by rw [List.map_map]; rfl
      have hle : (ds.length : Int) ≤ most := by omega
      rw [e, all_bls]
      simp
      split
      · next ha =>
        have ha' : ds.all isNmD = true := by rw [List.all_eq_true]; simpa using ha
        obtain ⟨e1, e2⟩ := all_names ha'
        have hl : (strsD ds).length = ds.length := by
          have := congrArg List.length e1
          rw [List.length_map] at this; omega
        rcases h.de [.va d, .va (.int most), .un] with ed | ed
        · obtain ⟨n, n1, n2⟩ := lenset_seq (ss := strsD ds) (by omega) (d := .lst ds) (.inl (by rw [← e1]))
          simp [ed, n1]
          rw [hl] at n2
          simp [areD, hle, ha']
          exact ⟨fun e => n2.mp (by exact_mod_cast e), fun e => by exact_mod_cast n2.mpr e⟩
        · obtain ⟨n, n1, n2⟩ := lenset_seq (ss := strsD ds) (by omega) (d := .tup ds) (.inr (by rw [← e1]))
          simp [ed, n1]
          rw [hl] at n2
          simp [areD, hle, ha']
          exact ⟨fun e => n2.mp (by exact_mod_cast e), fun e => by exact_mod_cast n2.mpr e⟩
      · next ha =>
        have ha' : ds.all isNmD = false := by
          rw [Bool.eq_false_iff]
          intro q
          rw [List.all_eq_true] at q
          exact ha (by simpa using q)
        simp [areD, ha']
end Gd

/-! Hr, part 2: rules and bases. -/
namespace Gd
open PySem L2 PyProof.Rows

structure Rl where
  hd : Option Str
  bd : List Str
  un : List Str
deriving DecidableEq
def sD (ws : List Str) : List D := ws.map .str
def Rl.d (r : Rl) : D := .ins "Rule" [("head", optD r.hd), ("body", .tup (sD r.bd)), ("unless", .tup (sD r.un))]
def Rl.toldD (r : Rl) : D := .tup [.str "rule", optD r.hd, .tup (sD r.bd), .tup (sD r.un)]
def Rl.rowD (r : Rl) : D := .tup [optD r.hd, .tup (sD r.bd), .tup (sD r.un)]
structure Rl.Ok (r : Rl) : Prop where
  hd : ∀ h, r.hd = some h → isW h
  hb : ∀ w ∈ r.bd, isW w
  hu : ∀ w ∈ r.un, isW w
  nb : r.bd.Nodup
  nu : r.un.Nodup
  lb : r.bd.length ≤ 6
  lu : r.un.length ≤ 4
theorem sD_plain {ws : List Str} (h : ∀ w ∈ ws, isW w) : ∀ x ∈ sD ws, plainE x = true := by
  intro x hx
  obtain ⟨w, hw, rfl⟩ := List.mem_map.mp hx
  exact plain_str (h w hw)
@[simp] theorem sD_len (ws : List Str) : (sD ws).length = ws.length := List.length_map ..
theorem areD_sD (most : Int) (ws : List Str) : areD most (sD ws) = (decide ((ws.length : Int) ≤ most) && (ws.all (fun w => decide (isW w)) && decide ws.Nodup)) := by
  unfold areD
  rw [sD_len]
  show (_ && ((ws.map D.str).all isNmD && decide (strsD (ws.map D.str)).Nodup)) = _
  rw [strsD_map, List.all_map]
  rfl
theorem areD_ok {most : Int} {ws : List Str} (h : ∀ w ∈ ws, isW w) (n : ws.Nodup) (l : (ws.length : Int) ≤ most) : areD most (sD ws) = true := by
  rw [areD_sD]
  simp [l, n]
  exact h
@[simp] theorem optD_lo (o : Option Str) : isLoc (optD o) = false := by cases o <;> rfl
@[simp] theorem optD_de (o : Option Str) (ρ : Ro) (S : Sg) : deref ρ S (optD o) = some (optD o) := by cases o <;> rfl
@[simp] theorem rl_lo (r : Rl) : isLoc r.d = false := rfl
@[simp] theorem rl_de (r : Rl) (ρ : Ro) (S : Sg) : deref ρ S r.d = some r.d := rfl
@[simp] theorem told_lo (r : Rl) : isLoc r.toldD = false := rfl
@[simp] theorem told_de (r : Rl) (ρ : Ro) (S : Sg) : deref ρ S r.toldD = some r.toldD := rfl
@[simp] theorem row_lo (r : Rl) : isLoc r.rowD = false := rfl
@[simp] theorem row_de (r : Rl) (ρ : Ro) (S : Sg) : deref ρ S r.rowD = some r.rowD := rfl
theorem ne_hb : ¬ (Str.ofString "head" = Str.ofString "body") := by decide +kernel
theorem ne_hu : ¬ (Str.ofString "head" = Str.ofString "unless") := by decide +kernel
theorem ne_bu : ¬ (Str.ofString "body" = Str.ofString "unless") := by decide +kernel
@[simp] theorem fl_head (r : Rl) : d_fld ["Rule"] "head" r.d = some (optD r.hd) := by
  unfold Rl.d
  rw [fld_ins, if_pos (List.mem_singleton.mpr rfl)]
  rfl
@[simp] theorem fl_body (r : Rl) : d_fld ["Rule"] "body" r.d = some (.tup (sD r.bd)) := by
  have e : (Str.ofString "body" == Str.ofString "head") = false := by decide +kernel
  unfold Rl.d
  rw [fld_ins, if_pos (List.mem_singleton.mpr rfl), List.lookup_cons, e]
  show List.lookup (Str.ofString "body") ((Str.ofString "body", _) :: _) = _
  rw [List.lookup_cons_self]
@[simp] theorem fl_unless (r : Rl) : d_fld ["Rule"] "unless" r.d = some (.tup (sD r.un)) := by
  have e1 : (Str.ofString "unless" == Str.ofString "head") = false := by decide +kernel
  have e2 : (Str.ofString "unless" == Str.ofString "body") = false := by decide +kernel
  unfold Rl.d
  rw [fld_ins, if_pos (List.mem_singleton.mpr rfl), List.lookup_cons, e1]
  show List.lookup (Str.ofString "unless") ((Str.ofString "body", _) :: _) = _
  rw [List.lookup_cons, e2]
  show List.lookup (Str.ofString "unless") ((Str.ofString "unless", _) :: _) = _
  rw [List.lookup_cons_self]

@[simp] theorem rl_cls (r : Rl) : isCls "Rule" r.d = true := by simp [isCls, Rl.d]
theorem rl_noFld (r : Rl) (f : Str) (h1 : (f == Str.ofString "head") = false) (h2 : (f == Str.ofString "body") = false) (h3 : (f == Str.ofString "unless") = false) : noFld f r.d = true := by
  simp [noFld, Rl.d, List.lookup_cons, h1, h2, h3]
@[simp] theorem rl_nof1 (r : Rl) : noFld "told" r.d = true := rl_noFld r _ (by decide +kernel) (by decide +kernel) (by decide +kernel)
@[simp] theorem rl_nof2 (r : Rl) : noFld "names" r.d = true := rl_noFld r _ (by decide +kernel) (by decide +kernel) (by decide +kernel)
@[simp] theorem rl_nof3 (r : Rl) : noFld "text" r.d = true := rl_noFld r _ (by decide +kernel) (by decide +kernel) (by decide +kernel)
theorem okL_sD (n : Nat) (ss : List Str) : okL n (sD ss) = true := by
  induction ss with
  | nil => rfl
  | cons s ss ih => simp [sD] at ih; simp [sD, okL, okD, ih]
theorem rl_okD (n : Nat) (r : Rl) : okD n r.d = true := by
  have : okD n (optD r.hd) = true := by cases r.hd <;> rfl
  simp [Rl.d, okD, okF, okL_sD, this]
@[simp] theorem rl_isC (r : Rl) : d_isC [("NoneType", false), ("bool", false), ("int", false), ("str", false), ("list", false), ("tuple", false), ("dict", false)] [("Rule", true)] r.d = some (.bl true) := by
  simp [d_isC, Rl.d, List.lookup_cons]
/-! ### making one -/
theorem putTo_last {S : Sg} {d c' : D} {f : D → Option D} {ρ : Ro} {nx : Ro → Sg → Prop} {rt : D → Sg → Prop} (h : f d = some c') (q : nx ρ (S ++ [c'])) : (putTo (.obj S.length) f ρ (S ++ [d])).W nx rt := by
  rw [put_obj]
  refine ⟨d, c', getLast, h, ?_⟩
  rw [setLast]
  exact q
theorem init_eq {r : Rl} (ok : r.Ok) {S : Sg} {db du : D} (hb : SeqOf S (sD r.bd) db) (hu : SeqOf S (sD r.un) du) : Lb.m_Rule___init__ [.obj S.length, optD r.hd, db, du] (S ++ [.ins "Rule" []]) = .ok .non (S ++ [r.d]) := by
  have hb1 := hb.app [D.ins "Rule" []]
  have hu1 := hu.app [D.ins "Rule" []]
  refine W_eqOk ?_
  unfold Lb.m_Rule___init__
  rw [W_fn]
  refine ⟨rfl, ?_⟩
  unfold Lb.b_Rule___init__
  refine seq_of fun N hN => ?_
  have st : N [.va (.obj S.length), .va (optD r.hd), .va db, .va du] (S ++ [.ins "Rule" []]) := by
    refine hN _ _ ?_
    clear hN
    refine seq_of fun N hN => ?_
    simp [hb.lo, hu.lo, are_names_eq hb1 (sD_plain ok.hb) (most := 6) (by decide), are_names_eq hu1 (sD_plain ok.hu) (most := 4) (by decide), areD_ok (most := 6) ok.hb ok.nb (by have := ok.lb; omega), areD_ok (most := 4) ok.hu ok.nu (by have := ok.lu; omega)]
    refine hN _ _ ?_
    clear hN
    refine seq_of fun N hN => ?_
    simp [putFD]
    refine hN _ _ ?_
    clear hN
    refine seq_of fun N hN => ?_
    have t1 := (hb.app [.ins "Rule" [(Str.ofString "head", optD r.hd)]]).tuple [.va (.obj S.length), .va (optD r.hd), .va db, .va du]
    simp [t1, putFD, ne_hb]
    refine hN _ _ ?_
    clear hN
    have t2 := (hu.app [.ins "Rule" [(Str.ofString "head", optD r.hd), (Str.ofString "body", .tup (sD r.bd))]]).tuple [.va (.obj S.length), .va (optD r.hd), .va db, .va du]
    simp [t2, putFD, ne_hu, ne_bu]
    rfl
  cases e : r.hd with
  | none =>
    rw [e] at st
    simp [d_notN, isNonD, optD]
    exact st
  | some z =>
    rw [e] at st
    have hz := ok.hd z e
    have hl : z.length ≤ 100000 := by have := hz.1.2; omega
    simp [d_notN, isNonD, optD, hl, hz]
    exact st
/-- Rule(..): the arguments, laid out, are those of r -/
theorem mkR_W {r : Rl} (ok : r.Ok) {g : List D → List D → List D} {ra rk : MA} {ρ : Ro} {S : Sg} {Q : D → Sg → Prop}
    (h : (ra ρ S).W fun ds S1 => (rk ρ S1).W fun es S2 => (noLoc ds = true ∧ noLoc es = true) ∧ ∃ db du, g (.obj S2.length :: ds) es = [.obj S2.length, optD r.hd, db, du] ∧ SeqOf S2 (sD r.bd) db ∧ SeqOf S2 (sD r.un) du ∧ Q r.d S2) : (e_mkF "Rule" Lb.m_Rule___init__ g ra rk ρ S).W Q := by
  refine mkF_W (h.mono fun ds S1 h => h.mono ?_)
  rintro es S2 ⟨nl, db, du, e, hb, hu, q⟩
  refine ⟨nl, ?_⟩
  rw [e, init_eq ok hb hu]
  exact ⟨r.d, rfl, rfl, rl_okD _ _, q⟩
/-! ### what it tells, its names -/
@[simp] theorem told_eq (r : Rl) (S : Sg) : Lb.m_Rule_told [r.d] S = .ok r.toldD S := by
  refine W_eqOk ?_
  unfold Lb.m_Rule_told
  rw [W_fn]
  refine ⟨rfl, ?_⟩
  unfold Lb.b_Rule_told
  simp [List.replicate]
  rfl
def Rl.nms (r : Rl) : List Str := r.hd.toList ++ (r.bd ++ r.un)
theorem names_eq {r : Rl} (ok : r.Ok) (S : Sg) : Lb.m_Rule_names [r.d] S = .ok (.lst (sD r.nms)) S := by
  have l1 := ok.lb
  have l2 := ok.lu
  refine W_eqOk ?_
  unfold Lb.m_Rule_names
  rw [W_fn]
  refine ⟨rfl, ?_⟩
  unfold Lb.b_Rule_names
  refine seq_of fun N hN => ?_
  have fin : ∀ z : Option Str, r.hd = z → N [.va r.d, .va (.lst (sD z.toList))] S := by
    intro z hz
    refine hN _ _ ?_
    have h1 : r.bd.length + r.un.length ≤ 100000 := by omega
    have h2 : z.toList.length ≤ 1 := by cases z <;> simp
    obtain ⟨zl, ezl⟩ : ∃ zl, z.toList = zl := ⟨_, rfl⟩
    rw [ezl] at h2 ⊢
    have h3 : zl.length + (r.bd.length + r.un.length) ≤ 100000 := by omega
    simp [h1, h3]
    simp [Rl.nms, hz, sD, ezl]
  cases e : r.hd with
  | none =>
    have := fin none e
    simp [List.replicate, e, optD, d_isN, isNonD]
    exact this
  | some z =>
    have := fin (some z) e
    simp [List.replicate, e, optD, d_isN, isNonD]
    exact this
/-! ### alike -/
theorem isW_ok {z : Str} (h : isW z) : PyData.strOk z = true := small_ok h.2.1
theorem rule_ok : PyData.strOk "rule" = true := by decide +kernel
def Rl.t4 (r : Rl) : T4 Str (Option Str) (Tp Str) (Tp Str) := ⟨"rule", r.hd, ⟨r.bd⟩, ⟨r.un⟩⟩
def Rl.t3 (r : Rl) : T3 (Option Str) (Tp Str) (Tp Str) := ⟨r.hd, ⟨r.bd⟩, ⟨r.un⟩⟩
theorem Rl.t4_d (r : Rl) : Py.dv r.t4 = r.toldD := rfl
theorem Rl.t3_d (r : Rl) : Py.dv r.t3 = r.rowD := rfl
theorem Rl.Ok.t4 {r : Rl} (h : r.Ok) : Py.ok r.t4 := ⟨rule_ok, fun z e => isW_ok (h.hd z e), fun w hw => isW_ok (h.hb w hw), fun w hw => isW_ok (h.hu w hw)⟩
theorem Rl.Ok.t3 {r : Rl} (h : r.Ok) : Py.ok r.t3 := ⟨fun z e => isW_ok (h.hd z e), fun w hw => isW_ok (h.hb w hw), fun w hw => isW_ok (h.hu w hw)⟩
theorem Rl.t4_inj {a b : Rl} : (a.t4 = b.t4) ↔ a = b := by
  cases a; cases b
  simp [Rl.t4]
theorem Rl.t3_inj {a b : Rl} : (a.t3 = b.t3) ↔ a = b := by
  cases a; cases b
  simp [Rl.t3]
theorem told_eq5 {a b : Rl} (ha : a.Ok) (hb : b.Ok) : d_eq5 a.toldD b.toldD = some (.bl (decide (a = b))) := by
  have := eq5_py a.t4 b.t4 ha.t4 hb.t4
  rw [a.t4_d, b.t4_d] at this
  rw [this]; congr 2; exact decide_eq_decide.mpr Rl.t4_inj
theorem told_ne5 {a b : Rl} (ha : a.Ok) (hb : b.Ok) : d_ne5 a.toldD b.toldD = some (.bl (!decide (a = b))) := by
  have := ne5_py a.t4 b.t4 ha.t4 hb.t4
  rw [a.t4_d, b.t4_d] at this
  rw [this]; congr 3; exact decide_eq_decide.mpr Rl.t4_inj
theorem ruleEq_eq {a b : Rl} (ha : a.Ok) (hb : b.Ok) (S : Sg) : Lb.m_Rule___eq__ [a.d, b.d] S = .ok (.bl (decide (a = b))) S := by
  refine W_eqOk ?_
  unfold Lb.m_Rule___eq__
  rw [W_fn]
  refine ⟨rfl, ?_⟩
  unfold Lb.b_Rule___eq__
  simp [List.replicate, told_eq5 ha hb]
/-! ### the names of rules -/
def uniq : List Str → List Str → List Str
  | acc, [] => acc
  | acc, k :: ks => uniq (if k ∈ acc then acc else acc ++ [k]) ks
def namesR (rs : List Rl) : List Str := rs.flatMap Rl.nms
def trueK (ws : List Str) : List (Key × D) := ws.map fun w => (.inr w, .bl true)
theorem kput_true (ws : List Str) (w : Str) : kput (trueK ws) (.inr w) (.bl true) = trueK (if w ∈ ws then ws else ws ++ [w]) := by
  unfold kput
  have ha : ((trueK ws).any fun kv => decide (kv.1 = Sum.inr w)) = decide (w ∈ ws) := by
    rw [Bool.eq_iff_iff, List.any_eq_true, decide_eq_true_iff]
    constructor
    · rintro ⟨kv, h, e⟩
      obtain ⟨v, hv, rfl⟩ := List.mem_map.mp h
      have e : (Sum.inr v : Key) = Sum.inr w := of_decide_eq_true e
      cases e; exact hv
    · intro h
      exact ⟨_, List.mem_map.mpr ⟨w, h, rfl⟩, by simp⟩
  rw [ha]
  by_cases h : w ∈ ws
  · simp only [h, decide_true, if_true]
    unfold trueK
    rw [List.map_map]
    refine List.map_congr_left fun v hv => ?_
    show (if (Sum.inr v : Key) = Sum.inr w then ((Sum.inr v : Key), D.bl true) else _) = _
    split <;> rfl
  · simp only [h, decide_false, if_false]
    rw [if_neg Bool.false_ne_true]
    unfold trueK
    rw [List.map_append]
    rfl
theorem kmerge_true (ks : List Str) : ∀ ws : List Str, kmerge (trueK ws) (trueK ks) = trueK (uniq ws ks) := by
  induction ks with
  | nil => intro ws; rfl
  | cons k ks ih =>
    intro ws
    show kmerge (kput (trueK ws) (.inr k) (.bl true)) (trueK ks) = _
    rw [kput_true, ih]
    rfl
end Gd

/-! Hr, part 3: bases. -/
namespace Gd
open PySem L2 PyProof.Rows

theorem nms_len {r : Rl} (ok : r.Ok) : r.nms.length ≤ 11 := by
  have l1 := ok.lb
  have l2 := ok.lu
  have : r.hd.toList.length ≤ 1 := by cases r.hd <;> simp
  simp only [Rl.nms, List.length_append]; omega
theorem namesR_len {rs : List Rl} (ok : ∀ r ∈ rs, r.Ok) : (namesR rs).length ≤ 11 * rs.length := by
  induction rs with
  | nil => exact Nat.le_refl _
  | cons r rs ih =>
    have := ih fun x hx => ok x (List.mem_cons_of_mem _ hx)
    have := nms_len (ok r (List.mem_cons_self ..))
    show (r.nms ++ namesR rs).length ≤ _
    rw [List.length_append, List.length_cons]; omega
def rlsD (rs : List Rl) : List D := rs.map Rl.d
@[simp] theorem rlsD_len (rs : List Rl) : (rlsD rs).length = rs.length := List.length_map ..
theorem names_of_eq {rs : List Rl} (ok : ∀ r ∈ rs, r.Ok) (hl : rs.length ≤ 5000) {S : Sg} {d : D} (h : SeqOf S (rlsD rs) d) : Lb.m_names_of [d] S = .ok (.dct (trueK (uniq [] (namesR rs)))) S := by
  refine W_eqOk ?_
  unfold Lb.m_names_of
  rw [W_fn]
  refine ⟨rfl, ?_⟩
  unfold Lb.b_names_of
  rw [W_ret]
  refine W_dc2A Rl.d rs (fun _ w => .str w) Rl.nms (fun _ w => .inr w) (fun _ _ => .bl true) ?_
  obtain ⟨gs, hs⟩ := h.src true [.va d, .un, .un]
  simp [List.replicate, hs, wipeR]
  refine ⟨rfl, fun r hr => ?_, ?_, ?_⟩
  · simp [names_eq (ok r hr), unown, keyOf]
    rfl
  · have := namesR_len ok
    unfold namesR at this
    rw [List.length_flatMap] at this
    have e : (rs.map fun a => a.nms.length).sum = (rs.map (fun x => x.nms.length)).sum := rfl
    omega
  · have e : (rs.flatMap fun x => x.nms.map fun y => ((Sum.inr y : Key), D.bl true)) = trueK (namesR rs) := by
      unfold trueK namesR
      rw [List.map_flatMap]
    rw [e]
    exact kmerge_true (namesR rs) []
def baseB (rs : List Rl) : Bool := decide (rs.length ≤ 40) && decide ((uniq [] (namesR rs)).length ≤ 24)
theorem trueK_len (ws : List Str) : (trueK ws).length = ws.length := List.length_map ..
theorem is_base_eq {rs : List Rl} (ok : ∀ r ∈ rs, r.Ok) {S : Sg} {d : D} (h : SeqOf S (rlsD rs) d) : Lb.m_is_base [d] S = .ok (.bl (baseB rs)) S := by
  refine W_eqOk ?_
  unfold Lb.m_is_base
  rw [W_fn]
  refine ⟨rfl, ?_⟩
  unfold Lb.b_is_base
  refine seq_of fun N hN => ?_
  simp [List.replicate, h.isi, h.len, rlsD_len, h.lo]
  by_cases hgt : (40 : Int) < rs.length
  · have h40 : ¬ rs.length ≤ 40 := by omega
    simp [hgt, baseB, h40]
  · have h40 : rs.length ≤ 40 := by omega
    simp [hgt]
    refine hN _ _ ?_
    rw [W_ret, W_eand, W_cb, W_acons]
    refine W_mapA Rl.d rs (fun _ => .bl true) ?_
    obtain ⟨gs, hs⟩ := h.src true [.va d, .un]
    have e : rs.map (fun _ => D.bl true) = (rs.map fun _ => true).map .bl := by rw [List.map_map]; rfl
    simp only [W_jseq, W_var]
    simp [hs, wipeR, -List.map_const', -List.map_const]
    refine ⟨rfl, by omega, ?_⟩
    rw [e, all_bls]
    simp [h.lo, names_of_eq ok (by omega) h, trueK_len]
    simp [baseB, h40]
    omega
theorem need_base_eq {rs : List Rl} (ok : ∀ r ∈ rs, r.Ok) (hb : baseB rs = true) {S : Sg} {d : D} (h : SeqOf S (rlsD rs) d) : Lb.m_need_base [d] S = .ok .non S := by
  refine W_eqOk ?_
  unfold Lb.m_need_base
  rw [W_fn]
  refine ⟨rfl, ?_⟩
  unfold Lb.b_need_base
  simp [List.replicate, h.lo, is_base_eq ok h, hb]
theorem need_names_eq {ds : List D} (hp : ∀ x ∈ ds, plainE x = true) {most : Int} (hm : most ≤ 1000) (ha : areD most ds = true) {S : Sg} {d : D} (h : SeqOf S ds d) : Lb.m_need_names [d, .int most] S = .ok .non S := by
  refine W_eqOk ?_
  unfold Lb.m_need_names
  rw [W_fn]
  refine ⟨rfl, ?_⟩
  unfold Lb.b_need_names
  simp [List.replicate, h.lo, are_names_eq h hp hm, ha]
end Gd

/-! Hr, part 4: reducts. -/
namespace Gd
open PySem L2 PyProof.Rows

def Rl.plain (r : Rl) : Rl := ⟨r.hd, r.bd, []⟩
theorem Rl.Ok.plain {r : Rl} (h : r.Ok) : r.plain.Ok := ⟨h.hd, h.hb, (fun _ h => nomatch h), h.nb, .nil, h.lb, by simp [Rl.plain]⟩
/-- none of its unless is in ns -/
def freeB (ns : List Str) (r : Rl) : Bool := !(r.un.any fun w => decide (w ∈ ns))
def redR (rs : List Rl) (ns : List Str) : List Rl := (rs.filter (freeB ns)).map Rl.plain
theorem in_sD (neg : Bool) (z : Str) (ss : List Str) : d_in neg (.str z) (.lst (sD ss)) = some (.bl (if neg then !decide (z ∈ ss) else decide (z ∈ ss))) := in_strs neg z ss
theorem in_sDT (neg : Bool) (z : Str) (ss : List Str) : d_in neg (.str z) (.tup (sD ss)) = some (.bl (if neg then !decide (z ∈ ss) else decide (z ∈ ss))) := in_strsT neg z ss
theorem SeqOf.has {S : Sg} {ss : List Str} {d : D} (h : SeqOf S (sD ss) d) (ρ : Ro) (neg : Bool) (z : Str) : ((deref ρ S d).bind fun e' => d_in5 neg (.str z) e') = some (.bl (if neg then !decide (z ∈ ss) else decide (z ∈ ss))) := by
  rcases h.de ρ with e | e <;> rw [e]
  · show d_in5 neg _ _ = _
    rw [in5_lst, in_sD]
  · show d_in5 neg _ _ = _
    rw [in5_tup, in_sDT]
theorem reduct_eq {rs : List Rl} (ok : ∀ r ∈ rs, r.Ok) (hb : baseB rs = true) {ns : List Str} (hn : ∀ w ∈ ns, isW w) (nd : ns.Nodup) (hl : ns.length ≤ 24) {S : Sg} {d e : D} (h : SeqOf S (rlsD rs) d) (he : SeqOf S (sD ns) e) :
    Lb.m_reduct [d, e] S = .ok (.obj S.length) (S ++ [.lst (rlsD (redR rs ns))]) := by
  have l40 : rs.length ≤ 40 := by
    unfold baseB at hb
    rw [Bool.and_eq_true] at hb
    exact of_decide_eq_true hb.1
  refine W_eqOk ?_
  unfold Lb.m_reduct
  rw [W_fn]
  refine ⟨rfl, ?_⟩
  unfold Lb.b_reduct
  refine seq_of fun N hN => ?_
  simp [List.replicate, h.lo, need_base_eq ok hb h]
  refine hN _ _ ?_
  clear hN
  refine seq_of fun N hN => ?_
  simp [he.lo, need_names_eq (most := 24) (sD_plain hn) (by decide) (areD_ok hn nd (by omega)) he]
  refine hN _ _ ?_
  clear hN
  rw [W_ret, W_sh]
  refine W_mapG Rl.d rs (freeB ns) (fun r => r.plain.d) ?_
  obtain ⟨gs, hs⟩ := h.src true [.va d, .va e, .un, .un]
  simp only [W_jseq, W_var]
  simp only [List.getElem?_cons_zero, hs]
  refine ⟨_, rfl, rfl, fun r hr => ⟨[.va d, .va e, .va r.d, .un], rfl, ?_, ?_⟩, by omega, ?_⟩
  · rw [W_tnot, W_te, W_cb, W_acons]
    refine W_mapA (fun w : Str => D.str w) r.un (fun w => .bl (decide (w ∈ ns))) ?_
    simp [wipeR]
    refine ⟨rfl, fun w hw => ?_, by have := (ok r hr).lu; omega, ?_⟩
    · have := he.has [.va d, .va e, .va r.d, .va (.str w)] false w
      simp at this
      simp [this]
    · have e1 : r.un.map (fun w => D.bl (decide (w ∈ ns))) = (r.un.map fun w => decide (w ∈ ns)).map .bl := by rw [List.map_map]; rfl
      rw [e1, any_bls]
      simp [freeB, List.any_map]
  · intro _
    refine mkR_W (ok r hr).plain ?_
    simp [Rl.plain]
    exact ⟨SeqOf.tup, SeqOf.tup⟩
  · have e1 : (rs.filter (freeB ns)).map (fun r => r.plain.d) = rlsD (redR rs ns) := by
      unfold redR rlsD
      rw [List.map_map]; rfl
    rw [e1]
    simp
end Gd

/-! Hr, part 5: bases whose names are of a pool. -/
namespace Gd
open PySem L2 PyProof.Rows

theorem uniq_nd : ∀ (ks acc : List Str), acc.Nodup → (uniq acc ks).Nodup
  | [], _, h => h
  | k :: ks, acc, h => by
    show (uniq (if k ∈ acc then acc else acc ++ [k]) ks).Nodup
    refine uniq_nd ks _ ?_
    split
    · exact h
    · next hk =>
      rw [List.nodup_append]
      exact ⟨h, by simp, fun a ha b hb e => hk (by rw [List.mem_singleton.mp hb] at e; exact e ▸ ha)⟩
theorem uniq_mem : ∀ (ks acc : List Str) (w : Str), w ∈ uniq acc ks ↔ w ∈ acc ∨ w ∈ ks
  | [], acc, w => by simp [uniq]
  | k :: ks, acc, w => by
    show w ∈ uniq (if k ∈ acc then acc else acc ++ [k]) ks ↔ _
    rw [uniq_mem ks]
    split
    · next hk =>
      rw [List.mem_cons]
      constructor
      · rintro (h | h)
        · exact .inl h
        · exact .inr (.inr h)
      · rintro (h | rfl | h)
        · exact .inl h
        · exact .inl hk
        · exact .inr h
    · rw [List.mem_append, List.mem_singleton, List.mem_cons, or_assoc]
theorem namesR_mem {rs : List Rl} {w : Str} : w ∈ namesR rs ↔ ∃ r ∈ rs, w ∈ r.nms := by
  unfold namesR
  rw [List.mem_flatMap]
theorem base_ok {rs : List Rl} {pool : List Str} (h : ∀ r ∈ rs, ∀ w ∈ r.nms, w ∈ pool) (hp : pool.length ≤ 24) (hl : rs.length ≤ 40) : baseB rs = true := by
  have : (uniq [] (namesR rs)).length ≤ pool.length := pigeon _ _ (uniq_nd _ _ .nil) fun w hw => by
    rcases (uniq_mem _ _ _).mp hw with hw | hw
    · cases hw
    · obtain ⟨r, hr, hw⟩ := namesR_mem.mp hw
      exact h r hr w hw
  unfold baseB
  rw [Bool.and_eq_true]
  exact ⟨decide_eq_true hl, decide_eq_true (by omega)⟩
theorem redR_mem {rs : List Rl} {ns : List Str} {r : Rl} (h : r ∈ redR rs ns) : ∃ r0 ∈ rs, r = r0.plain := by
  obtain ⟨r0, h0, rfl⟩ := List.mem_map.mp h
  exact ⟨r0, (List.mem_filter.mp h0).1, rfl⟩
theorem plain_nms {r : Rl} {w : Str} (h : w ∈ r.plain.nms) : w ∈ r.nms := by
  unfold Rl.nms Rl.plain at *
  simp at h
  simp
  rcases h with h | h
  · exact .inl h
  · exact .inr (.inl h)
theorem redR_red (rs : List Rl) (ns ms : List Str) : redR (redR rs ns) ms = redR rs ns := by
  unfold redR
  rw [List.filter_map]
  have : (rs.filter (freeB ns)).filter (freeB ms ∘ Rl.plain) = rs.filter (freeB ns) := by
    rw [List.filter_eq_self]
    intro r _
    rfl
  rw [this, List.map_map]
  rfl
theorem redR_nil (rs : List Rl) : redR rs [] = rs.map Rl.plain := by
  unfold redR
  have : rs.filter (freeB []) = rs := by
    rw [List.filter_eq_self]
    intro r _
    simp [freeB]
  rw [this]
theorem zipD_map {α : Type} (f g : α → D) (xs : List α) : zipD (xs.map f) (xs.map g) = xs.map fun x => .tup [f x, g x] := by
  unfold zipD
  apply List.ext_getElem?
  intro i
  simp only [List.length_map, Nat.min_self, List.getElem?_map, List.getD_eq_getElem?_getD]
  by_cases h : i < xs.length
  · rw [List.getElem?_range h, List.getElem?_eq_getElem h]
    simp [h]
  · have h1 : (List.range xs.length)[i]? = none := by simp; omega
    have h2 : xs[i]? = none := by simp; omega
    rw [h1, h2]
    rfl
end Gd

/-! Hs, part 1: the draws of the laws of standings. -/
namespace Gd
open PySem L2 PyProof.Rows

def stD (g : Nat) (cs : List Int) (r t : Int) : List (Key × D) := [(.inr "great", .obj g), (.inr "cells", .lst (cs.map .int)), (.inr "rest", .int r), (.inr "turn", .int t)]
structure DrS (n g b : Nat) (S : Sg) : Prop where
  ne : n ≠ g
  ex : ∃ (gr cs : List Int) (r t : Int), S[n]? = some (.dct (stD g cs r t)) ∧ S[g]? = some (.lst (gr.map .int)) ∧ 0 ≤ r ∧ (0 ≤ t ∧ t + b ≤ 1000000000) ∧ (∀ c ∈ gr, 0 ≤ c) ∧ gr.length ≤ 63 ∧ cs.length ≤ 63
theorem DrS.le {n g b c : Nat} {S : Sg} (h : DrS n g b S) (l : c ≤ b) : DrS n g c S := by
  obtain ⟨ne, gr, cs, r, t, h1, h2, h3, ⟨h4, h5⟩, h6⟩ := h
  exact ⟨ne, gr, cs, r, t, h1, h2, h3, ⟨h4, by omega⟩, h6⟩
@[simp] theorem st_great (g : Nat) (cs : List Int) (r t : Int) : kget (stD g cs r t) (.inr "great") = some (.obj g) := by simp [stD]
@[simp] theorem st_cells (g : Nat) (cs : List Int) (r t : Int) : kget (stD g cs r t) (.inr "cells") = some (.lst (cs.map .int)) := by simp [stD]
@[simp] theorem st_rest (g : Nat) (cs : List Int) (r t : Int) : kget (stD g cs r t) (.inr "rest") = some (.int r) := by simp [stD]
@[simp] theorem st_turn (g : Nat) (cs : List Int) (r t : Int) : kget (stD g cs r t) (.inr "turn") = some (.int t) := by simp [stD]
@[simp] theorem st_len (g : Nat) (cs : List Int) (r t : Int) : (stD g cs r t).length = 4 := rfl
@[simp] theorem st_prest (g : Nat) (cs : List Int) (r t r' : Int) : kput (stD g cs r t) (.inr "rest") (.int r') = stD g cs r' t := by simp [stD, kput]
@[simp] theorem st_pturn (g : Nat) (cs : List Int) (r t t' : Int) : kput (stD g cs r t) (.inr "turn") (.int t') = stD g cs r t' := by simp [stD, kput]
theorem begun_W {ns : List Int} {Q : D → Sg → Prop} (hl : ns.length ≤ 63) (q : ∀ n g S', DrS n g 1000000000 S' → Q (.obj n) S') : (Lb.m__law_begun [.lst (ns.map .int)] []).W Q := by
  unfold Lb.m__law_begun
  rw [W_fn]
  refine ⟨rfl, ?_⟩
  unfold Lb.b__law_begun
  refine seq_of fun N hN => ?_
  have p0 : CPow 10 18 := by decide
  rw [W_set, W_sh]
  refine W_mapG (fun i : Int => D.int i) ns (fun i => decide (1000000000000000000 ≤ i)) (fun i => .int (i - 1000000000000000000)) ?_
  simp [List.replicate, wipeR, p0]
  refine ⟨by omega, ?_⟩
  refine hN _ _ ?_
  simp
  refine q 1 0 _ ⟨by decide, (ns.filter fun i => decide (1000000000000000000 ≤ i)).map (· - 1000000000000000000), ns, 0, 0, ?_, ?_, by decide, by decide, ?_, ?_, hl⟩
  · simp [stD, kmerge, kput]
  · simp
  · intro c hc
    obtain ⟨i, hi, rfl⟩ := List.mem_map.mp hc
    have := of_decide_eq_true (List.mem_filter.mp hi).2
    omega
  · rw [List.length_map]
    exact Nat.le_trans (List.length_filter_le ..) hl
theorem fmod_nn {a b : Int} (h : 0 < b) : 0 ≤ a.fmod b := (fmod_bd h).1
def primesS : List Int := [2147483629, 2147483587, 2147483579, 2147483563, 2147483549, 2147483543]
def mixI (n : Nat) (t : Int) (S1 : Sg) (ds : List D) (ρ : Ro) (S2 : Sg) : Prop := S2 = S1 ∧ ∃ (f : Int) (x y z : Slot) (ps : List Int), ρ = [.va (.obj n), .va (.int (t + 1)), .va (.int f), x, y, z] ∧ 0 ≤ f ∧ ds = ps.map .int ∧ ∀ p ∈ ps, p ∈ primesS
def mixJ (n : Nat) (t f p : Int) (S1 : Sg) (ds : List D) (ρ : Ro) (S2 : Sg) : Prop := S2 = S1 ∧ ∃ (m : Int) (z : Slot) (zs : List Int), ρ = [.va (.obj n), .va (.int (t + 1)), .va (.int f), .va (.int p), .va (.int m), z] ∧ (-(2 ^ 63 : Int) < m ∧ m < 2 ^ 63) ∧ ds = zs.map .int
theorem mixed_W {n g b : Nat} {S : Sg} {Q : D → Sg → Prop} (h : DrS n g (b + 1) S) (q : ∀ r S', DrS n g b S' → Grows n g S S' → 0 ≤ r → Q (.int r) S') : (Lb.m__law_mixed [.obj n] S).W Q := by
  obtain ⟨ne, gr, cs, r, t, h1, h2, h3, ⟨h4, h5⟩, h6, h7, h8⟩ := h
  unfold Lb.m__law_mixed
  rw [W_fn]
  refine ⟨rfl, ?_⟩
  unfold Lb.b__law_mixed
  refine seq_of fun N hN => ?_
  simp [List.replicate, h1]
  refine hN _ _ ?_
  clear hN
  refine seq_of fun N hN => ?_
  simp [h1]
  refine hN _ _ ?_
  clear hN
  refine seq_of fun N hN => ?_
  simp
  refine hN _ _ ?_
  clear hN
  obtain ⟨S1, eS1⟩ : ∃ S1, S.set n (.dct (stD g cs r (t + 1))) = S1 := ⟨_, rfl⟩
  have k1 : S1[n]? = some (.dct (stD g cs r (t + 1))) := by rw [← eS1]; exact getSet h1
  have d1 : DrS n g b S1 := ⟨ne, gr, cs, r, t + 1, k1, by rw [← eS1, List.getElem?_set_ne ne]; exact h2, h3, ⟨by omega, by push_cast at h5; omega⟩, h6, h7, h8⟩
  have g1 : Grows n g S S1 := by rw [← eS1]; exact Grows.setN _
  rw [eS1]
  refine seq_of fun N hN => ?_
  refine W_forG (mixI n t S1) ?_ ?_ ?_
  · simp
    exact ⟨rfl, 0, .un, .un, .un, primesS, rfl, by decide, rfl, fun p hp => hp⟩
  · rintro d ds ρ S2 ⟨rfl, f, x, y, z, ps, rfl, hf, e, hp⟩
    cases ps with
    | nil => cases e
    | cons p ps =>
      cases e
      refine ⟨_, rfl, ?_⟩
      have hpp : 2147483543 ≤ p ∧ p ≤ 2147483629 := by
        have := hp p (List.mem_cons_self ..)
        simp [primesS] at this
        omega
      have hp' : ∀ p ∈ ps, p ∈ primesS := fun x hx => hp x (List.mem_cons_of_mem _ hx)
      have p0 : p ≠ 0 := by omega
      have m0 : CMul 104729 (t + 1) := .inl (by decide)
      have m1 : CDivN p 7 := by constructor <;> decide
      refine seq_of fun N2 hN2 => ?_
      simp [m0, m1]
      refine hN2 _ _ ?_
      clear hN2
      have mb : -(2 ^ 63 : Int) < 104729 * (t + 1) + p.fdiv 7 ∧ 104729 * (t + 1) + p.fdiv 7 < 2 ^ 63 := by
        rw [Int.fdiv_eq_ediv_of_nonneg _ (by decide)]
        constructor <;> omega
      obtain ⟨mk, emk⟩ : ∃ mk, 104729 * (t + 1) + p.fdiv 7 = mk := ⟨_, rfl⟩
      rw [emk] at mb ⊢
      refine seq_of fun N2 hN2 => ?_
      refine W_forG (mixJ n t f p S2) ?_ ?_ ?_
      · simp [k1]
        exact ⟨rfl, mk, z, cs, rfl, mb, rfl⟩
      · rintro d ds ρ S3 ⟨rfl, m, z, zs, rfl, hm, e⟩
        cases zs with
        | nil => cases e
        | cons c zs =>
          cases e
          refine ⟨_, rfl, ?_⟩
          have m2 : CMul m 48271 := .inr (by decide)
          simp [m2, p0]
          have := fmod_bd (a := m * 48271 + c) (b := p) (by omega)
          exact ⟨rfl, _, _, zs, rfl, ⟨by omega, by omega⟩, rfl⟩
      · rintro ρ S3 ⟨rfl, m, z, zs, rfl, hm, e⟩
        refine hN2 _ _ ?_
        clear hN2
        have m3 : CMul f 2147483647 := .inr (by decide)
        have m4 : CMul m m := .inl ⟨by omega, by omega⟩
        simp [m3, m4, p0]
        have := fmod_nn (a := m * m) (b := p) (by omega)
        exact ⟨rfl, _, _, _, _, ps, rfl, by omega, rfl, hp'⟩
  · rintro ρ S2 ⟨rfl, f, x, y, z, ps, rfl, hf, e, hp⟩
    refine hN _ _ ?_
    simp
    exact q f S2 d1 g1 hf
theorem take_S {n g b : Nat} {S : Sg} {m : Int} {Q : D → Sg → Prop} (h : DrS n g (b + 1) S) (m0 : 0 < m) (m1 : m < 1073741824)
    (q : ∀ r S', DrS n g b S' → Grows n g S S' → 0 ≤ r → r < m → Q (.int r) S') : (Lb.m__law_take [.obj n, .int m] S).W Q := by
  obtain ⟨gr, cs, r, t, h1, h2, h3, ⟨h4, h5⟩, h6, h7, h8⟩ := h.ex
  unfold Lb.m__law_take
  rw [W_fn]
  refine ⟨rfl, ?_⟩
  unfold Lb.b__law_take
  refine seq_of fun N hN => ?_
  have cd : ∀ x : Int, CDivN x m := fun x => ⟨by omega, by omega⟩
  have hm : m ≠ 0 := by omega
  -- behind the refill
  have fin : ∀ S1, DrS n g b S1 → Grows n g S S1 → N [.va (.obj n), .va (.int m), .un] S1 := by
    intro S1 d1 g1
    obtain ⟨gr, cs, r, t, h1, h2, h3, ⟨h4, h5⟩, h6, h7, h8⟩ := d1.ex
    refine hN _ _ ?_
    refine seq_of fun N hN => ?_
    simp [h1, hm]
    refine hN _ _ ?_
    clear hN
    refine seq_of fun N hN => ?_
    simp [h1, cd]
    refine hN _ _ ?_
    clear hN
    simp
    have := fmod_bd (a := r) m0
    exact q _ _ ⟨d1.ne, gr, cs, r.fdiv m, t, getSet h1, by rw [List.getElem?_set_ne d1.ne]; exact h2, fdiv_nn h3 m0, ⟨h4, h5⟩, h6, h7, h8⟩ (g1.trans (.setN _)) this.1 this.2
  have e0 : d_ne5 (.lst (gr.map .int)) (.lst []) = some (.bl (!decide (gr = []))) := ne5_py gr [] (fun _ _ => trivial) (fun _ _ => trivial)
  by_cases hr : r = 0
  · subst hr
    by_cases hg : gr = []
    · subst hg
      simp [List.replicate, h1, h2]
      have e0' : d_ne (.lst []) (.lst []) = some (.bl false) := by simpa using e0
      simp [e0', h1]
      refine mixed_W h fun r' S1 d1 g1 r0 => ?_
      obtain ⟨gr, cs, r, t, h1, h2, h3, ⟨h4, h5⟩, h6, h7, h8⟩ := d1.ex
      simp [h1]
      exact fin _ ⟨d1.ne, gr, cs, r', t, getSet h1, by rw [List.getElem?_set_ne d1.ne]; exact h2, r0, ⟨h4, h5⟩, h6, h7, h8⟩ (g1.trans (.setN _))
    · cases gr with
      | nil => exact absurd rfl hg
      | cons c gr =>
        have e0' : d_ne (.lst (.int c :: gr.map .int)) (.lst []) = some (.bl true) := by simpa using e0
        have ep : popAt (D.int c :: gr.map .int) 0 = some (.int c, gr.map .int) := by
          unfold popAt
          have : ixN (D.int c :: gr.map D.int).length 0 = some 0 := by
            unfold ixN
            rw [if_pos (by decide), if_pos (by simp)]
            rfl
          rw [this]
          rfl
        have hl : gr.length + 1 ≤ 100000 := by rw [List.length_cons] at h7; omega
        simp [List.replicate, h1, h2, e0', ep, hl]
        have h1' : (S.set g (.lst (gr.map .int)))[n]? = some (.dct (stD g cs 0 t)) := by rw [List.getElem?_set_ne h.ne.symm]; exact h1
        simp [h1']
        exact fin _ ⟨h.ne, gr, cs, c, t, getSet h1', by rw [List.getElem?_set_ne h.ne, getSet h2], h6 c (List.mem_cons_self ..), ⟨h4, by push_cast at h5; omega⟩, fun x hx => h6 x (List.mem_cons_of_mem _ hx), by rw [List.length_cons] at h7; omega, h8⟩ ((Grows.setG _).trans (.setN _))
  · simp [List.replicate, h1, hr]
    exact fin _ (h.le (Nat.le_succ _)) .refl
theorem pick_S {n g b : Nat} {S : Sg} {ds : List D} {d : D} {Q : D → Sg → Prop} (h : DrS n g (b + 1) S) (hd : d = .lst ds ∨ d = .tup ds) (h0 : 0 < ds.length) (h1 : ds.length < 1073741824) (hn : ∀ x ∈ ds, isLoc x = false)
    (q : ∀ x S', DrS n g b S' → Grows n g S S' → x ∈ ds → Q x S') : (Lb.m__law_pick [.obj n, d] S).W Q := by
  unfold Lb.m__law_pick
  rw [W_fn]
  refine ⟨rfl, ?_⟩
  unfold Lb.b__law_pick
  have k : ∀ r S', DrS n g b S' → Grows n g S S' → 0 ≤ r → r < (ds.length : Int) → ∃ x, atI ds r = some x ∧ isLoc x = false ∧ Q x S' := by
    intro r S' d1 g1 r0 r1
    obtain ⟨x, x1, x2, _⟩ := atI_nn r0 r1
    have hm := List.mem_of_getElem? x1
    exact ⟨x, x2, hn x hm, q x S' d1 g1 hm⟩
  rcases hd with rfl | rfl
  · simp [List.replicate]
    refine take_S h (by omega) (by omega) fun r S' d1 g1 r0 r1 => ?_
    obtain ⟨x, x1, x2, x3⟩ := k r S' d1 g1 r0 r1
    simp [x1, x2]
    exact x3
  · simp [List.replicate]
    refine take_S h (by omega) (by omega) fun r S' d1 g1 r0 r1 => ?_
    obtain ⟨x, x1, x2, x3⟩ := k r S' d1 g1 r0 r1
    simp [x1, x2]
    exact x3
theorem pick_sign {n g b : Nat} {S : Sg} {z : Str} {Q : D → Sg → Prop} (h : DrS n g (b + 1) S) (h0 : 0 < z.length) (h1 : z.length ≤ 100000)
    (q : ∀ c S', DrS n g b S' → Grows n g S S' → c ∈ z.cps.toList → Q (.str ⟨#[c]⟩) S') : (Lb.m__law_pick [.obj n, .str z] S).W Q := by
  unfold Lb.m__law_pick
  rw [W_fn]
  refine ⟨rfl, ?_⟩
  unfold Lb.b__law_pick
  simp [List.replicate, h1]
  refine take_S h (by omega) (by omega) fun r S' d1 g1 r0 r1 => ?_
  rw [str_len] at r1
  obtain ⟨x, x1, x2, _⟩ := atI_nn r0 r1
  have hm := List.mem_of_getElem? x1
  simp [x2, h1]
  exact q x S' d1 g1 hm
end Gd

/-! Hs, part 2: drawn names. -/
namespace Gd
open PySem L2 PyProof.Rows

/-! ### a name with another letter at its end -/
theorem kept_one (p : List Nat) : (keptS.filter fun k => decide (k.cps.toList.dropLast = p)).length ≤ 1 := by
  have e : keptS.map (fun k => k.cps.toList.dropLast) = [[110, 111], [110, 101, 118, 101], [109, 97]] := by decide +kernel
  have h1 : (keptS.filter fun k => decide (k.cps.toList.dropLast = p)).length = ((keptS.map fun k => k.cps.toList.dropLast).filter fun l => decide (l = p)).length := by
    rw [List.filter_map, List.length_map]; rfl
  rw [h1, e]
  by_cases a : [110, 111] = p
  · subst a; decide
  · by_cases b : [110, 101, 118, 101] = p
    · subst b; decide
    · by_cases c : [109, 97] = p
      · subst c; decide
      · simp [List.filter_cons, a, b, c]
theorem some_sg2 (z : Str) (T : List Str) (h : T.length < 25) : ∃ c ∈ letters.cps.toList, sg z c ∉ T ++ keptS := by
  obtain ⟨c, hc, hn⟩ := some_sg z (T ++ keptS.filter fun k => decide (k.cps.toList.dropLast = (cut7 z).cps.toList)) (by
    rw [List.length_append]
    have := kept_one (cut7 z).cps.toList
    omega)
  refine ⟨c, hc, fun q => hn ?_⟩
  rcases List.mem_append.mp q with q | q
  · exact List.mem_append_left _ q
  · refine List.mem_append_right _ (List.mem_filter.mpr ⟨q, decide_eq_true ?_⟩)
    rw [sg_list, List.dropLast_concat]
theorem joinL_nil : ∀ l : List (List Nat), TL.joinL [] l = l.flatten
  | [] => rfl
  | [p] => by simp [TL.joinL]
  | p :: q :: r => by
    show p ++ ([] ++ TL.joinL [] (q :: r)) = _
    rw [List.nil_append, joinL_nil (q :: r)]; rfl
theorem join_signs (cs : List Nat) : Txt.join "" (cs.map fun c => (⟨#[c]⟩ : Str)) = ⟨cs.toArray⟩ := by
  apply str_ext
  rw [TL.join_eq]
  show TL.tl (Str.join "" _) = _
  rw [TL.tl_join]
  have e : TL.tl ("" : Str) = [] := by decide +kernel
  rw [e, joinL_nil, List.map_map]
  show (cs.map fun c => [c]).flatten = cs
  induction cs with
  | nil => rfl
  | cons c cs ih => simpa using ih
theorem joinD_signs (cs : List Nat) (h : cs.length ≤ 1000) : d_join "" (.lst (cs.map fun c => D.str ⟨#[c]⟩)) = some (.str ⟨cs.toArray⟩) := by
  have e : cs.map (fun c => D.str ⟨#[c]⟩) = (cs.map fun c => (⟨#[c]⟩ : Str)).map .str := by rw [List.map_map]; rfl
  rw [e]
  show (strsOf _).bind _ = _
  rw [strsOf_map]
  show (if _ then _ else _) = _
  have hs : ((cs.map fun c => (⟨#[c]⟩ : Str)).map (·.length)).sum = cs.length := by
    rw [List.map_map]
    induction cs with
    | nil => rfl
    | cons c cs ih =>
      have := ih (by rw [List.length_cons] at h; omega) (by rw [List.map_map]; rfl)
      rw [List.map_cons, List.sum_cons, this, List.length_cons]
      show 1 + _ = _
      omega
  have h0 : ("" : Str).length = 0 := by decide +kernel
  rw [hs, h0, join_signs, if_pos (by omega)]
def ownW : List Str := ["held", "lot", "back", "by", "in", "all", "some", "none", "rule", "rank", "told", "with", "sure", "no", "ma"]
theorem ownW_W : ∀ z ∈ ownW, isW z := by decide +kernel
def likeW (z : Str) : Prop := smallS z ∧ 1 ≤ z.length ∧ z.length ≤ 8
def namesSI (n g b : Nat) (S : Sg) (many : Nat) (ds : List D) (ρ : Ro) (S2 : Sg) : Prop := ∃ (ws : List Str) (x1 x2 x3 x4 x5 x6 : Slot), ρ = [.va (.obj n), .va (.int many), .va (.str letters), .va (.lst (ownW.map .str)), .ow (.lst (ws.map .str)), x1, x2, x3, x4, x5, x6] ∧ DrS n g (b + 11 * ds.length) S2 ∧ Grows n g S S2 ∧ ws.length + ds.length = many ∧ ws.Nodup ∧ (∀ w ∈ ws, isW w) ∧ ∀ d ∈ ds, isLoc d = false
def signsI (n g b : Nat) (S : Sg) (ys ds : List D) (S2 : Sg) : Prop := ∃ cs : List Nat, ys = cs.map (fun c => D.str ⟨#[c]⟩) ∧ DrS n g (b + ds.length) S2 ∧ Grows n g S S2 ∧ (∀ c ∈ cs, 97 ≤ c ∧ c ≤ 122) ∧ 1 ≤ cs.length + ds.length ∧ cs.length + ds.length ≤ 8 ∧ ∀ d ∈ ds, isLoc d = false
/-- the last two statements of a turn -/
theorem spare_S {n g b many : Nat} {S S2 : Sg} {z : Str} {ws : List Str} {x1 x3 x4 x5 x6 : Slot} {Dn : D → Sg → Prop} {ds : List D} (hz : likeW z) (d2 : DrS n g (b + 11 * ds.length) S2) (g2 : Grows n g S S2) (hl : ws.length + (ds.length + 1) = many) (hm : many ≤ 24) (nd : ws.Nodup) (hw : ∀ w ∈ ws, isW w) (hd : ∀ d ∈ ds, isLoc d = false) :
    ((s_seq (s_set 7 (e_op2 d_add4 (f_lst (a_cons (e_var 6) a_nil)) (f_lcG [9] (j_seq true (e_var 2)) (t_name 9) t_yes (e_op2 d_add4 (e_sl d_sl3 (e_var 6) o_no (o_e (e_c (.int 7)))) (e_var 9)))))
  (s_app (e_var 4) (e_op2 d_ix5 (f_lcG [10] (j_seq true (e_var 7)) (t_name 10) (t_e (e_op2 (d_in5 true) (e_var 10) (e_op2 d_add4 (e_var 4) (f_lst (a_cons (e_c (.str "not")) (a_cons (e_c (.str "never")) (a_cons (e_c (.str "may")) a_nil))))))) (e_var 10)) (e_c (.int 0))))) [.va (.obj n), .va (.int many), .va (.str letters), .va (.lst (ownW.map .str)), .ow (.lst (ws.map .str)), x1, .va (.str z), x3, x4, x5, x6] S2).W (namesSI n g b S many ds) Dn := by
  obtain ⟨hz1, hz2, hz3⟩ := hz
  have zl : z.length ≤ 100000 := by omega
  refine seq_of fun N hN => ?_
  rw [W_set, W_op2, W_lst, W_acons]
  simp
  refine W_mapA (fun c => D.str ⟨#[c]⟩) letters.cps.toList (fun c => .str (sg z c)) ?_
  have le : Gd.signs letters = letters.cps.toList.map fun c => D.str ⟨#[c]⟩ := rfl
  have l26 : letters.cps.toList.length = 26 := by decide +kernel
  have hcat : ∀ c : Nat, d_add4 (.str (cutS z none (some 7))) (.str ⟨#[c]⟩) = some (.str (sg z c)) := by
    intro c
    rw [add4_str, if_pos]
    · rfl
    · have := cut7_len z
      have e1 : (⟨#[c]⟩ : Str).length = 1 := rfl
      have e2 : cutS z none (some 7) = cut7 z := rfl
      rw [e1, e2]; omega
  simp only [W_jseq, W_var]
  simp [wipeR, zl, hcat, le, -add4_str, -Array.length_toList]
  rw [l26]
  refine ⟨by decide, by decide, ?_⟩
  refine hN _ _ ?_
  clear hN
  have il : isLstAt [.va (.obj n), .va (.int many), .va (.str letters), .va (.lst (ownW.map .str)), .ow (.lst (ws.map .str)), x1, .va (.str z), .va (.lst (.str z :: letters.cps.toList.map fun c => D.str (sg z c))), x4, x5, x6] S2 (.loc 4) = true := by simp [isLstAt, de_loc]
  simp only [W_app, W_var, List.getElem?_cons_succ, List.getElem?_cons_zero, il, true_and, W_op2]
  have es : D.str z :: letters.cps.toList.map (fun c => D.str (sg z c)) = (z :: letters.cps.toList.map (sg z)).map .str := by rw [List.map_cons, List.map_map]; rfl
  rw [es]
  refine W_mapG (fun y : Str => D.str y) (z :: letters.cps.toList.map (sg z)) (fun y => !decide (y ∈ ws ++ keptS)) (fun y => .str y) ?_
  have ekept : List.map D.str ws ++ [D.str "not", D.str "never", D.str "may"] = (ws ++ keptS).map .str := by rw [List.map_append]; rfl
  have ein2 : ∀ y : Str, d_in true (.str y) (.lst ((ws ++ keptS).map .str)) = some (.bl (!decide (y ∈ ws ++ keptS))) := fun y => in_strs true y (ws ++ keptS)
  have wl : ws.length + 3 ≤ 100000 := by omega
  rw [W_jseq, W_var]
  refine ⟨_, rfl, rfl, fun y hy => ⟨_, rfl, ?_, fun _ => ?_⟩, ?_, ?_⟩
  · simp [wipeR, de_loc, wl, ekept, ein2, -List.map_append, -List.mem_append]
  · simp [wipeR]
  · rw [List.length_cons, List.length_map, l26]; decide
  · obtain ⟨c0, hc0, hn0⟩ := some_sg2 z ws (by omega)
    have all : ∀ y ∈ (z :: letters.cps.toList.map (sg z)).filter (fun y => !decide (y ∈ ws ++ keptS)), isW y ∧ y ∉ ws := by
      intro y hy
      obtain ⟨h1, h2⟩ := List.mem_filter.mp hy
      have h3 : y ∉ ws ++ keptS := by simpa using h2
      have h4 : y ∉ ws := fun q => h3 (List.mem_append_left _ q)
      have h5 : y ∉ keptS := fun q => h3 (List.mem_append_right _ q)
      rcases List.mem_cons.mp h1 with rfl | h1
      · exact ⟨⟨⟨hz2, hz3⟩, hz1, h5⟩, h4⟩
      · obtain ⟨c, hc, rfl⟩ := List.mem_map.mp h1
        exact ⟨sg_W hz1 hc h5, h4⟩
    cases ef : (z :: letters.cps.toList.map (sg z)).filter (fun y => !decide (y ∈ ws ++ keptS)) with
    | nil =>
      have : sg z c0 ∈ (z :: letters.cps.toList.map (sg z)).filter (fun y => !decide (y ∈ ws ++ keptS)) := List.mem_filter.mpr ⟨List.mem_cons_of_mem _ (List.mem_map.mpr ⟨c0, hc0, rfl⟩), by simpa using hn0⟩
      rw [ef] at this
      cases this
    | cons w r =>
      rw [ef] at all
      obtain ⟨k1, k2⟩ := all w (List.mem_cons_self ..)
      have e0 : atI ((w :: r).map D.str) 0 = some (.str w) := by
        obtain ⟨x, x1, x2, _⟩ := atI_nn (xs := (w :: r).map D.str) (i := 0) (by omega) (by simp)
        rw [x2]
        simpa using x1.symm
      have hlen : ws.length < 100000 := by omega
      rw [List.map_cons] at e0
      simp [e0, hlen]
      refine ⟨ws ++ [w], x1, .va (.str z), _, x4, x5, x6, by rw [List.map_append]; rfl, d2, g2, by rw [List.length_append]; simp; omega, ?_, ?_, hd⟩
      · rw [List.nodup_append]
        exact ⟨nd, by simp, fun a ha b hb e => k2 (by rw [List.mem_singleton.mp hb] at e; exact e ▸ ha)⟩
      · intro u hu
        rcases List.mem_append.mp hu with hu | hu
        · exact hw u hu
        · rw [List.mem_singleton.mp hu]; exact k1
theorem names_S {n g b many : Nat} {S : Sg} {Q : D → Sg → Prop} (h : DrS n g (b + 11 * many) S) (hm : many ≤ 24) (q : ∀ (ws : List Str) S', DrS n g b S' → Grows n g S S' → ws.length = many → ws.Nodup → (∀ w ∈ ws, isW w) → Q (.lst (ws.map .str)) S') : (Lb.m__law_names [.obj n, .int many] S).W Q := by
  unfold Lb.m__law_names
  rw [W_fn]
  refine ⟨rfl, ?_⟩
  unfold Lb.b__law_names
  refine seq_of fun N hN => ?_
  simp [List.replicate]
  refine hN _ _ ?_
  clear hN
  refine seq_of fun N hN => ?_
  simp
  refine hN _ _ ?_
  clear hN
  refine seq_of fun N hN => ?_
  simp
  refine hN _ _ ?_
  clear hN
  refine seq_of fun N hN => ?_
  refine W_forG (namesSI n g b S many) ?_ ?_ ?_
  · simp [rng_1 (n := (many : Int)) (by omega)]
    exact ⟨[], _, _, _, _, _, _, rfl, by rw [rng_len]; exact h, .refl, by rw [rng_len]; simp, .nil, (fun _ h => nomatch h), rng_no _ _⟩
  · rintro d ds ρ S2 ⟨ws, x1, x2, x3, x4, x5, x6, rfl, d2, g2, hl, nd, hw, hd⟩
    have hd0 := hd d (List.mem_cons_self ..)
    rw [List.length_cons] at hl d2
    have hd1 : ∀ x ∈ ds, isLoc x = false := fun x hx => hd x (List.mem_cons_of_mem _ hx)
    refine ⟨_, by rw [tn_of, hd0]; rfl, ?_⟩
    clear hN
    refine seq_of fun N hN => ?_
    simp
    have lo : (ownW.length : Int) = 15 := by decide
    rw [lo]
    refine take_S (b := b + 11 * ds.length + 10) (d2.le (by omega)) (by decide) (by decide) fun r S3 d3 g3 r0 r1 => ?_
    obtain ⟨x, e1, e2, _⟩ := atI_nn (xs := ownW.map D.str) r0 (by rw [List.length_map, lo]; exact r1)
    obtain ⟨z, hz, rfl⟩ := List.mem_map.mp (List.mem_of_getElem? e1)
    have zW := ownW_W z hz
    simp [e2]
    refine hN _ _ ?_
    clear hN
    refine seq_of fun N hN => ?_
    simp
    refine take_S (b := b + 11 * ds.length + 9) d3 (by decide) (by decide) fun r S4 d4 g4 r0 r1 => ?_
    simp
    split
    · refine W_lcG (signsI n g (b + 11 * ds.length) S2) ?_ ?_ ?_
      · simp
        refine take_S (b := b + 11 * ds.length + 8) d4 (by decide) (by decide) fun r S5 d5 g5 r0 r1 => ?_
        simp [rng_1 (n := 1 + r) (by omega)]
        exact ⟨[], rfl, d5.le (by rw [rng_len]; omega), (g3.trans g4).trans g5, (fun _ h => nomatch h), by rw [rng_len]; simp; omega, by rw [rng_len]; simp; omega, rng_no _ _⟩
      · rintro ys d' ds' S5 ⟨cs, rfl, d5, g5, hcs, c1, c2, hd'⟩
        have hd0' := hd' d' (List.mem_cons_self ..)
        refine ⟨_, by rw [tn_of, hd0']; rfl, ?_⟩
        simp [wipeR]
        refine pick_sign (b := b + 11 * ds.length + ds'.length) (z := letters) d5 (by decide +kernel) (by decide +kernel) fun c S6 d6 g6 hc => ?_
        have hc' := letters_small c hc
        simp
        refine ⟨cs ++ [c], by simp, d6, g5.trans g6, ?_, by rw [List.length_append]; simp; omega, by rw [List.length_cons] at c2; rw [List.length_append]; simp; omega, fun x hx => hd' x (List.mem_cons_of_mem _ hx)⟩
        intro x hx
        rcases List.mem_append.mp hx with hx | hx
        · exact hcs x hx
        · rw [List.mem_singleton.mp hx]; exact hc'
      · rintro ys S5 ⟨cs, rfl, d5, g5, hcs, c1, c2, _⟩
        simp at c1 c2
        refine ⟨by rw [List.length_map]; omega, ?_⟩
        have ej := joinD_signs cs (by omega)
        simp [ej]
        refine hN _ _ ?_
        exact spare_S ⟨hcs, c1, c2⟩ d5 (g2.trans g5) hl hm nd hw hd1
    · refine hN _ _ ?_
      exact spare_S ⟨zW.2.1, zW.1.1, zW.1.2⟩ (d4.le (by omega)) ((g2.trans g3).trans g4) hl hm nd hw hd1
  · rintro ρ S2 ⟨ws, x1, x2, x3, x4, x5, x6, rfl, d2, g2, hl, nd, hw, _⟩
    refine hN _ _ ?_
    simp [de_loc]
    exact q ws S2 d2 g2 (by simpa using hl) nd hw
end Gd

/-! Hs, part 3: drawn lists of names, drawn rules. -/
namespace Gd
open PySem L2 PyProof.Rows

theorem DrS.setO {n g b k : Nat} {S : Sg} (h : DrS n g b S) (k1 : k ≠ n) (k2 : k ≠ g) (d : D) : DrS n g b (S.set k d) := by
  obtain ⟨ne, gr, cs, r, t, h1, h2, h3⟩ := h
  exact ⟨ne, gr, cs, r, t, by rw [List.getElem?_set_ne k1]; exact h1, by rw [List.getElem?_set_ne k2]; exact h2, h3⟩
theorem DrS.app {n g b : Nat} {S : Sg} (h : DrS n g b S) (X : Sg) : DrS n g b (S ++ X) := by
  obtain ⟨ne, gr, cs, r, t, h1, h2, h3⟩ := h
  exact ⟨ne, gr, cs, r, t, getApp h1, getApp h2, h3⟩
theorem DrS.lt {n g b : Nat} {S : Sg} (h : DrS n g b S) : n < S.length ∧ g < S.length := by
  obtain ⟨ne, gr, cs, r, t, h1, h2, h3⟩ := h
  exact ⟨(List.getElem?_eq_some_iff.mp h1).1, (List.getElem?_eq_some_iff.mp h2).1⟩
theorem cutD_take (ds : List D) (k : Int) (h0 : 0 ≤ k) : cutD ds none (some k) = ds.take k.toNat := by
  unfold cutD
  have e : HT.sIx ds.length ds.length (some k) = min k.toNat ds.length := by
    have := HT.sIx_nat ds.length ds.length k.toNat
    rw [Int.toNat_of_nonneg h0] at this
    exact this
  rw [e, HT.sIx_none]
  simp [List.take_take]
theorem erase_perm {α : Type} : ∀ (l : List α) (k : Nat) (h : k < l.length), (l[k] :: l.eraseIdx k).Perm l
  | x :: l, 0, _ => .refl _
  | x :: l, k + 1, h => (List.Perm.swap x (l[k]'(by simpa using h)) (l.eraseIdx k)).trans (.cons x (erase_perm l k (by simpa using h)))
theorem sD_erase : ∀ (ws : List Str) (k : Nat), (sD ws).eraseIdx k = sD (ws.eraseIdx k)
  | [], _ => rfl
  | w :: ws, 0 => rfl
  | w :: ws, k + 1 => congrArg (D.str w :: ·) (sD_erase ws k)
def someI (n g b : Nat) (S : Sg) (ns : List Str) (most : Nat) (ys ds : List D) (S2 : Sg) : Prop := ∃ ws left : List Str, ys = sD ws ∧ S2[S.length]? = some (.lst (sD left)) ∧ DrS n g (b + ds.length) S2 ∧ Grows n g S S2 ∧ (ws ++ left).Nodup ∧ (∀ w ∈ ws ++ left, w ∈ ns) ∧ ds.length ≤ left.length ∧ ws.length + ds.length ≤ most ∧ ∀ d ∈ ds, isLoc d = false
theorem some_S {n g b most : Nat} {S : Sg} {ns : List Str} {d : D} {Q : D → Sg → Prop} (h : DrS n g (b + 1 + most) S) (hd : d = .lst (sD ns) ∨ d = .tup (sD ns)) (nd : ns.Nodup) (hl : ns.length ≤ 10000) (hm : most ≤ 1000)
    (q : ∀ (ws : List Str) S', DrS n g b S' → Grows n g S S' → ws.Nodup → (∀ w ∈ ws, w ∈ ns) → ws.length ≤ most → Q (.tup (sD ws)) S') : (Lb.m__law_some [.obj n, d, .int most] S).W Q := by
  unfold Lb.m__law_some
  rw [W_fn]
  refine ⟨rfl, ?_⟩
  unfold Lb.b__law_some
  refine seq_of fun N hN => ?_
  have lt := h.lt
  have st : N [.va (.obj n), .va d, .va (.int most), .va (.obj S.length), .un] (S ++ [.lst (sD ns)]) := by
    refine hN _ _ ?_
    clear hN
    rw [W_ret, W_cb, W_acons]
    refine W_lcG (someI n g b S ns most) ?_ ?_ ?_
    · simp [sD_len]
      refine take_S (b := b + most) ((h.app _).le (by omega)) (by omega) (by omega) fun r S2 d2 g2 r0 r1 => ?_
      have hS2 : S2[S.length]? = some (.lst (sD ns)) := by
        rw [g2.at' _ (by rw [List.length_append]; simp) (by omega) (by omega)]
        exact getLast
      have hk : (if r < (ns.length : Int) then r else (ns.length : Int)).toNat ≤ ns.length ∧ (if r < (ns.length : Int) then r else (ns.length : Int)).toNat ≤ most ∧ -100000 ≤ (if r < (ns.length : Int) then r else (ns.length : Int)) ∧ (if r < (ns.length : Int) then r else (ns.length : Int)) ≤ 100000 := by
        split <;> omega
      obtain ⟨k, ek⟩ : ∃ k, (if r < (ns.length : Int) then r else (ns.length : Int)) = k := ⟨_, rfl⟩
      rw [ek] at hk
      simp only [de_int, Option.map_some, Option.bind_some, dmin_ints, ek, Option.some.injEq, exists_eq_left']
      simp [rng_1 (n := k) ⟨hk.2.2.1, hk.2.2.2⟩]
      exact ⟨[], ns, rfl, hS2, d2.le (by rw [rng_len]; omega), (Grows.app _).trans g2, by simpa using nd, by simp, by rw [rng_len]; omega, by rw [rng_len]; simp; omega, rng_no _ _⟩
    · rintro ys x ds S2 ⟨ws, left, rfl, hS2, d2, g2, hn, hs, hl1, hl2, hd'⟩
      have hd0 := hd' x (List.mem_cons_self ..)
      rw [List.length_cons] at hl1 hl2
      refine ⟨_, by rw [tn_of, hd0]; rfl, ?_⟩
      simp [wipeR, hS2, sD_len]
      refine take_S (b := b + ds.length) d2 (by omega) (by have := pigeon _ ns hn hs; rw [List.length_append] at this; omega) fun r S3 d3 g3 r0 r1 => ?_
      have hS3 : S3[S.length]? = some (.lst (sD left)) := by
        rw [g3.at' _ (List.getElem?_eq_some_iff.mp hS2).1 (by omega) (by omega)]
        exact hS2
      obtain ⟨y, y1, _, y3⟩ := atI_nn (xs := left) r0 r1
      have ep : popAt (sD left) r = some (.str y, sD (left.eraseIdx r.toNat)) := by
        unfold popAt
        rw [sD_len, y3]
        show (((sD left)[r.toNat]?).map _) = _
        rw [sD_erase]
        unfold sD
        rw [List.getElem?_map, y1]
        rfl
      have ll : left.length ≤ 100000 := by have := pigeon _ ns hn hs; rw [List.length_append] at this; omega
      simp [hS3, ep, ll]
      have hy : y ∈ left := List.mem_of_getElem? y1
      have hlt : r.toNat < left.length := (List.getElem?_eq_some_iff.mp y1).1
      have hnl := (List.nodup_append.mp hn).2.1
      refine ⟨ws ++ [y], left.eraseIdx r.toNat, by simp [sD], by rw [List.getElem?_set_self (List.getElem?_eq_some_iff.mp hS3).1], d3.setO (by omega) (by omega) _, (g2.trans g3).set (Nat.le_refl _) _, ?_, ?_, by rw [List.length_eraseIdx_of_lt hlt]; omega, by rw [List.length_append]; simp; omega, fun z hz => hd' z (List.mem_cons_of_mem _ hz)⟩
      · have hp : (ws ++ left).Perm (ws ++ [y] ++ left.eraseIdx r.toNat) := by
          rw [List.append_assoc]
          refine List.Perm.append_left _ ?_
          have he : left[r.toNat] = y := (List.getElem?_eq_some_iff.mp y1).2
          have := erase_perm left r.toNat hlt
          rw [he] at this
          exact this.symm
        exact hp.nodup_iff.mp hn
      · intro w hw
        rw [List.append_assoc] at hw
        rcases List.mem_append.mp hw with hw | hw
        · exact hs w (List.mem_append_left _ hw)
        · rcases List.mem_append.mp hw with hw | hw
          · rw [List.mem_singleton.mp hw]; exact hs y (List.mem_append_right _ hy)
          · exact hs w (List.mem_append_right _ (List.mem_of_mem_eraseIdx hw))
    · rintro ys S2 ⟨ws, left, rfl, hS2, d2, g2, hn, hs, _, hl2, _⟩
      have : ws.length ≤ most := by simpa using hl2
      refine ⟨by rw [sD_len]; omega, ?_⟩
      simp
      exact q ws S2 d2 g2 (List.nodup_append.mp hn).1 (fun w hw => hs w (List.mem_append_left _ hw)) this
  rcases hd with rfl | rfl
  · simp [List.replicate]
    exact st
  · simp [List.replicate]
    exact st
end Gd

/-! Hh, part 1: bases of plain rules with grounds. -/
namespace Gd
open PySem L2 PyProof.Rows

theorem ne_tup0 (ws : List Str) (h : ∀ w ∈ ws, isW w) : d_ne (.tup (sD ws)) (.tup []) = some (.bl (!decide (ws = []))) := by
  have := ne_py (⟨ws⟩ : Tp Str) ⟨[]⟩ (fun w hw => isW_ok (h w hw)) (fun w hw => nomatch hw)
  have e : decide ((⟨ws⟩ : Tp Str) = ⟨[]⟩) = decide (ws = []) := by simp [Tp.mk_inj]
  rw [e] at this
  exact this
theorem need_plain_eq {rs : List Rl} (ok : ∀ r ∈ rs, r.Ok) (hb : baseB rs = true) (hp : ∀ r ∈ rs, r.un = []) {S : Sg} {d : D} (h : SeqOf S (rlsD rs) d) : Lb.m_need_plain [d] S = .ok .non S := by
  have l40 : rs.length ≤ 40 := by
    unfold baseB at hb
    rw [Bool.and_eq_true] at hb
    exact of_decide_eq_true hb.1
  refine W_eqOk ?_
  unfold Lb.m_need_plain
  rw [W_fn]
  refine ⟨rfl, ?_⟩
  unfold Lb.b_need_plain
  refine seq_of fun N hN => ?_
  simp [List.replicate, h.lo, need_base_eq ok hb h]
  refine hN _ _ ?_
  clear hN
  rw [W_if, W_te, W_cb, W_acons]
  refine W_mapA Rl.d rs (fun _ => .bl false) ?_
  obtain ⟨gs, hs⟩ := h.src true [.va d, .un]
  have e0 : d_ne (.tup []) (.tup []) = some (.bl false) := ne_tup0 [] (fun _ h => nomatch h)
  have e1 : rs.map (fun _ => D.bl false) = (rs.map fun _ => false).map .bl := by rw [List.map_map]; rfl
  simp only [W_jseq, W_var]
  simp only [List.getElem?_cons_zero, hs]
  refine ⟨_, rfl, rfl, fun r hr => ⟨[.va d, .va r.d], rfl, ?_⟩, by omega, ?_⟩
  · have er := hp r hr
    simp [er, sD, e0]
  · have e2 : d_any (.lst ((rs.map fun _ => false).map .bl)) = some (.bl false) := by
      rw [any_bls]
      simp
    rw [e1]
    simp [e2, -List.map_map, -List.map_const]
theorem keysOf_sD (gs : List Str) : keysOf (sD gs) = some (gs.map Sum.inr) := keys_strs gs
theorem dd_uniq : ∀ (ks acc : List Str), dd (acc.map Sum.inr) (ks.map Sum.inr) = (uniq acc ks).map Sum.inr
  | [], acc => rfl
  | k :: ks, acc => by
    show dd (if inK (acc.map Sum.inr) (Sum.inr k) = true then acc.map Sum.inr else acc.map Sum.inr ++ [Sum.inr k]) (ks.map Sum.inr) = (uniq (if k ∈ acc then acc else acc ++ [k]) ks).map Sum.inr
    have e : inK (acc.map Sum.inr) (Sum.inr k) = decide (k ∈ acc) := by
      unfold inK
      rw [Bool.eq_iff_iff, List.any_eq_true, decide_eq_true_iff]
      constructor
      · rintro ⟨x, hx, q⟩
        obtain ⟨w, hw, rfl⟩ := List.mem_map.mp hx
        have q : (Sum.inr w : Key) = Sum.inr k := of_decide_eq_true q
        cases q; exact hw
      · intro hx
        exact ⟨_, List.mem_map.mpr ⟨k, hx, rfl⟩, by simp⟩
    rw [e]
    by_cases hk : k ∈ acc
    · simp only [hk, decide_true, if_true]
      exact dd_uniq ks acc
    · simp only [hk, decide_false, if_false]
      rw [if_neg Bool.false_ne_true, ← dd_uniq ks (acc ++ [k]), List.map_append]
      rfl
/-- the names of rules and of grounds -/
def togN (rs : List Rl) (gs : List Str) : List Str := uniq [] (uniq [] (namesR rs) ++ gs)
theorem togN_len {rs : List Rl} {gs pool : List Str} (h1 : ∀ r ∈ rs, ∀ w ∈ r.nms, w ∈ pool) (h2 : ∀ w ∈ gs, w ∈ pool) : (togN rs gs).length ≤ pool.length := by
  refine pigeon _ _ (uniq_nd _ _ .nil) fun w hw => ?_
  rcases (uniq_mem _ _ _).mp hw with hw | hw
  · cases hw
  · rcases List.mem_append.mp hw with hw | hw
    · rcases (uniq_mem _ _ _).mp hw with hw | hw
      · cases hw
      · obtain ⟨r, hr, hw⟩ := List.mem_flatMap.mp hw
        exact h1 r hr w hw
    · exact h2 w hw
theorem are_together_eq {rs : List Rl} (ok : ∀ r ∈ rs, r.Ok) (hb : baseB rs = true) {gs : List Str} (hl : gs.length ≤ 24) {S : Sg} {d e : D} (h : SeqOf S (rlsD rs) d) (he : SeqOf S (sD gs) e) : Lb.m_are_together [d, e] S = .ok (.bl (decide ((togN rs gs).length ≤ 24))) S := by
  have hb' := hb
  unfold baseB at hb'
  rw [Bool.and_eq_true] at hb'
  have l40 : rs.length ≤ 40 := of_decide_eq_true hb'.1
  have l24 : (uniq [] (namesR rs)).length ≤ 24 := of_decide_eq_true hb'.2
  refine W_eqOk ?_
  unfold Lb.m_are_together
  rw [W_fn]
  refine ⟨rfl, ?_⟩
  unfold Lb.b_are_together
  rw [W_ret, W_op2]
  refine W_or2 ?_
  have ek : (trueK (uniq [] (namesR rs))).map (·.1) = (uniq [] (namesR rs)).map Sum.inr := by
    unfold trueK
    rw [List.map_map]; rfl
  have e2 : ∀ ρ : Ro, (deref ρ S e).bind keysD = some (gs.map Sum.inr) := fun ρ => by
    rcases he.de ρ with q | q <;> rw [q] <;> exact keysOf_sD gs
  have e3 : lenU ((uniq [] (namesR rs)).map Sum.inr ++ gs.map Sum.inr) = some (.int (togN rs gs).length) := by
    unfold lenU togN
    have := dd_uniq (uniq [] (namesR rs) ++ gs) []
    rw [List.map_append, List.map_nil] at this
    rw [this, List.length_map]
  simp [List.replicate, h.lo, names_of_eq ok (by omega) h]
  refine ⟨_, rfl, by rw [List.length_map, trueK_len]; omega, ?_⟩
  refine ⟨_, e2 _, by rw [List.length_map]; omega, ?_⟩
  rw [ek, e3]
  simp
  omega
theorem need_grounds_eq {rs : List Rl} (ok : ∀ r ∈ rs, r.Ok) (hb : baseB rs = true) (hp : ∀ r ∈ rs, r.un = []) {gs : List Str} (hg : ∀ w ∈ gs, isW w) (nd : gs.Nodup) (hl : gs.length ≤ 24) (ht : (togN rs gs).length ≤ 24) {S : Sg} {d e : D} (h : SeqOf S (rlsD rs) d) (he : SeqOf S (sD gs) e) :
    Lb.m_need_grounds [d, e, .int 24] S = .ok .non S := by
  refine W_eqOk ?_
  unfold Lb.m_need_grounds
  rw [W_fn]
  refine ⟨rfl, ?_⟩
  unfold Lb.b_need_grounds
  refine seq_of fun N hN => ?_
  simp [List.replicate, h.lo, need_plain_eq ok hb hp h]
  refine hN _ _ ?_
  clear hN
  refine seq_of fun N hN => ?_
  simp [he.lo, need_names_eq (most := 24) (sD_plain hg) (by decide) (areD_ok hg nd (by omega)) he]
  refine hN _ _ ?_
  clear hN
  simp [h.lo, he.lo, are_together_eq ok hb hl h he, ht]
/-! ### stands -/
/-- what is in the thing d is told by p -/
structure InOf (S : Sg) (p : Str → Bool) (d : D) : Prop where
  lo : isLoc d = false
  has : ∀ (ρ : Ro) (neg : Bool) (z : Str), ((deref ρ S d).bind fun e' => d_in5 neg (.str z) e') = some (.bl (if neg then !p z else p z))
theorem SeqOf.inOf {S : Sg} {ss : List Str} {d : D} (h : SeqOf S (sD ss) d) : InOf S (fun z => decide (z ∈ ss)) d := ⟨h.lo, fun ρ neg z => h.has ρ neg z⟩
theorem inOf_num {S : Sg} {n : Nat} {l : List (Str × Int)} (h : S[n]? = some (.dct (numK l))) : InOf S (fun z => decide (z ∈ ksN l)) (.obj n) := ⟨rfl, fun ρ neg z => by
  show (S[n]?).bind _ = _
  rw [h]
  exact in_num neg z l⟩
theorem stands_eq {r : Rl} (ok : r.Ok) {S : Sg} {p : Str → Bool} {d : D} (h : InOf S p d) : Lb.m_stands [r.d, d] S = .ok (.bl (r.bd.all p)) S := by
  refine W_eqOk ?_
  unfold Lb.m_stands
  rw [W_fn]
  refine ⟨rfl, ?_⟩
  unfold Lb.b_stands
  rw [W_ret, W_cb, W_acons]
  refine W_mapA (fun w : Str => D.str w) r.bd (fun w => .bl (p w)) ?_
  have lb := ok.lb
  simp [List.replicate, wipeR]
  refine ⟨rfl, fun w hw => ?_, by omega, ?_⟩
  · have := h.has [.va r.d, .va d, .va (.str w)] false w
    simp at this
    simp [this, h.lo]
  · have e1 : r.bd.map (fun w => D.bl (p w)) = (r.bd.map p).map .bl := by rw [List.map_map]; rfl
    rw [e1, all_bls]
    simp [List.all_map]
end Gd

/-! Hh, part 2: the rounds in which names come in. -/
namespace Gd
open PySem L2 PyProof.Rows

/-! ### plain: the rounds -/
def putF (lv : List Str) (k : Nat) (r : Rl) (f : List (Str × Int)) : List (Str × Int) := match r.hd with
  | none => f
  | some z => if z ∉ lv ∧ z ∉ ksN f ∧ (r.bd.all fun w => decide (w ∈ lv)) = true then f ++ [(z, (k : Int))] else f
def freshP (lv : List Str) : Nat → List Rl → List (Str × Int) → List (Str × Int)
  | _, [], f => f
  | k, r :: rs, f => freshP lv (k + 1) rs (putF lv k r f)
def atT (t : Int) (f : List (Str × Int)) : List (Str × Int) := f.map fun p => (p.1, t)
@[simp] theorem ksN_at (t : Int) (f : List (Str × Int)) : ksN (atT t f) = ksN f := by
  unfold ksN atT
  rw [List.map_map]; rfl
theorem ksN_app (a b : List (Str × Int)) : ksN (a ++ b) = ksN a ++ ksN b := List.map_append
def roundsP (rs : List Rl) : Nat → List (Str × Int) → List (Str × Int) → Int → List (Str × Int) × List (Str × Int)
  | 0, lv, pl, _ => (lv, pl)
  | n + 1, lv, pl, t => if freshP (ksN lv) 0 rs [] = [] then (lv, pl) else roundsP rs n (lv ++ atT (t + 1) (freshP (ksN lv) 0 rs [])) (pl ++ freshP (ksN lv) 0 rs []) (t + 1)
def heads (rs : List Rl) : List Str := rs.filterMap Rl.hd
def FOk (lv hs : List Str) (f : List (Str × Int)) : Prop := (ksN f).Nodup ∧ ∀ z ∈ ksN f, z ∉ lv ∧ z ∈ hs
theorem putF_ok {lv hs : List Str} {k : Nat} {r : Rl} {f : List (Str × Int)} (h : FOk lv hs f) (hr : ∀ z, r.hd = some z → z ∈ hs) : FOk lv hs (putF lv k r f) := by
  unfold putF
  split
  · exact h
  · next z hz =>
    split
    · next c =>
      refine ⟨?_, fun y hy => ?_⟩
      · rw [ksN_app, List.nodup_append]
        exact ⟨h.1, by simp [ksN], fun a ha b hb e => c.2.1 (by
          have : b = z := by simpa [ksN] using hb
          rw [← this, ← e]; exact ha)⟩
      · rw [ksN_app] at hy
        rcases List.mem_append.mp hy with hy | hy
        · exact h.2 y hy
        · have : y = z := by simpa [ksN] using hy
          rw [this]
          exact ⟨c.1, hr z hz⟩
    · exact h
theorem freshP_ok {lv hs : List Str} : ∀ (rs : List Rl) (k : Nat) (f : List (Str × Int)), FOk lv hs f → (∀ z ∈ heads rs, z ∈ hs) → FOk lv hs (freshP lv k rs f)
  | [], _, _, h, _ => h
  | r :: rs, k, f, h, hr => by
    refine freshP_ok rs (k + 1) _ (putF_ok h fun z hz => hr z ?_) fun z hz => hr z ?_
    · unfold heads
      rw [List.filterMap_cons, hz]
      exact List.mem_cons_self ..
    · unfold heads at hz ⊢
      rw [List.filterMap_cons]
      cases r.hd with
      | none => exact hz
      | some y => exact List.mem_cons_of_mem _ hz
theorem fresh_ok (lv : List Str) (rs : List Rl) : FOk lv (heads rs) (freshP lv 0 rs []) := freshP_ok rs 0 [] ⟨.nil, fun _ h => nomatch h⟩ fun _ h => h
/-- heads that have not come in -/
def outN (hs lv : List Str) : Nat := (hs.filter fun z => !decide (z ∈ lv)).length
theorem outN_le (hs lv : List Str) : outN hs lv ≤ hs.length := List.length_filter_le ..
theorem outN_mono (lv m : List Str) : ∀ hs : List Str, outN hs (lv ++ m) ≤ outN hs lv
  | [] => Nat.le_refl _
  | h :: hs => by
    have ih := outN_mono lv m hs
    unfold outN at ih ⊢
    rw [List.filter_cons, List.filter_cons]
    by_cases a : h ∈ lv
    · have b : h ∈ lv ++ m := List.mem_append_left _ a
      simp only [a, b, decide_true, Bool.not_true, Bool.false_eq_true, if_false]
      exact ih
    · simp only [a, decide_false, Bool.not_false, if_true, List.length_cons]
      split
      · rw [List.length_cons]; omega
      · omega
theorem outN_lt {lv m : List Str} {z : Str} (hz : z ∈ m) (hn : z ∉ lv) : ∀ hs : List Str, z ∈ hs → outN hs (lv ++ m) < outN hs lv
  | h :: hs, hm => by
    have mono := outN_mono lv m hs
    by_cases e : h = z
    · subst e
      have b : h ∈ lv ++ m := List.mem_append_right _ hz
      unfold outN at mono ⊢
      rw [List.filter_cons, List.filter_cons]
      simp only [hn, b, decide_true, decide_false, Bool.not_true, Bool.not_false, Bool.false_eq_true, if_false, if_true, List.length_cons]
      omega
    · have ih := outN_lt hz hn hs (by
        rcases List.mem_cons.mp hm with q | q
        · exact absurd q.symm e
        · exact q)
      unfold outN at ih ⊢
      rw [List.filter_cons, List.filter_cons]
      by_cases a : h ∈ lv
      · have b : h ∈ lv ++ m := List.mem_append_left _ a
        simp only [a, b, decide_true, Bool.not_true, Bool.false_eq_true, if_false]
        exact ih
      · simp only [a, decide_false, Bool.not_false, if_true, List.length_cons]
        split
        · rw [List.length_cons]; omega
        · omega
theorem out_fresh {lv : List Str} {rs : List Rl} (h : freshP lv 0 rs [] ≠ []) : outN (heads rs) (lv ++ ksN (freshP lv 0 rs [])) < outN (heads rs) lv := by
  have ok := fresh_ok lv rs
  cases e : freshP lv 0 rs [] with
  | nil => exact absurd e h
  | cons p f =>
    rw [e] at ok
    have hp : p.1 ∈ ksN (p :: f) := List.mem_cons_self ..
    exact outN_lt hp (ok.2 _ hp).1 _ (ok.2 _ hp).2
/-! ### two things at the store's end -/
section
variable {S : Sg} {x y d : D}
@[simp] theorem two0 : (S ++ [x, y])[S.length]? = some x := by
  rw [List.getElem?_append_right (Nat.le_refl _), Nat.sub_self]; rfl
@[simp] theorem two1 : (S ++ [x, y])[S.length + 1]? = some y := by
  rw [List.getElem?_append_right (by omega), show S.length + 1 - S.length = 1 by omega]; rfl
@[simp] theorem twoS0 : (S ++ [x, y]).set S.length d = S ++ [d, y] := by
  rw [List.set_append_right _ _ (Nat.le_refl _), Nat.sub_self]; rfl
@[simp] theorem twoS1 : (S ++ [x, y]).set (S.length + 1) d = S ++ [x, d] := by
  rw [List.set_append_right _ _ (by omega), show S.length + 1 - S.length = 1 by omega]; rfl
end
theorem kmerge_num : ∀ (b a : List (Str × Int)), (ksN (a ++ b)).Nodup → kmerge (numK a) (numK b) = numK (a ++ b)
  | [], a, _ => by rw [List.append_nil]; rfl
  | (z, n) :: b, a, h => by
    have hz : z ∉ ksN a := fun q => by
      rw [ksN_app, List.nodup_append] at h
      exact h.2.2 z q z (List.mem_cons_self ..) rfl
    show kmerge (kput (numK a) (.inr z) (.int n)) (numK b) = _
    rw [kput_new n hz, kmerge_num b (a ++ [(z, n)]) (by rw [List.append_assoc]; exact h), List.append_assoc]
    rfl
@[simp] theorem notN_opt (o : Option Str) : d_notN (optD o) .non = some (.bl o.isSome) := by cases o <;> rfl
@[simp] theorem notN_str (z : Str) : d_notN (.str z) .non = some (.bl true) := rfl
@[simp] theorem notN_non : d_notN .non .non = some (.bl false) := rfl
end Gd

/-! Hh, part 3: the mirror of rounds. -/
namespace Gd
open PySem L2 PyProof.Rows

def inI (d e : D) (x2 : Slot) (a b : Nat) (t : Int) (lv F : List (Str × Int)) (rs : List Rl) (S : Sg) (ds : List D) (ρ : Ro) (S2 : Sg) : Prop :=
  S2 = S ∧ ∃ (k : Nat) (rest : List Rl) (f : List (Str × Int)) (x7 x8 : Slot), ds = enF Rl.d k rest ∧ ρ = [.va d, .va e, x2, .va (.obj a), .va (.obj b), .ow (.dct (numK f)), .va (.int t), x7, x8] ∧ freshP (ksN lv) k rest f = F ∧ (∀ r ∈ rest, r ∈ rs) ∧ f.length + rest.length ≤ 50
/-- the inner walk -/
theorem inner_W {rs : List Rl} (ok : ∀ r ∈ rs, r.Ok) (hl : rs.length ≤ 40) {S : Sg} {d e : D} {x2 x7 x8 : Slot} {a b : Nat} {t : Int} {lv : List (Str × Int)} {nx : Ro → Sg → Prop} {rt : D → Sg → Prop} (h : SeqOf S (rlsD rs) d) (ha : S[a]? = some (.dct (numK lv)))
    (q : ∀ x7 x8, nx [.va d, .va e, x2, .va (.obj a), .va (.obj b), .ow (.dct (numK (freshP (ksN lv) 0 rs []))), .va (.int t), x7, x8] S) :
    ((s_forG (j_enum false (e_var 0)) (t_tup [(t_name 7), (t_name 8)]) (s_if (t_and (t_e (e_op2 d_notN (e_op1 (d_fld ["Rule"] "head") (e_var 8)) (e_c .non))) (t_and (t_e (e_op2 (d_in5 true) (e_op1 (d_fld ["Rule"] "head") (e_var 8)) (e_var 3))) (t_and (t_e (e_op2 (d_in5 true) (e_op1 (d_fld ["Rule"] "head") (e_var 8)) (e_var 5))) (t_e (e_call Lb.m_stands (a_cons (e_var 8) (a_cons (e_var 3) a_nil))))))) (s_seti (e_var 7) (e_var 5) (e_op1 (d_fld ["Rule"] "head") (e_var 8))) s_nx))
      [.va d, .va e, x2, .va (.obj a), .va (.obj b), .ow (.dct []), .va (.int t), x7, x8] S).W nx rt := by
  refine W_forG (inI d e x2 a b t lv (freshP (ksN lv) 0 rs []) rs S) ?_ ?_ ?_
  · obtain ⟨gs, hs, sm⟩ := h.enum false [.va d, .va e, x2, .va (.obj a), .va (.obj b), .ow (.dct []), .va (.int t), x7, x8]
    rw [W_jenum, W_var]
    refine ⟨_, hs, ⟨rfl, 0, rs, [], x7, x8, enumD_enF Rl.d rs, rfl, rfl, fun r hr => hr, by simp; omega⟩, .inr ?_⟩
    rintro ds ρ2 S2 ⟨rfl, _⟩
    exact sm _ h
  · rintro dd ds ρ S2 ⟨rfl, k, rest, f, y7, y8, e1, rfl, hf, hr, hlen⟩
    cases rest with
    | nil => cases e1
    | cons r rest =>
      cases e1
      have okr := ok r (hr r (List.mem_cons_self ..))
      have hr2 : ∀ x ∈ rest, x ∈ rs := fun x hx => hr x (List.mem_cons_of_mem _ hx)
      rw [List.length_cons] at hlen
      refine ⟨[.va d, .va e, x2, .va (.obj a), .va (.obj b), .ow (.dct (numK f)), .va (.int t), .va (.int k), .va r.d], by simp, ?_⟩
      have fin : ∀ y : List (Str × Int), y = putF (ksN lv) k r f → inI d e x2 a b t lv (freshP (ksN lv) 0 rs []) rs S2 (enF Rl.d (k + 1) rest) [.va d, .va e, x2, .va (.obj a), .va (.obj b), .ow (.dct (numK y)), .va (.int t), .va (.int k), .va r.d] S2 := by
        rintro _ rfl
        refine ⟨rfl, k + 1, rest, _, _, _, rfl, rfl, hf, hr2, ?_⟩
        have : (putF (ksN lv) k r f).length ≤ f.length + 1 := by
          unfold putF
          split
          · omega
          · split
            · rw [List.length_append]; simp
            · omega
        omega
      have hst := stands_eq okr (inOf_num ha)
      cases ehd : r.hd with
      | none =>
        simp [ehd]
        exact fin f (by unfold putF; rw [ehd])
      | some z =>
        by_cases c1 : z ∈ ksN lv
        · simp [ehd, optD, ha, in_num, c1]
          exact fin f (by unfold putF; rw [ehd]; simp [c1])
        · by_cases c2 : z ∈ ksN f
          · simp [ehd, optD, ha, in_num, c1, c2, de_loc]
            exact fin f (by unfold putF; rw [ehd]; simp [c2])
          · by_cases c3 : (r.bd.all fun w => decide (w ∈ ksN lv)) = true
            · have lf : f.length < 100000 := by omega
              simp only [c3] at hst
              simp [ehd, optD, ha, in_num, c1, c2, de_loc, hst, W_putTo, lf, kput_new _ c2, -List.mem_map]
              exact fin _ (by unfold putF; rw [ehd]; simp only [c1, c2, c3, not_false_eq_true, true_and, and_true, if_true])
            · have c4 : (r.bd.all fun w => decide (w ∈ ksN lv)) = false := by simpa using c3
              simp only [c4] at hst
              simp [ehd, optD, ha, in_num, c1, c2, de_loc, hst, -List.mem_map]
              exact fin f (by unfold putF; rw [ehd]; simp only [c4, Bool.false_eq_true, and_false, if_false])
  · rintro ρ S2 ⟨rfl, k, rest, f, y7, y8, e1, rfl, hf, hr, hlen⟩
    cases rest with
    | nil =>
      have hf : f = freshP (ksN lv) 0 rs [] := hf
      rw [hf]
      exact q _ _
    | cons r rest => cases e1
def outI (d e : D) (t : Int) (S : Sg) (lv pl F : List (Str × Int)) (ds : List D) (ρ : Ro) (S2 : Sg) : Prop :=
  ∃ (done rest : List (Str × Int)) (x2 x7 x8 : Slot), F = done ++ rest ∧ ds = pairsD (numK rest) ∧ ρ = [.va d, .va e, x2, .va (.obj S.length), .va (.obj (S.length + 1)), .va (.dcf (numK F)), .va (.int t), x7, x8] ∧ S2 = S ++ [.dct (numK (lv ++ atT t done)), .dct (numK (pl ++ done))]
/-- what came in is put down -/
theorem outer_W {S : Sg} {d e : D} {x2 x7 x8 : Slot} {t : Int} {lv pl F : List (Str × Int)} {nx : Ro → Sg → Prop} {rt : D → Sg → Prop} (n1 : (ksN (lv ++ F)).Nodup) (n2 : (ksN (pl ++ F)).Nodup) (l1 : (lv ++ F).length ≤ 1000) (l2 : (pl ++ F).length ≤ 1000)
    (q : ∀ x2 x7 x8, nx [.va d, .va e, x2, .va (.obj S.length), .va (.obj (S.length + 1)), .va (.dcf (numK F)), .va (.int t), x7, x8] (S ++ [.dct (numK (lv ++ atT t F)), .dct (numK (pl ++ F))])) :
    ((s_frz 5 (s_forG (j_items (e_var 5)) (t_tup [(t_name 2), (t_name 7)]) (s_seq (s_seti (e_var 6) (e_var 3) (e_var 2)) (s_seti (e_var 7) (e_var 4) (e_var 2)))))
      [.va d, .va e, x2, .va (.obj S.length), .va (.obj (S.length + 1)), .ow (.dct (numK F)), .va (.int t), x7, x8] (S ++ [.dct (numK lv), .dct (numK pl)])).W nx rt := by
  refine W_frzD (l := numK F) rfl ?_
  refine W_forG (outI d e t S lv pl F) ?_ ?_ ?_
  · simp
    exact ⟨[], F, _, _, _, rfl, rfl, rfl, by simp [atT]⟩
  · rintro dd ds ρ S2 ⟨done, rest, y2, y7, y8, rfl, e1, rfl, rfl⟩
    cases rest with
    | nil => cases e1
    | cons p rest =>
      obtain ⟨z, k⟩ := p
      cases e1
      refine ⟨[.va d, .va e, .va (.str z), .va (.obj S.length), .va (.obj (S.length + 1)), .va (.dcf (numK (done ++ (z, k) :: rest))), .va (.int t), .va (.int k), y8], by simp [keyD], ?_⟩
      rw [List.length_append, List.length_append, List.length_cons] at l1 l2
      have z1 : z ∉ ksN (lv ++ atT t done) := by
        rw [ksN_app, ksN_at]
        rw [ksN_app, ksN_app, ← List.append_assoc, List.nodup_append] at n1
        intro q
        exact n1.2.2 z q z (List.mem_cons_self ..) rfl
      have z2 : z ∉ ksN (pl ++ done) := by
        rw [ksN_app]
        rw [ksN_app, ksN_app, ← List.append_assoc, List.nodup_append] at n2
        intro q
        exact n2.2.2 z q z (List.mem_cons_self ..) rfl
      have m1 : (lv ++ atT t done).length < 100000 := by
        rw [List.length_append]; unfold atT; rw [List.length_map]; omega
      have m2 : (pl ++ done).length < 100000 := by
        rw [List.length_append]; omega
      have u1 : updI (.str z) (.int t) (.dct (numK (lv ++ atT t done))) = some (.dct (numK (lv ++ atT t done ++ [(z, t)]))) := by
        rw [up_str, numK_len, if_pos m1, kput_new _ z1]
      have u2 : updI (.str z) (.int k) (.dct (numK (pl ++ done))) = some (.dct (numK (pl ++ done ++ [(z, k)]))) := by
        rw [up_str, numK_len, if_pos m2, kput_new _ z2]
      refine seq_of fun N hN => ?_
      simp only [W_seti, W_var, List.getElem?_cons_succ, List.getElem?_cons_zero, W_putTo, two0, lo_int, true_and]
      refine ⟨_, _, rfl, u1, ?_⟩
      rw [twoS0]
      refine hN _ _ ?_
      clear hN
      simp only [W_seti, W_var, List.getElem?_cons_succ, List.getElem?_cons_zero, W_putTo, two1, lo_int, true_and]
      refine ⟨_, _, rfl, u2, ?_⟩
      rw [twoS1]
      exact ⟨done ++ [(z, k)], rest, _, _, _, by simp, rfl, rfl, by simp [atT]⟩
  · rintro ρ S2 ⟨done, rest, y2, y7, y8, e0, e1, rfl, rfl⟩
    cases rest with
    | nil =>
      rw [List.append_nil] at e0
      subst e0
      exact q _ _ _
    | cons p rest => cases e1
end Gd

/-! Hh, part 4: rounds as an equation. -/
namespace Gd
open PySem L2 PyProof.Rows

structure RSt (rs : List Rl) (gs : List Str) (lv pl : List (Str × Int)) : Prop where
  n1 : (ksN lv).Nodup
  n2 : (ksN pl).Nodup
  sub : ∀ z ∈ ksN pl, z ∈ ksN lv
  inn : ∀ z ∈ ksN lv, z ∈ gs ++ heads rs
theorem ksN_len (l : List (Str × Int)) : (ksN l).length = l.length := List.length_map ..
theorem heads_len (rs : List Rl) : (heads rs).length ≤ rs.length := List.length_filterMap_le ..
theorem RSt.len {rs : List Rl} {gs : List Str} {lv pl : List (Str × Int)} (h : RSt rs gs lv pl) : lv.length ≤ gs.length + rs.length ∧ pl.length ≤ gs.length + rs.length := by
  have l1 := pigeon _ _ h.n1 h.inn
  have l2 := pigeon _ _ h.n2 fun z hz => h.inn z (h.sub z hz)
  rw [ksN_len, List.length_append] at l1 l2
  have := heads_len rs
  exact ⟨by omega, by omega⟩
theorem RSt.step {rs : List Rl} {gs : List Str} {lv pl : List (Str × Int)} (h : RSt rs gs lv pl) (t : Int) :
    RSt rs gs (lv ++ atT t (freshP (ksN lv) 0 rs [])) (pl ++ freshP (ksN lv) 0 rs []) ∧ (ksN (lv ++ freshP (ksN lv) 0 rs [])).Nodup ∧ (ksN (pl ++ freshP (ksN lv) 0 rs [])).Nodup := by
  have f := fresh_ok (ksN lv) rs
  have m1 : (ksN (lv ++ freshP (ksN lv) 0 rs [])).Nodup := by
    rw [ksN_app, List.nodup_append]
    exact ⟨h.n1, f.1, fun a ha b hb e => (f.2 b hb).1 (by rw [← e]; exact ha)⟩
  have m2 : (ksN (pl ++ freshP (ksN lv) 0 rs [])).Nodup := by
    rw [ksN_app, List.nodup_append]
    exact ⟨h.n2, f.1, fun a ha b hb e => (f.2 b hb).1 (by rw [← e]; exact h.sub a ha)⟩
  refine ⟨⟨?_, m2, fun z hz => ?_, fun z hz => ?_⟩, m1, m2⟩
  · rw [ksN_app, ksN_at, ← ksN_app]; exact m1
  · rw [ksN_app] at hz ⊢
    rw [ksN_at]
    rcases List.mem_append.mp hz with hz | hz
    · exact List.mem_append_left _ (h.sub z hz)
    · exact List.mem_append_right _ hz
  · rw [ksN_app, ksN_at] at hz
    rcases List.mem_append.mp hz with hz | hz
    · exact h.inn z hz
    · exact List.mem_append_right _ (f.2 z hz).2
def whI (rs : List Rl) (gs : List Str) (d e : D) (S : Sg) (R : List (Str × Int) × List (Str × Int)) (k : Nat) (ρ : Ro) (S2 : Sg) : Prop :=
  ∃ (lv pl : List (Str × Int)) (t : Int) (x2 x7 x8 F5 : Slot), ρ = [.va d, .va e, x2, .va (.obj S.length), .va (.obj (S.length + 1)), F5, .va (.int t), x7, x8] ∧ S2 = S ++ [.dct (numK lv), .dct (numK pl)] ∧ RSt rs gs lv pl ∧
    ((F5 = .va (.dcf []) ∧ R = (lv, pl)) ∨ ((F5 = .ow (.dcl [(.none, .non)]) ∨ ∃ p l, F5 = .va (.dcf (p :: l))) ∧ roundsP rs k lv pl t = R ∧ outN (heads rs) (ksN lv) < k))
def lv0 (gs : List Str) : List (Str × Int) := gs.map fun g => (g, 0)
theorem ks_lv0 (gs : List Str) : ksN (lv0 gs) = gs := by
  unfold ksN lv0
  rw [List.map_map]
  exact List.map_id' gs
def roundsR (rs : List Rl) (gs : List Str) : List (Str × Int) × List (Str × Int) := roundsP rs (rs.length + 1) (lv0 gs) [] 0
theorem rounds_eq {rs : List Rl} (ok : ∀ r ∈ rs, r.Ok) (hl : rs.length ≤ 40) {gs : List Str} (nd : gs.Nodup) (hg : gs.length ≤ 24) {S : Sg} {d e : D} (h : SeqOf S (rlsD rs) d) (he : SeqOf S (sD gs) e) :
    Lb.m_rounds [d, e] S = .ok (.tup [.obj S.length, .obj (S.length + 1)]) (S ++ [.dct (numK (roundsR rs gs).1), .dct (numK (roundsR rs gs).2)]) := by
  refine W_eqOk ?_
  unfold Lb.m_rounds
  rw [W_fn]
  refine ⟨rfl, ?_⟩
  unfold Lb.b_rounds
  refine seq_of fun N hN => ?_
  rw [W_set, W_sh]
  refine W_dcA (fun w : Str => D.str w) gs (fun _ => true) (fun w => .inr w) (fun _ => .int 0) ?_
  obtain ⟨gs1, hs1⟩ := he.src true [.va d, .va e, .un, .un, .un, .un, .un, .un, .un]
  have e0 : kmerge [] ((gs.filter fun _ => true).map fun x => ((Sum.inr x : Key), D.int 0)) = numK (lv0 gs) := by
    rw [filter_true]
    have e1 : gs.map (fun x => ((Sum.inr x : Key), D.int 0)) = numK (lv0 gs) := by
      unfold numK lv0
      rw [List.map_map]; rfl
    rw [e1]
    exact kmerge_num (lv0 gs) [] (by rw [List.nil_append, ks_lv0]; exact nd)
  rw [W_jseq, W_var]
  refine ⟨_, hs1, rfl, fun w hw => ⟨[.va d, .va e, .va (.str w), .un, .un, .un, .un, .un, .un], rfl, ?_, fun _ => ?_⟩, by omega, ?_⟩
  · exact ⟨rfl, rfl⟩
  · exact ⟨⟨rfl, rfl⟩, rfl, rfl, rfl⟩
  rw [e0]
  refine ⟨rfl, ?_⟩
  refine hN _ _ ?_
  clear hN
  refine seq_of fun N hN => ?_
  simp [List.replicate, kmerge]
  refine hN _ _ ?_
  clear hN
  refine seq_of fun N hN => ?_
  simp
  refine hN _ _ ?_
  clear hN
  refine seq_of fun N hN => ?_
  simp
  refine hN _ _ ?_
  clear hN
  refine seq_of fun N hN => ?_
  refine W_while (whI rs gs d e S (roundsR rs gs)) ?_ 100000 (rs.length + 1) _ _ ⟨lv0 gs, [], 0, .un, .un, .un, _, rfl, rfl, ⟨by rw [ks_lv0]; exact nd, .nil, (fun _ h => nomatch h), fun z hz => by rw [ks_lv0] at hz; exact List.mem_append_left _ hz⟩, .inr ⟨.inl rfl, rfl, ?_⟩⟩ (by omega)
  · rintro k ρ S2 ⟨lv, pl, t, x2, x7, x8, F5, rfl, rfl, st, c⟩
    have hS := h.app [.dct (numK lv), .dct (numK pl)]
    have body : ∀ F5 : Slot, roundsP rs k lv pl t = roundsR rs gs → outN (heads rs) (ksN lv) < k →
        ((s_seq (s_own 5 (f_disp []))
  (s_seq (s_aug 6 d_addI (e_c (.int 1)))
  (s_seq (s_forG (j_enum false (e_var 0)) (t_tup [(t_name 7), (t_name 8)]) (s_if (t_and (t_e (e_op2 d_notN (e_op1 (d_fld ["Rule"] "head") (e_var 8)) (e_c .non))) (t_and (t_e (e_op2 (d_in5 true) (e_op1 (d_fld ["Rule"] "head") (e_var 8)) (e_var 3))) (t_and (t_e (e_op2 (d_in5 true) (e_op1 (d_fld ["Rule"] "head") (e_var 8)) (e_var 5))) (t_e (e_call Lb.m_stands (a_cons (e_var 8) (a_cons (e_var 3) a_nil))))))) (s_seti (e_var 7) (e_var 5) (e_op1 (d_fld ["Rule"] "head") (e_var 8))) s_nx))
  (s_frz 5 (s_forG (j_items (e_var 5)) (t_tup [(t_name 2), (t_name 7)]) (s_seq (s_seti (e_var 6) (e_var 3) (e_var 2))
  (s_seti (e_var 7) (e_var 4) (e_var 2))))))))  [.va d, .va e, x2, .va (.obj S.length), .va (.obj (S.length + 1)), F5, .va (.int t), x7, x8] (S ++ [.dct (numK lv), .dct (numK pl)])).W (fun ρ2 S2 => ∃ j, j < k ∧ whI rs gs d e S (roundsR rs gs) j ρ2 S2) (fun x S3 => x = .tup [.obj S.length, .obj (S.length + 1)] ∧ S3 = S ++ [.dct (numK (roundsR rs gs).1), .dct (numK (roundsR rs gs).2)]) := by
      intro F5 hR hk
      obtain ⟨st2, m1, m2⟩ := st.step (t + 1)
      have ln := st2.len
      rw [List.length_append, List.length_append] at ln
      have la : (atT (t + 1) (freshP (ksN lv) 0 rs [])).length = (freshP (ksN lv) 0 rs []).length := List.length_map ..
      rw [la] at ln
      refine seq_of fun N hN => ?_
      simp [kmerge]
      refine hN _ _ ?_
      clear hN
      refine seq_of fun N hN => ?_
      refine W_aug 6 d_addI (e_c (.int 1)) (x := .int t) rfl ?_
      refine ⟨.int (t + 1), rfl, rfl, ?_⟩
      refine hN _ _ ?_
      clear hN
      refine seq_of fun N hN => ?_
      refine inner_W ok hl hS two0 fun y7 y8 => ?_
      refine hN _ _ ?_
      clear hN
      refine outer_W m1 m2 (by rw [List.length_append]; omega) (by rw [List.length_append]; omega) fun y2 y7 y8 => ?_
      cases k with
      | zero => omega
      | succ k =>
        unfold roundsP at hR
        by_cases hf : freshP (ksN lv) 0 rs [] = []
        · rw [if_pos hf] at hR
          rw [hf] at st2 ⊢
          refine ⟨0, by omega, _, _, _, _, _, _, _, rfl, rfl, st2, .inl ⟨rfl, ?_⟩⟩
          rw [← hR]
          simp [atT]
        · rw [if_neg hf] at hR
          refine ⟨k, by omega, _, _, _, _, _, _, _, rfl, rfl, st2, .inr ⟨.inr ?_, hR, ?_⟩⟩
          · cases e1 : freshP (ksN lv) 0 rs [] with
            | nil => exact absurd e1 hf
            | cons p l => exact ⟨_, _, rfl⟩
          · have := out_fresh hf
            rw [ksN_app, ksN_at]
            omega
    rcases c with ⟨rfl, hR⟩ | ⟨rfl | ⟨p, l, rfl⟩, hR, hk⟩
    · simp [kmerge, ne5_dcf0]
      refine hN _ _ ?_
      simp [hR]
    · simp only [W_te, W_op2, W_var, List.getElem?_cons_succ, List.getElem?_cons_zero, W_disp, W_pnil]
      refine ⟨by decide, .bl true, ?_, ?_⟩
      · show d_ne5 (.dcl [(.none, .non)]) (.dct []) = _
        exact ne5_dcl0
      · rw [W_liftB, if_pos rfl]
        exact body _ hR hk
    · simp only [W_te, W_op2, W_var, List.getElem?_cons_succ, List.getElem?_cons_zero, W_disp, W_pnil]
      refine ⟨by decide, .bl true, ?_, ?_⟩
      · show d_ne5 (.dcf (p :: l)) (.dct []) = _
        exact ne5_dcf0 _
      · rw [W_liftB, if_pos rfl]
        exact body _ hR hk
  · have := outN_le (heads rs) (ksN (lv0 gs))
    have := heads_len rs
    omega
end Gd

/-! Hh, part 5: levels. -/
namespace Gd
open PySem L2 PyProof.Rows

theorem roundsP_st {rs : List Rl} {gs : List Str} : ∀ (n : Nat) (lv pl : List (Str × Int)) (t : Int), RSt rs gs lv pl → RSt rs gs (roundsP rs n lv pl t).1 (roundsP rs n lv pl t).2
  | 0, _, _, _, h => h
  | n + 1, lv, pl, t, h => by
    unfold roundsP
    split
    · exact h
    · exact roundsP_st n _ _ _ (h.step _).1
theorem lv0_st {rs : List Rl} {gs : List Str} (nd : gs.Nodup) : RSt rs gs (lv0 gs) [] := ⟨by rw [ks_lv0]; exact nd, .nil, (fun _ h => nomatch h), fun z hz => by rw [ks_lv0] at hz; exact List.mem_append_left _ hz⟩
theorem roundsR_st {rs : List Rl} {gs : List Str} (nd : gs.Nodup) : RSt rs gs (roundsR rs gs).1 (roundsR rs gs).2 := roundsP_st _ _ _ _ (lv0_st nd)
def sortN (l : List (Str × Int)) : List (Str × Int) := (sortS (ksN l)).map fun z => (z, (numAt l z).getD 0)
theorem ks_sortN (l : List (Str × Int)) : ksN (sortN l) = sortS (ksN l) := by
  unfold sortN
  show List.map _ (List.map _ _) = _
  rw [List.map_map]
  exact List.map_id' _
theorem sort_dct {l : List (Str × Int)} (h : l.length < 64) : d_sort (.dct (numK l)) = some (.lst (sD (sortS (ksN l)))) := by
  show (textsK ((numK l).map (·.1))).bind _ = _
  rw [numK_keys, textsK_map]
  show (if (ksN l).length < 64 then _ else _) = _
  rw [if_pos (by rw [ksN_len]; exact h)]
  rfl
theorem sortS_nd {xs : List Str} (h : xs.Nodup) : (sortS xs).Nodup := (sortS_perm xs).nodup_iff.mpr h
theorem sortS_mem {xs : List Str} {z : Str} : z ∈ sortS xs ↔ z ∈ xs := (sortS_perm xs).mem_iff
theorem sortS_len (xs : List Str) : (sortS xs).length = xs.length := (sortS_perm xs).length_eq
theorem levels_eq {rs : List Rl} (ok : ∀ r ∈ rs, r.Ok) (hb : baseB rs = true) (hp : ∀ r ∈ rs, r.un = []) {gs : List Str} (hg : ∀ w ∈ gs, isW w) (nd : gs.Nodup) (hl : gs.length ≤ 23) (ht : (togN rs gs).length ≤ 24) {S : Sg} {d e : D} (h : SeqOf S (rlsD rs) d) (he : SeqOf S (sD gs) e) :
    Lb.m_levels [d, e] S = .ok (.dcf (numK (sortN (roundsR rs gs).1))) (S ++ [.dct (numK (roundsR rs gs).1), .dct (numK (roundsR rs gs).2)]) := by
  have l40 : rs.length ≤ 40 := by
    unfold baseB at hb
    rw [Bool.and_eq_true] at hb
    exact of_decide_eq_true hb.1
  have st := roundsR_st (rs := rs) nd
  have ln := st.len.1
  refine W_eqOk ?_
  unfold Lb.m_levels
  rw [W_fn]
  refine ⟨rfl, ?_⟩
  unfold Lb.b_levels
  refine seq_of fun N hN => ?_
  simp [List.replicate, h.lo, he.lo, need_grounds_eq ok hb hp hg nd (by omega) ht h he]
  refine hN _ _ ?_
  clear hN
  refine seq_of fun N hN => ?_
  simp [h.lo, he.lo, rounds_eq ok l40 nd (by omega) h he]
  refine ⟨_, rfl, rfl, ?_⟩
  refine hN _ _ ?_
  clear hN
  obtain ⟨L, eL⟩ : ∃ L, (roundsR rs gs).1 = L := ⟨_, rfl⟩
  rw [eL] at st ln ⊢
  have nS := sortS_nd st.n1
  have es := sort_dct (l := L) (by omega)
  have eN : kmerge [] (((sortS (ksN L)).filter fun _ => true).map fun z => ((Sum.inr z : Key), D.int ((numAt L z).getD 0))) = numK (sortN L) := by
    rw [filter_true]
    have e1 : (sortS (ksN L)).map (fun z => ((Sum.inr z : Key), D.int ((numAt L z).getD 0))) = numK (sortN L) := by
      unfold numK sortN
      rw [List.map_map]; rfl
    rw [e1]
    exact kmerge_num (sortN L) [] (by rw [List.nil_append, ks_sortN]; exact nS)
  rw [W_ret, W_lk]
  refine W_dcA (fun w : Str => D.str w) (sortS (ksN L)) (fun _ => true) (fun w => .inr w) (fun z => .int ((numAt L z).getD 0)) ?_
  rw [W_jseq, W_cb, W_acons, W_var]
  simp only [List.getElem?_cons_succ, List.getElem?_cons_zero, W_anil]
  refine ⟨.lst (sD (sortS (ksN L))), ?_, _, rfl, rfl, fun w hw => ⟨[.va d, .va e, .va (.obj S.length), .va (.str w)], rfl, ⟨rfl, rfl⟩, fun _ => ⟨⟨rfl, rfl⟩, ?_⟩⟩, ?_, ?_⟩
  · simp [es]
  · have hk : (numAt L w).isSome = true := by rw [numAt_mem]; exact decide_eq_true (sortS_mem.mp hw)
    obtain ⟨n, hn⟩ := Option.isSome_iff_exists.mp hk
    simp [kget_num, hn]
  · rw [sortS_len, ksN_len]; omega
  · rw [eN]
    exact ⟨_, rfl, by simp⟩
end Gd

/-! Hh, part 6: the rounds as the laws go round them. -/
namespace Gd
open PySem L2 PyProof.Rows

/-- the heads that come in, as often as they come -/
def hitR (lv : List Str) (r : Rl) : Option Str := match r.hd with
  | none => none
  | some z => if z ∉ lv ∧ (r.bd.all fun w => decide (w ∈ lv)) = true then some z else none
def freshL (lv : List Str) (rs : List Rl) : List Str := rs.filterMap (hitR lv)
theorem fresh_uniq (lv : List Str) : ∀ (rs : List Rl) (k : Nat) (f : List (Str × Int)), ksN (freshP lv k rs f) = uniq (ksN f) (freshL lv rs)
  | [], _, _ => rfl
  | r :: rs, k, f => by
    show ksN (freshP lv (k + 1) rs (putF lv k r f)) = _
    rw [fresh_uniq lv rs]
    unfold freshL
    rw [List.filterMap_cons]
    cases hd : r.hd with
    | none =>
      have e1 : hitR lv r = none := by unfold hitR; rw [hd]
      have e2 : putF lv k r f = f := by unfold putF; rw [hd]
      rw [e1, e2]
    | some z =>
      by_cases c : z ∉ lv ∧ (r.bd.all fun w => decide (w ∈ lv)) = true
      · have e1 : hitR lv r = some z := by unfold hitR; rw [hd]; exact if_pos c
        rw [e1]
        show _ = uniq (if z ∈ ksN f then ksN f else ksN f ++ [z]) _
        by_cases c2 : z ∈ ksN f
        · have e2 : putF lv k r f = f := by unfold putF; rw [hd]; exact if_neg fun q => q.2.1 c2
          rw [e2, if_pos c2]
        · have e2 : putF lv k r f = f ++ [(z, (k : Int))] := by unfold putF; rw [hd]; exact if_pos ⟨c.1, c2, c.2⟩
          rw [e2, if_neg c2, ksN_app]
          rfl
      · have e1 : hitR lv r = none := by unfold hitR; rw [hd]; exact if_neg c
        have e2 : putF lv k r f = f := by unfold putF; rw [hd]; exact if_neg fun q => c ⟨q.1, q.2.2⟩
        rw [e1, e2]
def atU (t : Int) (zs : List Str) : List (Str × Int) := zs.map fun z => (z, t)
theorem atT_ks (t : Int) (f : List (Str × Int)) : atT t f = atU t (ksN f) := by
  unfold atT atU ksN
  rw [List.map_map]; rfl
theorem ks_atU (t : Int) (zs : List Str) : ksN (atU t zs) = zs := by
  unfold ksN atU
  rw [List.map_map]
  exact List.map_id' zs
theorem putN_at {lv : List (Str × Int)} {t : Int} {acc : List Str} {z : Str} (hz : z ∉ ksN lv) : putN (lv ++ atU t acc) z t = lv ++ atU t (if z ∈ acc then acc else acc ++ [z]) := by
  by_cases c : z ∈ acc
  · have hm : z ∈ ksN (lv ++ atU t acc) := by rw [ksN_app, ks_atU]; exact List.mem_append_right _ c
    unfold putN
    rw [if_pos hm, if_pos c, List.map_append]
    congr 1
    · refine (List.map_congr_left fun p hp => ?_).trans (List.map_id _)
      have : p.1 ≠ z := fun e => hz (List.mem_map.mpr ⟨p, hp, e⟩)
      rw [if_neg this]; rfl
    · refine (List.map_congr_left fun p hp => ?_).trans (List.map_id _)
      obtain ⟨y, hy, rfl⟩ := List.mem_map.mp hp
      split <;> rfl
  · have hm : z ∉ ksN (lv ++ atU t acc) := by
      rw [ksN_app, ks_atU]
      intro q
      rcases List.mem_append.mp q with q | q
      · exact hz q
      · exact c q
    rw [putN_new t hm, if_neg c, List.append_assoc]
    unfold atU
    rw [List.map_append]; rfl
theorem freshL_out {lv : List Str} {rs : List Rl} : ∀ z ∈ freshL lv rs, z ∉ lv ∧ z ∈ heads rs := by
  intro z hz
  obtain ⟨r, hr, e⟩ := List.mem_filterMap.mp hz
  unfold hitR at e
  split at e
  · cases e
  · next y hy =>
    split at e
    · next c => cases e; exact ⟨c.1, List.mem_filterMap.mpr ⟨r, hr, hy⟩⟩
    · cases e
theorem fresh_nil {lv : List Str} {rs : List Rl} : freshP lv 0 rs [] = [] ↔ freshL lv rs = [] := by
  have e := fresh_uniq lv rs 0 []
  constructor
  · intro h
    cases e2 : freshL lv rs with
    | nil => rfl
    | cons z zs =>
      exfalso
      rw [h, e2] at e
      have : z ∈ uniq (ksN []) (z :: zs) := (uniq_mem _ _ _).mpr (.inr (List.mem_cons_self ..))
      rw [← e] at this
      cases this
  · intro h
    rw [h] at e
    cases e2 : freshP lv 0 rs [] with
    | nil => rfl
    | cons p f => rw [e2] at e; cases e
def Rl.prD (r : Rl) : D := .tup [optD r.hd, .tup (sD r.bd)]
def prsD (rs : List Rl) : List D := rs.map Rl.prD
@[simp] theorem prsD_len (rs : List Rl) : (prsD rs).length = rs.length := List.length_map ..
@[simp] theorem prD_lo (r : Rl) : isLoc r.prD = false := rfl
end Gd

/-! Hh, part 7: a sorted dict of numbers and the dict. -/
namespace Gd
open PySem L2 PyProof.Rows

theorem eqDp_int (i : Int) : eqDp (.int i) (.int i) = some true := by
  simp [eqDp, py, SeqAt.shaped, PyData.canLay0, PyData.depth, PyData.eqv]
theorem hits_ints (r : List (Leaf × D)) : ∀ l : List (Leaf × D), (∀ p ∈ l, ∃ i : Int, p.2 = .int i ∧ kget r p.1 = some (.int i)) → hitsD r l = some true
  | [], _ => rfl
  | (k, x) :: t, h => by
    obtain ⟨i, e1, e2⟩ := h (k, x) (List.mem_cons_self ..)
    have e1 : x = .int i := e1
    subst e1
    have ih := hits_ints r t fun p hp => h p (List.mem_cons_of_mem _ hp)
    unfold hitsD
    rw [show kget r k = some (.int i) from e2]
    show ((eqDp (.int i) (.int i)).bind fun e => (hitsD r t).map fun b => e && b) = _
    rw [eqDp_int, ih]; rfl
def leafN (l : List (Str × Int)) : List (Leaf × D) := (numK l).map fun kv => (leafK kv.1, kv.2)
theorem kget_leaf (l : List (Str × Int)) (z : Str) : kget (leafN l) (.text z) = (numAt l z).map .int := by
  induction l with
  | nil => rfl
  | cons p l ih =>
    show kget ((.text p.1, .int p.2) :: leafN l) (.text z) = _
    rw [kget_cons]
    unfold numAt
    rw [List.find?_cons]
    by_cases h : p.1 = z
    · simp [h]
    · rw [if_neg (fun e => h (by cases e; rfl)), ih]
      simp only [h, decide_false]
      rfl
theorem sortN_len (l : List (Str × Int)) : (sortN l).length = l.length := by
  unfold sortN
  rw [List.length_map, sortS_len, ksN_len]
theorem ne5_sortN (l : List (Str × Int)) : d_ne5 (.dcf (numK (sortN l))) (.dct (numK l)) = some (.bl false) := by
  have e : eqDc (.dcf (numK (sortN l))) (.dct (numK l)) = some true := by
    show (if (leafN (sortN l)).length = (leafN l).length then hitsD (leafN l) (leafN (sortN l)) else some false) = _
    rw [if_pos (by unfold leafN; rw [List.length_map, List.length_map, numK_len, numK_len, sortN_len])]
    refine hits_ints _ _ fun p hp => ?_
    unfold leafN numK sortN at hp
    rw [List.map_map, List.map_map] at hp
    obtain ⟨z, hz, rfl⟩ := List.mem_map.mp hp
    have hk : (numAt l z).isSome = true := by rw [numAt_mem]; exact decide_eq_true (sortS_mem.mp hz)
    obtain ⟨n, hn⟩ := Option.isSome_iff_exists.mp hk
    refine ⟨n, ?_, ?_⟩
    · show D.int ((numAt l z).getD 0) = _
      rw [hn]; rfl
    · show kget (leafN l) (.text z) = _
      rw [kget_leaf, hn]; rfl
  show (d_ne (.dcf (numK (sortN l))) (.dct (numK l))).or _ = _
  rw [e]
  have : d_ne (.dcf (numK (sortN l))) (.dct (numK l)) = none := rfl
  rw [this]; rfl
theorem list5_num (l : List (Str × Int)) : d_list5 (.dcf (numK l)) = some (.lst (sD (ksN l))) := by
  show some (D.lst ((numK l).map fun kv => keyD kv.1)) = _
  unfold numK sD ksN
  rw [List.map_map, List.map_map]; rfl
end Gd

/-! Hd, part 1: the draws of the laws of what is held. -/
namespace Gd
open PySem L2 PyProof.Rows

def stH (cs : List Int) (a r t m : Int) : List (Key × D) := [(.inr "cells", .lst (cs.map .int)), (.inr "at", .int a), (.inr "rest", .int r), (.inr "turn", .int t), (.inr "more", .int m)]
structure DrH (n : Nat) (S : Sg) : Prop where
  ex : ∃ (cs : List Int) (a r t m : Int), S[n]? = some (.dct (stH cs a r t m)) ∧ cs.length ≤ 63 ∧ (0 ≤ a ∧ a ≤ cs.length) ∧ 0 ≤ r ∧ 0 ≤ t ∧ (0 ≤ m ∧ m < 2147483647)
@[simp] theorem sth_cells (cs : List Int) (a r t m : Int) : kget (stH cs a r t m) (.inr "cells") = some (.lst (cs.map .int)) := by simp [stH]
@[simp] theorem sth_at (cs : List Int) (a r t m : Int) : kget (stH cs a r t m) (.inr "at") = some (.int a) := by simp [stH]
@[simp] theorem sth_rest (cs : List Int) (a r t m : Int) : kget (stH cs a r t m) (.inr "rest") = some (.int r) := by simp [stH]
@[simp] theorem sth_turn (cs : List Int) (a r t m : Int) : kget (stH cs a r t m) (.inr "turn") = some (.int t) := by simp [stH]
@[simp] theorem sth_more (cs : List Int) (a r t m : Int) : kget (stH cs a r t m) (.inr "more") = some (.int m) := by simp [stH]
@[simp] theorem sth_len (cs : List Int) (a r t m : Int) : (stH cs a r t m).length = 5 := rfl
@[simp] theorem sth_pat (cs : List Int) (a r t m x : Int) : kput (stH cs a r t m) (.inr "at") (.int x) = stH cs x r t m := by simp [stH, kput]
@[simp] theorem sth_prest (cs : List Int) (a r t m x : Int) : kput (stH cs a r t m) (.inr "rest") (.int x) = stH cs a x t m := by simp [stH, kput]
@[simp] theorem sth_pturn (cs : List Int) (a r t m x : Int) : kput (stH cs a r t m) (.inr "turn") (.int x) = stH cs a r x m := by simp [stH, kput]
@[simp] theorem sth_pmore (cs : List Int) (a r t m x : Int) : kput (stH cs a r t m) (.inr "more") (.int x) = stH cs a r t x := by simp [stH, kput]
theorem Grows.wk {n g : Nat} {S S' : Sg} (h : Grows n n S S') : Grows n g S S' := ⟨h.len, fun i k h1 _ => h.at' i k h1 h1⟩
theorem begun_H {ns : List Int} {Q : D → Sg → Prop} (hl : ns.length ≤ 63) (q : ∀ n S', DrH n S' → Q (.obj n) S') : (Lb.m__law_begun_1 [.lst (ns.map .int)] []).W Q := by
  unfold Lb.m__law_begun_1
  rw [W_fn]
  refine ⟨rfl, ?_⟩
  unfold Lb.b__law_begun_1
  rw [W_ret, W_sh]
  simp [List.replicate]
  refine q 0 _ ⟨ns, 0, 0, 0, 17, ?_, hl, ⟨by decide, by omega⟩, by decide, by decide, by decide, by decide⟩
  simp [stH, kmerge, kput]
def tkI (n : Nat) (m : Int) (cs : List Int) (S : Sg) (k : Nat) (ρ : Ro) (S2 : Sg) : Prop :=
  ∃ (a r t mo : Int), ρ = [.va (.obj n), .va (.int m), .va (.lst (cs.map .int)), .un, .un] ∧ S2[n]? = some (.dct (stH cs a r t mo)) ∧ Grows n n S S2 ∧ (0 ≤ a ∧ a ≤ cs.length) ∧ 0 ≤ r ∧ 0 ≤ t ∧ (0 ≤ mo ∧ mo < 2147483647) ∧ (cs.length : Int) - a ≤ k
theorem take_H {n : Nat} {S : Sg} {m : Int} {Q : D → Sg → Prop} (h : DrH n S) (m0 : 0 < m) (m1 : m < 1073741824)
    (q : ∀ r S', DrH n S' → Grows n n S S' → 0 ≤ r → r < m → Q (.int r) S') : (Lb.m__law_take_1 [.obj n, .int m] S).W Q := by
  obtain ⟨cs, a, r, t, mo, h1, h2, h3, h4, h5, h6⟩ := h.ex
  unfold Lb.m__law_take_1
  rw [W_fn]
  refine ⟨rfl, ?_⟩
  unfold Lb.b__law_take_1
  have p0 : CPow 10 18 := by decide
  have cd : ∀ x : Int, CDivN x m := fun x => ⟨by omega, by omega⟩
  have hm : m ≠ 0 := by omega
  refine seq_of fun N hN => ?_
  simp [List.replicate, h1]
  refine hN _ _ ?_
  clear hN
  refine seq_of fun N hN => ?_
  refine W_while (tkI n m cs S) ?_ 100000 63 _ _ ⟨a, r, t, mo, rfl, h1, .refl, h3, h4, h5, h6, by omega⟩ (by omega)
  · rintro k ρ S2 ⟨a, r, t, mo, rfl, h1, g, h3, h4, h5, h6, hk⟩
    -- behind the refill
    have out : N [.va (.obj n), .va (.int m), .va (.lst (cs.map .int)), .un, .un] S2 := by
      refine hN _ _ ?_
      clear hN
      refine seq_of fun N hN => ?_
      by_cases c1 : 1 < r
      · simp [h1, c1]
        refine ⟨hm, cd r, ?_⟩
        have := fmod_bd (a := r) m0
        exact q _ _ ⟨cs, a, r.fdiv m, t, mo, getSet h1, h2, h3, fdiv_nn h4 m0, h5, h6⟩ (g.trans (.setN _)) this.1 this.2
      · simp [h1, c1]
        refine hN _ _ ?_
        clear hN
        refine seq_of fun N hN => ?_
        simp
        refine hN _ _ ?_
        clear hN
        refine seq_of fun N hN => ?_
        have st : ∀ c : Int, N [.va (.obj n), .va (.int m), .va (.lst (cs.map .int)), .un, .va (.int c)] S2 := by
          intro c
          refine hN _ _ ?_
          clear hN
          refine seq_of fun N hN => ?_
          simp [h1]
          refine hN _ _ ?_
          clear hN
          obtain ⟨S3, e3⟩ : ∃ S3, S2.set n (.dct (stH cs a r (t + 1) mo)) = S3 := ⟨_, rfl⟩
          have k1 : S3[n]? = some (.dct (stH cs a r (t + 1) mo)) := by rw [← e3]; exact getSet h1
          have g3 : Grows n n S S3 := by rw [← e3]; exact g.trans (.setN _)
          rw [e3]
          have m2 : CMul mo 48271 := .inr (by decide)
          refine seq_of fun N hN => ?_
          simp [k1, m2]
          refine hN _ _ ?_
          clear hN
          obtain ⟨mo2, em⟩ : ∃ mo2, (mo * 48271 + c + (t + 1)).fmod 2147483647 = mo2 := ⟨_, rfl⟩
          have hb := fmod_bd (a := mo * 48271 + c + (t + 1)) (b := 2147483647) (by decide)
          rw [em] at hb ⊢
          have k2 := getSet (e := D.dct (stH cs a r (t + 1) mo2)) k1
          have m3 : CMul mo2 mo2 := .inl ⟨by omega, by omega⟩
          have m4 : CMul 16807 mo2 := .inl (by decide)
          simp [k2, m3, m4, hm]
          have := fmod_bd (a := (mo2 * mo2 + 16807 * mo2).fmod 2147483629) m0
          exact q _ _ ⟨cs, a, r, t + 1, mo2, k2, h2, h3, h4, by omega, hb⟩ (g3.trans (.setN _)) this.1 this.2
        by_cases c2 : 0 < (cs.length : Int)
        · have hn0 : (cs.length : Int) ≠ 0 := by omega
          have hb := fmod_bd (a := t) (b := (cs.length : Int)) c2
          obtain ⟨x, x1, x2, _⟩ := atI_nn (xs := cs.map D.int) hb.1 (by rw [List.length_map]; exact hb.2)
          obtain ⟨c, hc, rfl⟩ := List.mem_map.mp (List.mem_of_getElem? x1)
          have c3 : 0 < cs.length := by omega
          have c4 : ¬ cs = [] := fun e => by rw [e] at c3; exact absurd c3 (by decide)
          simp [h1, c3, c4, hn0, x2]
          exact st c
        · have c3 : ¬ 0 < cs.length := by omega
          simp [h1, c3]
          exact st 0
    by_cases c1 : r < 2
    · by_cases c2 : a < (cs.length : Int)
      · obtain ⟨x, x1, x2, _⟩ := atI_nn (xs := cs.map D.int) h3.1 (by rw [List.length_map]; exact c2)
        obtain ⟨c, hc, rfl⟩ := List.mem_map.mp (List.mem_of_getElem? x1)
        have fin : ∀ r2 S3, 0 ≤ r2 → S3[n]? = some (.dct (stH cs a r2 t mo)) → Grows n n S S3 → ∃ j, j < k ∧ tkI n m cs S j [.va (.obj n), .va (.int m), .va (.lst (cs.map .int)), .un, .un] (S3.set n (.dct (stH cs (a + 1) r2 t mo))) := fun r2 S3 hr h7 g3 =>
          ⟨((cs.length : Int) - (a + 1)).toNat, by omega, a + 1, r2, t, mo, rfl, getSet h7, g3.trans (.setN _), ⟨by omega, by omega⟩, hr, h5, h6, by omega⟩
        simp [h1, c1, c2, x2, p0]
        split
        · next c3 =>
          have := fin c (S2.set n (.dct (stH cs a c t mo))) (by omega) (getSet h1) (g.trans (.setN _))
          have k3 : (S2.set n (.dct (stH cs a c t mo)))[n]? = some (.dct (stH cs a c t mo)) := getSet h1
          simp [k3]
          simpa using this
        · exact fin r S2 h4 h1 g
      · simp [h1, c1, c2]
        exact out
    · simp [h1, c1]
      exact out
theorem kept_H (S : Sg) : Lb.m__law_kept [] S = .ok (.obj S.length) (S ++ [.lst (sD keptS)]) := by
  refine W_eqOk ?_
  unfold Lb.m__law_kept
  rw [W_fn]
  refine ⟨rfl, ?_⟩
  unfold Lb.b__law_kept
  rw [W_ret, W_sh]
  simp [List.replicate]
  rfl
end Gd

/-! Hd, part 2: drawn names. -/
namespace Gd
open PySem L2 PyProof.Rows

def ownH : List Str := ["lot", "held", "back", "by", "in", "all", "some", "none", "rule", "rank", "told", "with", "tell", "drop", "label", "rules", "why", "or", "and", "clash", "set", "sound", "head", "body", "unless", "names"]
theorem ownH_W : ∀ z ∈ ownH, isW z := by decide +kernel
/-- names that are used -/
structure UsH (us : List Str) : Prop where
  ok : ∀ w ∈ us, likeW w
  kp : ∀ w ∈ keptS, w ∈ us
  len : us.length ≤ 100
def cut6 (z : Str) : Str := cutS z none (some 6)
theorem cut6_len (z : Str) : (cut6 z).length ≤ 6 := by
  rw [str_len]
  show ((z.cps.toList.drop _).take _).length ≤ 6
  have e : HT.sIx z.length z.length (some 6) = min 6 z.length := HT.sIx_nat z.length z.length 6
  rw [e]
  simp only [List.length_take]
  omega
theorem cut_small {z : Str} (lo hi : Option Int) (h : smallS z) : smallS (cutS z lo hi) := fun c hc => by
  have hc : c ∈ (z.cps.toList.drop _).take _ := hc
  exact h c (List.mem_of_mem_drop (List.mem_of_mem_take hc))
/-- the k-th letter -/
def let1 (k : Nat) : Str := ⟨#[letters.cps.toList.getD k 97]⟩
theorem let1_small (k : Nat) : smallS (let1 k) := by
  intro c hc
  have hc : c ∈ [letters.cps.toList.getD k 97] := hc
  rw [List.mem_singleton] at hc
  subst hc
  by_cases h : k < letters.cps.toList.length
  · rw [List.getD_eq_getElem?_getD, List.getElem?_eq_getElem h]
    exact letters_small _ (List.getElem_mem h)
  · rw [List.getD_eq_getElem?_getD, List.getElem?_eq_none (by omega)]
    decide
theorem app_small {a b : Str} (ha : smallS a) (hb : smallS b) : smallS (a ++ b) := fun c hc => by
  rw [app_list] at hc
  rcases List.mem_append.mp hc with hc | hc
  · exact ha c hc
  · exact hb c hc
theorem let_ix {k : Int} (h0 : 0 ≤ k) (h1 : k < 26) : d_ix5 (.str letters) (.int k) = some (.str (let1 k.toNat)) := by
  have l26 : letters.cps.toList.length = 26 := by decide +kernel
  obtain ⟨x, x1, x2, _⟩ := atI_nn (xs := letters.cps.toList) h0 (by rw [l26]; exact h1)
  rw [ix5_str, if_pos (by decide +kernel), x2]
  have : let1 k.toNat = ⟨#[x]⟩ := by
    unfold let1
    rw [List.getD_eq_getElem?_getD, x1]; rfl
  rw [this]; rfl
/-- a name with two letters at its end -/
def sg2 (z : Str) (k : Nat) : Str := cut6 z ++ let1 (k / 26) ++ let1 (k % 26)
theorem sg2_inj {z : Str} {a b : Nat} (ha : a < 676) (hb : b < 676) (h : sg2 z a = sg2 z b) : a = b := by
  have h1 := congrArg (fun s : Str => s.cps.toList) h
  simp only [sg2, app_list, List.append_assoc] at h1
  have h2 := List.append_cancel_left h1
  have h3 : [letters.cps.toList.getD (a / 26) 97, letters.cps.toList.getD (a % 26) 97] = [letters.cps.toList.getD (b / 26) 97, letters.cps.toList.getD (b % 26) 97] := h2
  have inj : ∀ i < 26, ∀ j < 26, letters.cps.toList.getD i 97 = letters.cps.toList.getD j 97 → i = j := by decide +kernel
  have e1 : letters.cps.toList.getD (a / 26) 97 = letters.cps.toList.getD (b / 26) 97 := by
    have := congrArg List.head? h3
    simpa using this
  have e2 : letters.cps.toList.getD (a % 26) 97 = letters.cps.toList.getD (b % 26) 97 := by
    have := congrArg List.getLast? h3
    simpa using this
  have := inj _ (by omega) _ (by omega) e1
  have := inj _ (by omega) _ (by omega) e2
  omega
theorem sg2_like (z : Str) (k : Nat) (h : smallS z) : likeW (sg2 z k) := by
  have l : (sg2 z k).length = (cut6 z).length + 1 + 1 := by
    unfold sg2
    rw [strlen_app, strlen_app]; rfl
  have := cut6_len z
  exact ⟨app_small (app_small (cut_small _ _ h) (let1_small _)) (let1_small _), by omega, by omega⟩
theorem some_sg3 (z : Str) (T : List Str) (h : T.length < 600) : ∃ k < T.length + 1, sg2 z k ∉ T := by
  by_cases q : ∃ k < T.length + 1, sg2 z k ∉ T
  · exact q
  · exfalso
    have all : ∀ x ∈ (List.range (T.length + 1)).map (sg2 z), x ∈ T := by
      intro x hx
      obtain ⟨k, hk, rfl⟩ := List.mem_map.mp hx
      by_cases hm : sg2 z k ∈ T
      · exact hm
      · exact absurd ⟨k, List.mem_range.mp hk, hm⟩ q
    have nd : ((List.range (T.length + 1)).map (sg2 z)).Nodup := by
      show List.Pairwise _ _
      rw [List.pairwise_map]
      refine List.Pairwise.imp_of_mem (fun {a b} ha hb hne e => hne ?_) (List.nodup_range (n := T.length + 1))
      rw [List.mem_range] at ha hb
      exact sg2_inj (by omega) (by omega) e
    have := pigeon _ _ nd all
    rw [List.length_map, List.length_range] at this
    omega
end Gd

/-! Hd, part 3: the draw of a name. -/
namespace Gd
open PySem L2 PyProof.Rows

/-- a name that is used is changed -/
theorem other_H {n u : Nat} {us : List Str} {S S2 : Sg} {z : Str} {x4 x6 x7 : Slot} {nx : Ro → Sg → Prop} {rt : D → Sg → Prop} (hu : S2[u]? = some (.lst (sD us))) (U : UsH us) (hz : smallS z) (hl : 1 ≤ z.length ∧ z.length ≤ 9)
    (q : ∀ w x7 x8 , isW w → w ∉ us → nx [.va (.obj n), .va (.obj u), .va (.str letters), .va (.lst (sD ownH)), x4, .va (.str w), x6, x7, x8, .un] S2) :
    ((s_if (t_or (t_e (e_op2 (d_in5 false) (e_var 5) (e_var 1))) (t_e (e_op2 d_gt (e_cb (d_1 d_len5) (a_cons (e_var 5) a_nil)) (e_c (.int 8))))) (s_seq (s_set 8 (f_lcG [7] (j_rng (a_cons (e_op2 d_add4 (e_cb (d_1 d_len5) (a_cons (e_var 1) a_nil)) (e_c (.int 1))) a_nil)) (t_name 7) t_yes (e_op2 d_add4 (e_op2 d_add4 (e_sl d_sl3 (e_var 5) o_no (o_e (e_c (.int 6)))) (e_op2 d_ix5 (e_var 2) (e_op2 d_fdiv (e_var 7) (e_c (.int 26))))) (e_op2 d_ix5 (e_var 2) (e_op2 d_mod (e_var 7) (e_c (.int 26)))))))
  (s_set 5 (e_op2 d_ix5 (f_lcG [9] (j_seq true (e_var 8)) (t_name 9) (t_e (e_op2 (d_in5 true) (e_var 9) (e_var 1))) (e_var 9)) (e_c (.int 0))))) s_nx)
      [.va (.obj n), .va (.obj u), .va (.str letters), .va (.lst (sD ownH)), x4, .va (.str z), x6, x7, .un, .un] S2).W nx rt := by
  have zl : z.length ≤ 100000 := by omega
  have ul := U.len
  by_cases c : z ∉ us ∧ z.length ≤ 8
  · have c8 : ¬ (8 : Int) < z.length := by omega
    simp [hu, in_sD, c.1, zl, c8]
    exact q z x7 .un ⟨⟨hl.1, c.2⟩, hz, fun k => c.1 (U.kp z k)⟩ c.1
  · have A : ((s_seq (s_set 8 (f_lcG [7] (j_rng (a_cons (e_op2 d_add4 (e_cb (d_1 d_len5) (a_cons (e_var 1) a_nil)) (e_c (.int 1))) a_nil)) (t_name 7) t_yes (e_op2 d_add4 (e_op2 d_add4 (e_sl d_sl3 (e_var 5) o_no (o_e (e_c (.int 6)))) (e_op2 d_ix5 (e_var 2) (e_op2 d_fdiv (e_var 7) (e_c (.int 26))))) (e_op2 d_ix5 (e_var 2) (e_op2 d_mod (e_var 7) (e_c (.int 26)))))))
  (s_set 5 (e_op2 d_ix5 (f_lcG [9] (j_seq true (e_var 8)) (t_name 9) (t_e (e_op2 (d_in5 true) (e_var 9) (e_var 1))) (e_var 9)) (e_c (.int 0)))))
        [.va (.obj n), .va (.obj u), .va (.str letters), .va (.lst (sD ownH)), x4, .va (.str z), x6, x7, .un, .un] S2).W nx rt := by
      refine seq_of fun N hN => ?_
      rw [W_set]
      refine W_mapA (fun i : Nat => D.int (0 + (i : Int))) (List.range (us.length + 1)) (fun k => .str (sg2 z k)) ?_
      simp only [W_jrng, W_acons, W_op2, W_cb, W_var, List.getElem?_cons_succ, List.getElem?_cons_zero, W_anil, W_c]
      refine ⟨.int us.length, by simp [hu], .int (us.length + 1), by simp, _, rng_1 (by omega), ?_, fun k hk => ⟨[.va (.obj n), .va (.obj u), .va (.str letters), .va (.lst (sD ownH)), x4, .va (.str z), x6, .va (.int (0 + (k : Int))), .un, .un], by simp [wipeR], ?_⟩, by rw [List.length_range]; omega, rfl, ?_⟩
      · rfl
      · rw [List.mem_range] at hk
        have k26 : CDivN (k : Int) 26 := by constructor <;> decide
        have d1 : (k : Int).fdiv 26 = ((k / 26 : Nat) : Int) := by rw [Int.fdiv_eq_ediv_of_nonneg _ (by decide)]; omega
        have d2 : (k : Int).fmod 26 = ((k % 26 : Nat) : Int) := by rw [Int.fmod_eq_emod_of_nonneg _ (by decide)]; omega
        have i1 := let_ix (k := ((k / 26 : Nat) : Int)) (by omega) (by omega)
        have i2 := let_ix (k := ((k % 26 : Nat) : Int)) (by omega) (by omega)
        rw [Int.toNat_natCast] at i1 i2
        have i1' : d_ix5 (.str letters) (.int ((k : Int) / 26)) = some (.str (let1 (k / 26))) := by
          rw [show (k : Int) / 26 = ((k / 26 : Nat) : Int) by omega]; exact i1
        have i2' : d_ix5 (.str letters) (.int ((k : Int) % 26)) = some (.str (let1 (k % 26))) := by
          rw [show (k : Int) % 26 = ((k % 26 : Nat) : Int) by omega]; exact i2
        have l6 := cut6_len z
        have a1 : d_add4 (.str (cutS z none (some 6))) (.str (let1 (k / 26))) = some (.str (cut6 z ++ let1 (k / 26))) := by
          rw [add4_str, if_pos]
          · rfl
          · have e1 : (let1 (k / 26)).length = 1 := rfl
            have e2 : cutS z none (some 6) = cut6 z := rfl
            rw [e1, e2]; omega
        have a2 : d_add4 (.str (cut6 z ++ let1 (k / 26))) (.str (let1 (k % 26))) = some (.str (sg2 z k)) := by
          rw [add4_str, if_pos]
          · rfl
          · have e1 : (let1 (k / 26)).length = 1 := rfl
            have e2 : (let1 (k % 26)).length = 1 := rfl
            rw [strlen_app, e1, e2]; omega
        simp [zl, k26, d1, d2, i1', i2', a1, a2, -add4_str, -ix5_str]
      · refine hN _ _ ?_
        clear hN
        rw [W_set, W_op2]
        refine W_mapG (fun k : Nat => D.str (sg2 z k)) (List.range (us.length + 1)) (fun k => !decide (sg2 z k ∈ us)) (fun k => .str (sg2 z k)) ?_
        rw [W_jseq, W_var]
        refine ⟨_, rfl, rfl, fun k hk => ⟨_, rfl, ?_, fun _ => by simp [wipeR]⟩, by rw [List.length_range]; omega, ?_⟩
        · simp [wipeR, hu, in_sD]
        · obtain ⟨k0, hk0, hn0⟩ := some_sg3 z us (by omega)
          cases ef : (List.range (us.length + 1)).filter (fun k => !decide (sg2 z k ∈ us)) with
          | nil =>
            have : k0 ∈ (List.range (us.length + 1)).filter (fun k => !decide (sg2 z k ∈ us)) := List.mem_filter.mpr ⟨List.mem_range.mpr hk0, by simpa using hn0⟩
            rw [ef] at this
            cases this
          | cons k r =>
            have hm : k ∈ (List.range (us.length + 1)).filter (fun k => !decide (sg2 z k ∈ us)) := by rw [ef]; exact List.mem_cons_self ..
            have hn : sg2 z k ∉ us := by simpa using (List.mem_filter.mp hm).2
            have lk := sg2_like z k hz
            have e0 : atI ((k :: r).map fun k => D.str (sg2 z k)) 0 = some (.str (sg2 z k)) := by
              obtain ⟨x, x1, x2, _⟩ := atI_nn (xs := (k :: r).map fun k => D.str (sg2 z k)) (i := 0) (by omega) (by simp)
              rw [x2]
              simpa using x1.symm
            rw [List.map_cons] at e0
            simp [e0]
            exact q (sg2 z k) _ _ ⟨⟨lk.2.1, lk.2.2⟩, lk.1, fun kk => hn (U.kp _ kk)⟩ hn
    by_cases c1 : z ∈ us
    · rw [W_if, W_tor, W_te, W_op2]
      simp only [W_var, List.getElem?_cons_succ, List.getElem?_cons_zero]
      refine ⟨.bl true, by simp [hu, in_sD, c1], ?_⟩
      rw [W_liftB]
      simp only [if_true]
      exact A
    · have c8 : (8 : Int) < z.length := by
        have : ¬ z.length ≤ 8 := fun k => c ⟨c1, k⟩
        omega
      rw [W_if, W_tor, W_te, W_op2]
      simp only [W_var, List.getElem?_cons_succ, List.getElem?_cons_zero]
      refine ⟨.bl false, by simp [hu, in_sD, c1], ?_⟩
      rw [W_liftB, if_neg Bool.false_ne_true, W_te, W_op2, W_cb, W_acons]
      simp only [W_var, List.getElem?_cons_succ, List.getElem?_cons_zero, W_anil, W_c]
      refine ⟨.int z.length, by simp [zl], .bl true, by simp [c8], ?_⟩
      rw [W_liftB, if_pos rfl]
      exact A
end Gd

/-! Hd, part 4: the draw of a name, of names. -/
namespace Gd
open PySem L2 PyProof.Rows

theorem one_small {c : Nat} (h : c ∈ letters.cps.toList) : smallS ⟨#[c]⟩ := by
  intro x hx
  have hx : x ∈ [c] := hx
  rw [List.mem_singleton.mp hx]
  exact letters_small c h
theorem let_draw {r : Int} (h0 : 0 ≤ r) (h1 : r < 26) : ∃ l : Str, d_ix5 (.str letters) (.int r) = some (.str l) ∧ smallS l ∧ l.length = 1 := ⟨_, let_ix h0 h1, let1_small _, rfl⟩
theorem cutL_len (z : Str) {a : Int} (h : 0 ≤ a) : (cutS z none (some a)).length ≤ a.toNat := by
  rw [str_len]
  show ((z.cps.toList.drop _).take _).length ≤ _
  have e : HT.sIx z.length z.length (some a) = min a.toNat z.length := by
    have := HT.sIx_nat z.length z.length a.toNat
    rw [Int.toNat_of_nonneg h] at this
    exact this
  rw [e, HT.sIx_none]
  simp only [List.length_take]
  omega
theorem cutR_len (z : Str) {a : Int} (h : 0 ≤ a) : (cutS z (some a) none).length ≤ z.length - a.toNat := by
  rw [str_len]
  show ((z.cps.toList.drop _).take _).length ≤ _
  have e : HT.sIx z.length 0 (some a) = min a.toNat z.length := by
    have := HT.sIx_nat z.length 0 a.toNat
    rw [Int.toNat_of_nonneg h] at this
    exact this
  rw [e]
  simp only [List.length_take, List.length_drop, ← str_len]
  omega
def wdI (n u : Nat) (us : List Str) (S : Sg) (m : Nat) (ds : List D) (ρ : Ro) (S2 : Sg) : Prop :=
  ∃ (z : Str) (x4 x6 x7 : Slot), ρ = [.va (.obj n), .va (.obj u), .va (.str letters), .va (.lst (sD ownH)), x4, .va (.str z), x6, x7, .un, .un] ∧ DrH n S2 ∧ S2[u]? = some (.lst (sD us)) ∧ Grows n u S S2 ∧ smallS z ∧ 1 ≤ z.length ∧ z.length + ds.length ≤ 9 ∧ ∀ d ∈ ds, isLoc d = false
theorem name_H {n u : Nat} {us : List Str} {S : Sg} {Q : D → Sg → Prop} (h : DrH n S) (hu : S[u]? = some (.lst (sD us))) (nu : n ≠ u) (U : UsH us)
    (q : ∀ w S', DrH n S' → S'[u]? = some (.lst (sD (us ++ [w]))) → Grows n u S S' → isW w → w ∉ us → Q (.str w) S') : (Lb.m__law_name [.obj n, .obj u] S).W Q := by
  have ul := U.len
  have ul0 : 0 < us.length := by
    cases us with
    | nil => exact absurd (U.kp "not" (by decide +kernel)) (by simp)
    | cons a b => simp
  unfold Lb.m__law_name
  rw [W_fn]
  refine ⟨rfl, ?_⟩
  unfold Lb.b__law_name
  refine seq_of fun N hN => ?_
  simp [List.replicate]
  refine hN _ _ ?_
  clear hN
  refine seq_of fun N hN => ?_
  simp
  refine hN _ _ ?_
  clear hN
  refine seq_of fun N hN => ?_
  simp
  refine hN _ _ ?_
  clear hN
  change OS.W (s_seq _ _ [.va (.obj n), .va (.obj u), .va (.str letters), .va (.lst (sD ownH)), .un, .un, .un, .un, .un, .un] S) _ _
  refine seq_of fun N hN => ?_
  simp
  refine take_H h (by decide) (by decide) fun way S1 d1 g1 w0 w1 => ?_
  simp
  refine hN _ _ ?_
  clear hN
  have hu1 : S1[u]? = some (.lst (sD us)) := by
    rw [g1.at' u (List.getElem?_eq_some_iff.mp hu).1 (Ne.symm nu) (Ne.symm nu)]; exact hu
  refine seq_of fun N hN => ?_
  simp
  refine take_H d1 (by decide) (by decide) fun r S2 d2 g2 r0 r1 => ?_
  obtain ⟨l0, el0, sl0, ll0⟩ := let_draw r0 r1
  simp [el0, -ix5_str]
  refine hN _ _ ?_
  clear hN
  have hu2 : S2[u]? = some (.lst (sD us)) := by
    rw [g2.at' u (List.getElem?_eq_some_iff.mp hu1).1 (Ne.symm nu) (Ne.symm nu)]; exact hu1
  have g12 : Grows n u S S2 := (g1.trans g2).wk
  refine seq_of fun N hN => ?_
  -- behind the ways
  have tl : ∀ (z : Str) (x4 x6 x7 : Slot) S3, DrH n S3 → S3[u]? = some (.lst (sD us)) → Grows n u S S3 → smallS z → 1 ≤ z.length → z.length ≤ 9 → N [.va (.obj n), .va (.obj u), .va (.str letters), .va (.lst (sD ownH)), x4, .va (.str z), x6, x7, .un, .un] S3 := by
    intro z x4 x6 x7 S3 d3 hu3 g3 hz l1 l9
    refine hN _ _ ?_
    clear hN
    refine seq_of fun N hN => ?_
    refine other_H (S := S) hu3 U hz ⟨l1, l9⟩ fun w y7 y8 hw hn => ?_
    refine hN _ _ ?_
    clear hN
    refine seq_of fun N hN => ?_
    have il : isLstAt [.va (.obj n), .va (.obj u), .va (.str letters), .va (.lst (sD ownH)), x4, .va (.str w), x6, y7, y8, .un] S3 (.obj u) = true := by simp [isLstAt, hu3]
    have hlen : us.length < 100000 := by omega
    simp only [W_app, W_var, List.getElem?_cons_succ, List.getElem?_cons_zero, il, true_and, W_putTo]
    refine ⟨rfl, _, .lst (sD (us ++ [w])), hu3, by simp [appD, sD, hlen], ?_⟩
    refine hN _ _ ?_
    clear hN
    simp
    obtain ⟨cs, a, r, t, mo, h1, h2⟩ := d3.ex
    exact q w _ ⟨cs, a, r, t, mo, by rw [List.getElem?_set_ne (Ne.symm nu)]; exact h1, h2⟩ (getSet hu3) (g3.trans (.setG _)) hw hn
  rw [W_if, W_te, W_op2]
  simp only [W_var, List.getElem?_cons_succ, List.getElem?_cons_zero, W_c]
  have l26 : ownH.length = 26 := by decide +kernel
  refine ⟨.bl (decide (way = 0)), by simp, ?_⟩
  rw [W_liftB]
  by_cases c0 : way = 0
  · simp only [c0, decide_true, if_true]
    simp [l26]
    refine take_H d2 (by decide) (by decide) fun r S3 d3 g3 r0 r1 => ?_
    obtain ⟨x, x1, x2, _⟩ := atI_nn (xs := ownH.map D.str) r0 (by rw [List.length_map, l26]; exact r1)
    obtain ⟨z, hz, rfl⟩ := List.mem_map.mp (List.mem_of_getElem? x1)
    have zW := ownH_W z hz
    have x2' : atI (sD ownH) r = some (.str z) := x2
    simp [x2']
    have hu3 : S3[u]? = some (.lst (sD us)) := by
      rw [g3.at' u (List.getElem?_eq_some_iff.mp hu2).1 (Ne.symm nu) (Ne.symm nu)]; exact hu2
    exact tl z _ _ _ S3 d3 hu3 (g12.trans g3.wk) zW.2.1 zW.1.1 (by have := zW.1.2; omega)
  · simp only [c0, decide_false, Bool.false_eq_true, if_false]
    rw [W_if, W_te, W_op2]
    simp only [W_var, List.getElem?_cons_succ, List.getElem?_cons_zero, W_c]
    refine ⟨.bl (decide (way = 1)), by simp, ?_⟩
    rw [W_liftB]
    by_cases c1 : way = 1
    · simp only [c1, decide_true, if_true]
      refine seq_of fun N2 hN2 => ?_
      simp [hu2]
      refine take_H d2 (by omega) (by omega) fun r S3 d3 g3 r0 r1 => ?_
      have hu3 : S3[u]? = some (.lst (sD us)) := by
        rw [g3.at' u (List.getElem?_eq_some_iff.mp hu2).1 (Ne.symm nu) (Ne.symm nu)]; exact hu2
      obtain ⟨x, x1, x2, _⟩ := atI_nn (xs := us.map D.str) r0 (by rw [List.length_map]; exact r1)
      obtain ⟨z, hz, rfl⟩ := List.mem_map.mp (List.mem_of_getElem? x1)
      obtain ⟨zs, zl1, zl8⟩ := U.ok z hz
      have x2' : atI (sD us) r = some (.str z) := x2
      simp [hu3, x2']
      refine hN2 _ _ ?_
      clear hN2
      refine seq_of fun N2 hN2 => ?_
      have zl : z.length ≤ 100000 := by omega
      simp [zl]
      refine take_H d3 (by omega) (by omega) fun a S4 d4 g4 a0 a1 => ?_
      have hu4 : S4[u]? = some (.lst (sD us)) := by
        rw [g4.at' u (List.getElem?_eq_some_iff.mp hu3).1 (Ne.symm nu) (Ne.symm nu)]; exact hu3
      simp
      refine hN2 _ _ ?_
      clear hN2
      simp [zl]
      refine take_H d4 (by decide) (by decide) fun r S5 d5 g5 r0 r1 => ?_
      have hu5 : S5[u]? = some (.lst (sD us)) := by
        rw [g5.at' u (List.getElem?_eq_some_iff.mp hu4).1 (Ne.symm nu) (Ne.symm nu)]; exact hu4
      obtain ⟨l, el, sl, ll⟩ := let_draw r0 r1
      have q1 := cutL_len z (a := a) a0
      have q2 : (cutS z none (some a)).length + l.length ≤ 100000 := by omega
      simp [el, q2, -ix5_str]
      refine take_H d5 (by decide) (by decide) fun b S6 d6 g6 b0 b1 => ?_
      have hu6 : S6[u]? = some (.lst (sD us)) := by
        rw [g6.at' u (List.getElem?_eq_some_iff.mp hu5).1 (Ne.symm nu) (Ne.symm nu)]; exact hu5
      have q3 := cutR_len z (a := a + b) (by omega)
      have q4 : (cutS z none (some a) ++ l).length + (cutS z (some (a + b)) none).length ≤ 100000 := by
        rw [strlen_app]; omega
      simp [zl, q4]
      refine tl _ _ _ _ S6 d6 hu6 ((((g12.trans g3.wk).trans g4.wk).trans g5.wk).trans g6.wk) (app_small (app_small (cut_small _ _ zs) sl) (cut_small _ _ zs)) ?_ ?_
      · rw [strlen_app, strlen_app]; omega
      · rw [strlen_app, strlen_app]; omega
    · simp only [c1, decide_false, Bool.false_eq_true, if_false]
      refine W_forG (wdI n u us S 0) ?_ ?_ ?_
      · simp
        refine take_H d2 (by decide) (by decide) fun r S3 d3 g3 r0 r1 => ?_
        have hu3 : S3[u]? = some (.lst (sD us)) := by
          rw [g3.at' u (List.getElem?_eq_some_iff.mp hu2).1 (Ne.symm nu) (Ne.symm nu)]; exact hu2
        simp [rng_1 (n := r) (by omega)]
        exact ⟨l0, _, _, _, rfl, d3, hu3, g12.trans g3.wk, sl0, by omega, by rw [rng_len]; omega, rng_no _ _⟩
      · rintro d ds ρ S3 ⟨z, x4, x6, x7, rfl, d3, hu3, g3, hz, l1, l9, hd⟩
        have hd0 := hd d (List.mem_cons_self ..)
        rw [List.length_cons] at l9
        refine ⟨_, by rw [tn_of, hd0]; rfl, ?_⟩
        simp
        refine take_H d3 (by decide) (by decide) fun r S4 d4 g4 r0 r1 => ?_
        have hu4 : S4[u]? = some (.lst (sD us)) := by
          rw [g4.at' u (List.getElem?_eq_some_iff.mp hu3).1 (Ne.symm nu) (Ne.symm nu)]; exact hu3
        obtain ⟨l, el, sl, ll⟩ := let_draw r0 r1
        have zl : z.length + l.length ≤ 100000 := by omega
        simp [el, zl, -ix5_str]
        exact ⟨z ++ l, _, _, _, rfl, d4, hu4, g3.trans g4.wk, app_small hz sl, by rw [strlen_app]; omega, by rw [strlen_app]; omega, fun x hx => hd x (List.mem_cons_of_mem _ hx)⟩
      · rintro ρ S3 ⟨z, x4, x6, x7, rfl, d3, hu3, g3, hz, l1, l9, _⟩
        exact tl z _ _ _ S3 d3 hu3 g3 hz l1 (by simpa using l9)
end Gd

/-! Hd, part 5: drawn names. -/
namespace Gd
open PySem L2 PyProof.Rows

def nmI (n u : Nat) (us : List Str) (many : Nat) (S : Sg) (ys ds : List D) (S2 : Sg) : Prop :=
  ∃ ws : List Str, ys = sD ws ∧ DrH n S2 ∧ S2[u]? = some (.lst (sD (us ++ ws))) ∧ Grows n u S S2 ∧ ws.length + ds.length = many ∧ (∀ w ∈ ws, isW w) ∧ (us ++ ws).Nodup ∧ ∀ d ∈ ds, isLoc d = false
theorem isW.like {z : Str} (h : isW z) : likeW z := ⟨h.2.1, h.1.1, h.1.2⟩
theorem names_H {n u many : Nat} {us : List Str} {S : Sg} {Q : D → Sg → Prop} (h : DrH n S) (hu : S[u]? = some (.lst (sD us))) (nu : n ≠ u) (ok : ∀ w ∈ us, likeW w) (kp : ∀ w ∈ keptS, w ∈ us) (nd : us.Nodup) (hl : us.length + many ≤ 100)
    (q : ∀ (ws : List Str) S', DrH n S' → S'[u]? = some (.lst (sD (us ++ ws))) → Grows n u S S' → ws.length = many → (∀ w ∈ ws, isW w) → (us ++ ws).Nodup → Q (.lst (sD ws)) S') : (Lb.m__law_names_1 [.obj n, .obj u, .int many] S).W Q := by
  unfold Lb.m__law_names_1
  rw [W_fn]
  refine ⟨rfl, ?_⟩
  unfold Lb.b__law_names_1
  rw [W_ret]
  refine W_lcG (nmI n u us many S) ?_ ?_ ?_
  · simp [List.replicate, rng_1 (n := (many : Int)) (by omega)]
    exact ⟨[], rfl, h, by rw [List.append_nil]; exact hu, .refl, by rw [rng_len]; simp, (fun _ h => nomatch h), by rw [List.append_nil]; exact nd, rng_no _ _⟩
  · rintro ys d ds S2 ⟨ws, rfl, d2, hu2, g2, hn, hw, nd2, hd⟩
    have hd0 := hd d (List.mem_cons_self ..)
    rw [List.length_cons] at hn
    refine ⟨_, by rw [tn_of, hd0]; rfl, ?_⟩
    simp [wipeR]
    refine name_H d2 hu2 nu ⟨fun w hw' => ?_, fun w hk => List.mem_append_left _ (kp w hk), by rw [List.length_append]; omega⟩ fun w S3 d3 hu3 g3 w1 w2 => ?_
    · rcases List.mem_append.mp hw' with hw' | hw'
      · exact ok w hw'
      · exact (hw w hw').like
    · simp
      refine ⟨ws ++ [w], by simp [sD], d3, by rw [← List.append_assoc]; exact hu3, g2.trans g3, by rw [List.length_append]; simp; omega, fun x hx => ?_, ?_, fun x hx => hd x (List.mem_cons_of_mem _ hx)⟩
      · rcases List.mem_append.mp hx with hx | hx
        · exact hw x hx
        · rw [List.mem_singleton.mp hx]; exact w1
      · rw [← List.append_assoc, List.nodup_append]
        exact ⟨nd2, by simp, fun a ha b hb e => w2 (by rw [List.mem_singleton.mp hb] at e; exact e ▸ ha)⟩
  · rintro ys S2 ⟨ws, rfl, d2, hu2, g2, hn, hw, nd2, _⟩
    have hn : ws.length = many := by simpa using hn
    refine ⟨by rw [sD_len]; omega, ?_⟩
    simp
    exact q ws S2 d2 hu2 g2 hn hw nd2
end Gd

/-! Hd, part 6: drawn rules. -/
namespace Gd
open PySem L2 PyProof.Rows

theorem DrH.setO {n k : Nat} {S : Sg} (h : DrH n S) (k1 : k ≠ n) (d : D) : DrH n (S.set k d) := by
  obtain ⟨cs, a, r, t, m, h1, h2⟩ := h.ex
  exact ⟨cs, a, r, t, m, by rw [List.getElem?_set_ne k1]; exact h1, h2⟩
theorem DrH.app {n : Nat} {S : Sg} (h : DrH n S) (X : Sg) : DrH n (S ++ X) := by
  obtain ⟨cs, a, r, t, m, h1, h2⟩ := h.ex
  exact ⟨cs, a, r, t, m, getApp h1, h2⟩
theorem DrH.lt {n : Nat} {S : Sg} (h : DrH n S) : n < S.length := by
  obtain ⟨cs, a, r, t, m, h1, h2⟩ := h.ex
  exact (List.getElem?_eq_some_iff.mp h1).1
theorem mem_nms' {r : Rl} {w : Str} : w ∈ r.nms ↔ r.hd = some w ∨ w ∈ r.bd ∨ w ∈ r.un := by
  unfold Rl.nms
  rw [List.mem_append, List.mem_append]
  cases r.hd with
  | none => simp
  | some z => simp; exact or_congr_left ⟨Eq.symm, Eq.symm⟩
def prI (n : Nat) (S : Sg) (ns : List Str) (sz : Int) (ds : List D) (ρ : Ro) (S2 : Sg) : Prop :=
  ∃ (ws left : List Str) (x5 : Slot), ρ = [.va (.obj n), .va (.lst (sD ns)), .va (.int sz), .va (.obj S.length), .ow (.lst (sD ws)), x5] ∧ S2[S.length]? = some (.lst (sD left)) ∧ DrH n S2 ∧ Grows n n S S2 ∧ (ws ++ left).Nodup ∧ (∀ w ∈ ws ++ left, w ∈ ns) ∧ ds.length ≤ left.length ∧ ws.length + ds.length ≤ 6 ∧ ∀ d ∈ ds, isLoc d = false
theorem pair_H {n : Nat} {S : Sg} {ns : List Str} {Q : D → Sg → Prop} (h : DrH n S) (nd : ns.Nodup) (l0 : 0 < ns.length) (hl : ns.length ≤ 100) (hw : ∀ w ∈ ns, isW w)
    (q : ∀ (r : Rl) S', DrH n S' → Grows n n S S' → r.Ok → r.un = [] → (∀ w ∈ r.nms, w ∈ ns) → Q r.prD S') : (Lb.m__law_pair [.obj n, .lst (sD ns)] S).W Q := by
  unfold Lb.m__law_pair
  rw [W_fn]
  refine ⟨rfl, ?_⟩
  unfold Lb.b__law_pair
  refine seq_of fun N hN => ?_
  rw [W_set, W_op2, W_lst]
  simp [List.replicate]
  refine take_H h (by decide) (by decide) fun s7 S1 d1 g1 a0 a1 => ?_
  simp
  refine take_H d1 (by decide) (by decide) fun r S2 d2 g2 r0 r1 => ?_
  have hsz : ∃ sz : Int, (0 ≤ sz ∧ sz ≤ 6) ∧ atI [D.int 0, .int 1, .int 1, .int 1, .int 2, .int 2, .int 3, .int s7] r = some (.int sz) := by
    have : r = 0 ∨ r = 1 ∨ r = 2 ∨ r = 3 ∨ r = 4 ∨ r = 5 ∨ r = 6 ∨ r = 7 := by omega
    rcases this with rfl | rfl | rfl | rfl | rfl | rfl | rfl | rfl
    · exact ⟨0, by decide, rfl⟩
    · exact ⟨1, by decide, rfl⟩
    · exact ⟨1, by decide, rfl⟩
    · exact ⟨1, by decide, rfl⟩
    · exact ⟨2, by decide, rfl⟩
    · exact ⟨2, by decide, rfl⟩
    · exact ⟨3, by decide, rfl⟩
    · exact ⟨s7, by omega, rfl⟩
  obtain ⟨sz, hsz, esz⟩ := hsz
  simp [esz]
  refine hN _ _ ?_
  clear hN
  have lt := d2.lt
  have g12 := g1.trans g2
  refine seq_of fun N hN => ?_
  simp
  refine hN _ _ ?_
  clear hN
  refine seq_of fun N hN => ?_
  simp
  refine hN _ _ ?_
  clear hN
  refine seq_of fun N hN => ?_
  refine W_forG (prI n S2 ns sz) ?_ ?_ ?_
  · have hk : ∃ k : Int, (if (ns.length : Int) < sz then (ns.length : Int) else sz) = k ∧ 0 ≤ k ∧ k ≤ 6 ∧ k ≤ ns.length := ⟨_, rfl, by split <;> omega, by split <;> omega, by split <;> omega⟩
    obtain ⟨k, ek, k0, k6, kn⟩ := hk
    simp [sD_len, ek, rng_1 (n := k) (by omega)]
    exact ⟨[], ns, _, rfl, getLast, d2.app _, .app _, by simpa using nd, by simp, by rw [rng_len]; omega, by rw [rng_len]; simp; omega, rng_no _ _⟩
  · rintro d ds ρ S3 ⟨ws, left, x5, rfl, hS3, d3, g3, hn, hs, hl1, hl2, hd⟩
    have hd0 := hd d (List.mem_cons_self ..)
    rw [List.length_cons] at hl1 hl2
    refine ⟨_, by rw [tn_of, hd0]; rfl, ?_⟩
    have pg := pigeon _ ns hn hs
    rw [List.length_append] at pg
    have il : isLstAt [.va (.obj n), .va (.lst (sD ns)), .va (.int sz), .va (.obj S2.length), .ow (.lst (sD ws)), .va d] S3 (.loc 4) = true := by simp [isLstAt, de_loc]
    simp [hS3, sD_len, isLstAt, de_loc]
    refine take_H d3 (by omega) (by omega) fun r S4 d4 g4 r0 r1 => ?_
    have hS4 : S4[S2.length]? = some (.lst (sD left)) := by
      rw [g4.at' _ (List.getElem?_eq_some_iff.mp hS3).1 (by omega) (by omega)]
      exact hS3
    obtain ⟨y, y1, _, y3⟩ := atI_nn (xs := left) r0 r1
    have ep : popAt (sD left) r = some (.str y, sD (left.eraseIdx r.toNat)) := by
      unfold popAt
      rw [sD_len, y3]
      show (((sD left)[r.toNat]?).map _) = _
      rw [sD_erase]
      unfold sD
      rw [List.getElem?_map, y1]
      rfl
    have ll : left.length ≤ 100000 := by omega
    have wl : ws.length < 100000 := by omega
    have hy : y ∈ left := List.mem_of_getElem? y1
    have hlt : r.toNat < left.length := (List.getElem?_eq_some_iff.mp y1).1
    simp [hS4, ep, ll, wl]
    refine ⟨ws ++ [y], left.eraseIdx r.toNat, .va d, by simp [sD], by rw [List.getElem?_set_self (List.getElem?_eq_some_iff.mp hS4).1], d4.setO (by omega) _, (g3.trans g4).set (Nat.le_refl _) _, ?_, ?_, by rw [List.length_eraseIdx_of_lt hlt]; omega, by rw [List.length_append]; simp; omega, fun z hz => hd z (List.mem_cons_of_mem _ hz)⟩
    · have hp : (ws ++ left).Perm (ws ++ [y] ++ left.eraseIdx r.toNat) := by
        rw [List.append_assoc]
        refine List.Perm.append_left _ ?_
        have he : left[r.toNat] = y := (List.getElem?_eq_some_iff.mp y1).2
        have := erase_perm left r.toNat hlt
        rw [he] at this
        exact this.symm
      exact hp.nodup_iff.mp hn
    · intro w hw
      rw [List.append_assoc] at hw
      rcases List.mem_append.mp hw with hw | hw
      · exact hs w (List.mem_append_left _ hw)
      · rcases List.mem_append.mp hw with hw | hw
        · rw [List.mem_singleton.mp hw]; exact hs y (List.mem_append_right _ hy)
        · exact hs w (List.mem_append_right _ (List.mem_of_mem_eraseIdx hw))
  · rintro ρ S3 ⟨ws, left, x5, rfl, hS3, d3, g3, hn, hs, _, hl2, _⟩
    have l6 : ws.length ≤ 6 := by simpa using hl2
    have nw := (List.nodup_append.mp hn).1
    have sw : ∀ w ∈ ws, w ∈ ns := fun w hw => hs w (List.mem_append_left _ hw)
    refine hN _ _ ?_
    clear hN
    refine seq_of fun N hN => ?_
    simp
    refine take_H d3 (by decide) (by decide) fun r S4 d4 g4 r0 r1 => ?_
    by_cases c : r = 0
    · simp [c, de_loc]
      exact q ⟨none, ws, []⟩ S4 d4 ((g12.trans g3).trans g4) ⟨(fun _ h => nomatch h), fun w hw' => hw w (sw w hw'), (fun _ h => nomatch h), nw, .nil, l6, by simp⟩ rfl (fun w hw' => by
        rcases mem_nms'.mp hw' with k | k | k
        · cases k
        · exact sw w k
        · cases k)
    · simp [c]
      refine hN _ _ ?_
      clear hN
      simp [sD_len]
      refine take_H d4 (by omega) (by omega) fun r S5 d5 g5 r0 r1 => ?_
      obtain ⟨x, x1, x2, _⟩ := atI_nn (xs := ns.map D.str) r0 (by rw [List.length_map]; exact r1)
      obtain ⟨z, hz, rfl⟩ := List.mem_map.mp (List.mem_of_getElem? x1)
      have x2' : atI (sD ns) r = some (.str z) := x2
      simp [x2', de_loc]
      exact q ⟨some z, ws, []⟩ S5 d5 (((g12.trans g3).trans g4).trans g5) ⟨(fun y e => by cases e; exact hw z hz), fun w hw' => hw w (sw w hw'), (fun _ h => nomatch h), nw, .nil, l6, by simp⟩ rfl (fun w hw' => by
        rcases mem_nms'.mp hw' with k | k | k
        · cases k; exact hz
        · exact sw w k
        · cases k)
end Gd

/-! Hd, part 7: drawn lists of rules, of names. -/
namespace Gd
open PySem L2 PyProof.Rows

def plR (ns : List Str) (r : Rl) : Prop := r.Ok ∧ r.un = [] ∧ ∀ w ∈ r.nms, w ∈ ns
def psI (n : Nat) (S : Sg) (ns : List Str) (most : Nat) (ys ds : List D) (S2 : Sg) : Prop :=
  ∃ rs : List Rl, ys = prsD rs ∧ DrH n S2 ∧ Grows n n S S2 ∧ (∀ r ∈ rs, plR ns r) ∧ rs.length + ds.length ≤ most ∧ ∀ d ∈ ds, isLoc d = false
theorem pairs_H {n most : Nat} {S : Sg} {ns : List Str} {Q : D → Sg → Prop} (h : DrH n S) (nd : ns.Nodup) (l0 : 0 < ns.length) (hl : ns.length ≤ 100) (hw : ∀ w ∈ ns, isW w) (hm : most ≤ 1000)
    (q : ∀ (rs : List Rl) S', DrH n S' → Grows n n S S' → (∀ r ∈ rs, plR ns r) → rs.length ≤ most → Q (.lst (prsD rs)) S') : (Lb.m__law_pairs [.obj n, .lst (sD ns), .int most] S).W Q := by
  unfold Lb.m__law_pairs
  rw [W_fn]
  refine ⟨rfl, ?_⟩
  unfold Lb.b__law_pairs
  rw [W_ret]
  refine W_lcG (psI n S ns most) ?_ ?_ ?_
  · simp [List.replicate]
    refine take_H h (by omega) (by omega) fun r S1 d1 g1 r0 r1 => ?_
    simp [rng_1 (n := r) (by omega)]
    exact ⟨[], rfl, d1, g1, (fun _ h => nomatch h), by rw [rng_len]; simp; omega, rng_no _ _⟩
  · rintro ys d ds S2 ⟨rs, rfl, d2, g2, hr, hn, hd⟩
    have hd0 := hd d (List.mem_cons_self ..)
    rw [List.length_cons] at hn
    refine ⟨_, by rw [tn_of, hd0]; rfl, ?_⟩
    simp [wipeR]
    refine pair_H d2 nd l0 hl hw fun r S3 d3 g3 o1 o2 o3 => ?_
    simp
    refine ⟨rs ++ [r], by simp [prsD], d3, g2.trans g3, fun x hx => ?_, by rw [List.length_append]; simp; omega, fun x hx => hd x (List.mem_cons_of_mem _ hx)⟩
    rcases List.mem_append.mp hx with hx | hx
    · exact hr x hx
    · rw [List.mem_singleton.mp hx]; exact ⟨o1, o2, o3⟩
  · rintro ys S2 ⟨rs, rfl, d2, g2, hr, hn, _⟩
    have hn : rs.length ≤ most := by simpa using hn
    refine ⟨by rw [prsD_len]; omega, ?_⟩
    simp
    exact q rs S2 d2 g2 hr hn
def smI (n : Nat) (S : Sg) (ns : List Str) (ys ds : List D) (S2 : Sg) : Prop :=
  ∃ ws left : List Str, ys = sD ws ∧ S2[S.length]? = some (.lst (sD left)) ∧ DrH n S2 ∧ Grows n n S S2 ∧ (ws ++ left).Nodup ∧ (∀ w ∈ ws ++ left, w ∈ ns) ∧ ds.length ≤ left.length ∧ ∀ d ∈ ds, isLoc d = false
theorem some_H {n : Nat} {S : Sg} {ns : List Str} {Q : D → Sg → Prop} (h : DrH n S) (nd : ns.Nodup) (hl : ns.length ≤ 1000)
    (q : ∀ (ws : List Str) S', DrH n S' → Grows n n S S' → ws.Nodup → (∀ w ∈ ws, w ∈ ns) → Q (.lst (sD ws)) S') : (Lb.m__law_some_1 [.obj n, .lst (sD ns)] S).W Q := by
  have lt := h.lt
  unfold Lb.m__law_some_1
  rw [W_fn]
  refine ⟨rfl, ?_⟩
  unfold Lb.b__law_some_1
  refine seq_of fun N hN => ?_
  simp [List.replicate]
  refine hN _ _ ?_
  clear hN
  rw [W_ret]
  refine W_lcG (smI n S ns) ?_ ?_ ?_
  · simp [sD_len]
    refine take_H (h.app _) (by omega) (by omega) fun r S1 d1 g1 r0 r1 => ?_
    have hS1 : S1[S.length]? = some (.lst (sD ns)) := by
      rw [g1.at' _ (by rw [List.length_append]; simp) (by omega) (by omega)]
      exact getLast
    simp [rng_1 (n := r) (by omega)]
    exact ⟨[], ns, rfl, hS1, d1, (Grows.app _).trans g1, by simpa using nd, by simp, by rw [rng_len]; omega, rng_no _ _⟩
  · rintro ys d ds S3 ⟨ws, left, rfl, hS3, d3, g3, hn, hs, hl1, hd⟩
    have hd0 := hd d (List.mem_cons_self ..)
    rw [List.length_cons] at hl1
    refine ⟨_, by rw [tn_of, hd0]; rfl, ?_⟩
    have pg := pigeon _ ns hn hs
    rw [List.length_append] at pg
    simp [wipeR, hS3, sD_len]
    refine take_H d3 (by omega) (by omega) fun r S4 d4 g4 r0 r1 => ?_
    have hS4 : S4[S.length]? = some (.lst (sD left)) := by
      rw [g4.at' _ (List.getElem?_eq_some_iff.mp hS3).1 (by omega) (by omega)]
      exact hS3
    obtain ⟨y, y1, _, y3⟩ := atI_nn (xs := left) r0 r1
    have ep : popAt (sD left) r = some (.str y, sD (left.eraseIdx r.toNat)) := by
      unfold popAt
      rw [sD_len, y3]
      show (((sD left)[r.toNat]?).map _) = _
      rw [sD_erase]
      unfold sD
      rw [List.getElem?_map, y1]
      rfl
    have ll : left.length ≤ 100000 := by omega
    have hy : y ∈ left := List.mem_of_getElem? y1
    have hlt : r.toNat < left.length := (List.getElem?_eq_some_iff.mp y1).1
    simp [hS4, ep, ll]
    refine ⟨ws ++ [y], left.eraseIdx r.toNat, by simp [sD], by rw [List.getElem?_set_self (List.getElem?_eq_some_iff.mp hS4).1], d4.setO (by omega) _, (g3.trans g4).set (Nat.le_refl _) _, ?_, ?_, by rw [List.length_eraseIdx_of_lt hlt]; omega, fun z hz => hd z (List.mem_cons_of_mem _ hz)⟩
    · have hp : (ws ++ left).Perm (ws ++ [y] ++ left.eraseIdx r.toNat) := by
        rw [List.append_assoc]
        refine List.Perm.append_left _ ?_
        have he : left[r.toNat] = y := (List.getElem?_eq_some_iff.mp y1).2
        have := erase_perm left r.toNat hlt
        rw [he] at this
        exact this.symm
      exact hp.nodup_iff.mp hn
    · intro w hw
      rw [List.append_assoc] at hw
      rcases List.mem_append.mp hw with hw | hw
      · exact hs w (List.mem_append_left _ hw)
      · rcases List.mem_append.mp hw with hw | hw
        · rw [List.mem_singleton.mp hw]; exact hs y (List.mem_append_right _ hy)
        · exact hs w (List.mem_append_right _ (List.mem_of_mem_eraseIdx hw))
  · rintro ys S2 ⟨ws, left, rfl, hS2, d2, g2, hn, hs, _, _⟩
    have pg := pigeon _ ns hn hs
    rw [List.length_append] at pg
    refine ⟨by rw [sD_len]; omega, ?_⟩
    simp
    exact q ws S2 d2 g2 (List.nodup_append.mp hn).1 fun w hw => hs w (List.mem_append_left _ hw)
end Gd

namespace Nk12
open PySem L2 Gd PyProof.Rows
noncomputable def b__law_chain : MS := (s_seq (s_set 2 (e_call Lb.m__law_names_1 (a_cons (e_var 0) (a_cons (e_var 1) (a_cons (e_op2 d_add4 (e_c (.int 2)) (e_call Lb.m__law_take_1 (a_cons (e_var 0) (a_cons (e_c (.int 23)) a_nil)))) a_nil)))))
  (s_seq (s_set 3 (e_sh (f_lcG [4] (j_rng (a_cons (e_c (.int 1)) (a_cons (e_cb (d_1 d_len5) (a_cons (e_var 2) a_nil)) a_nil))) (t_name 4) t_yes (e_tup (a_cons (e_op2 d_ix5 (e_var 2) (e_var 4)) (a_cons (e_tup (a_cons (e_op2 d_ix5 (e_var 2) (e_op2 d_sub (e_var 4) (e_c (.int 1)))) a_nil)) a_nil))))))
  (s_ret (e_tup (a_cons (f_lcG [4] (j_rng (a_cons (e_cb (d_1 d_len5) (a_cons (e_var 3) a_nil)) a_nil)) (t_name 4) t_yes (e_pop (e_var 3) (e_call Lb.m__law_take_1 (a_cons (e_var 0) (a_cons (e_cb (d_1 d_len5) (a_cons (e_var 3) a_nil)) a_nil))))) (a_cons (e_sl d_sl3 (e_var 2) o_no (o_e (e_c (.int 1)))) a_nil))))))
noncomputable def m__law_chain : List D → Sg → Out D := Gd.fn 5 b__law_chain 2
noncomputable def b__law_levels : MS := (s_seq (s_own 3 (e_cb (d_1 d_dict) (a_cons (f_lcG [2] (j_seq true (e_var 1)) (t_name 2) t_yes (e_tup (a_cons (e_var 2) (a_cons (e_c (.int 0)) a_nil)))) a_nil)))
  (s_seq (s_set 4 (e_c (.int 0)))
  (s_seq (s_own 5 (f_lst (a_cons (e_c .non) a_nil)))
  (s_seq (s_wh (t_e (e_op2 d_ne5 (e_var 5) (f_lst a_nil))) (s_seq (s_set 4 (e_op2 d_add4 (e_var 4) (e_c (.int 1))))
  (s_seq (s_own 5 (f_lst a_nil))
  (s_seq (s_forG (j_seq false (e_var 0)) (t_tup [(t_name 6), (t_name 7)]) (s_if (t_and (t_e (e_op2 d_notN (e_var 6) (e_c .non))) (t_and (t_e (e_op2 (d_in5 true) (e_var 6) (e_var 3))) (t_e (e_op2 d_eq5 (f_lcG [8] (j_seq true (e_var 7)) (t_name 8) (t_e (e_op2 (d_in5 true) (e_var 8) (e_var 3))) (e_var 8)) (f_lst a_nil))))) (s_app (e_var 5) (e_var 6)) s_nx))
  (s_frz 5 (s_forG (j_seq false (e_var 5)) (t_name 2) (s_seti (e_var 4) (e_var 3) (e_var 2))))))) 100000)
  (s_ret (e_var 3))))))
noncomputable def m__law_levels : List D → Sg → Out D := Gd.fn 9 b__law_levels 2
noncomputable def b_law : MS := (s_seq (s_set 1 (e_call Lb.m__law_begun_1 (a_cons (e_var 0) a_nil)))
  (s_seq (s_set 2 (e_op2 d_eq5 (e_call Lb.m__law_take_1 (a_cons (e_var 1) (a_cons (e_c (.int 4)) a_nil))) (e_c (.int 0))))
  (s_seq (s_set 3 (e_callK Lb.m__law_kept (fun ds es => (ds ++ [])) a_nil a_nil))
  (s_seq (s_if (t_e (e_var 2)) (s_asg (e_call m__law_chain (a_cons (e_var 1) (a_cons (e_var 3) a_nil))) (t_tup [(t_name 4), (t_name 5)])) (s_seq (s_set 6 (e_call Lb.m__law_names_1 (a_cons (e_var 1) (a_cons (e_var 3) (a_cons (e_op2 d_add4 (e_c (.int 1)) (e_call Lb.m__law_take_1 (a_cons (e_var 1) (a_cons (e_c (.int 9)) a_nil)))) a_nil)))))
  (s_seq (s_set 4 (e_call Lb.m__law_pairs (a_cons (e_var 1) (a_cons (e_var 6) (a_cons (e_c (.int 12)) a_nil)))))
  (s_set 5 (e_call Lb.m__law_some_1 (a_cons (e_var 1) (a_cons (e_op2 d_add4 (e_var 6) (e_call Lb.m__law_names_1 (a_cons (e_var 1) (a_cons (e_var 3) (a_cons (e_call Lb.m__law_take_1 (a_cons (e_var 1) (a_cons (e_c (.int 3)) a_nil))) a_nil))))) a_nil)))))))
  (s_seq (s_set 7 (e_call m__law_levels (a_cons (e_var 4) (a_cons (e_var 5) a_nil))))
  (s_seq (s_set 8 (e_callK Lb.m_levels (fun ds es => (ds ++ ((es[1]?).toList ++ ((es[0]?).toList ++ [])))) a_nil (a_cons (e_var 5) (a_cons (f_lcG [9, 10] (j_seq true (e_var 4)) (t_tup [(t_name 9), (t_name 10)]) t_yes (e_mkF "Rule" Lb.m_Rule___init__ (fun ds es => (ds ++ ((([.tup []] : List D)[0]?).toList ++ []))) (a_cons (e_var 9) (a_cons (e_var 10) a_nil)) a_nil)) a_nil))))
  (s_seq (s_if (t_or (t_not (t_e (e_op1 (d_isi "dict") (e_var 8)))) (t_or (t_e (e_op2 d_ne5 (e_var 8) (e_var 7))) (t_e (e_op2 d_ne5 (e_cb (d_1 d_list5) (a_cons (e_var 8) a_nil)) (e_cb (d_1 d_sort) (a_cons (e_var 7) a_nil)))))) (s_ret (e_c (.bl false))) s_nx)
  (s_ret (e_op2 d_eq5 (f_lcG [11] (j_vals (e_var 8)) (t_name 11) (t_or (t_e (e_op1 (d_isi "bool") (e_var 11))) (t_not (t_e (e_op1 (d_isi "int") (e_var 11))))) (e_var 11)) (f_lst a_nil))))))))))
noncomputable def m_law : List D → Sg → Out D := Gd.fn 12 b_law 1
end Nk12

namespace Nk12
open PySem L2 Gd PyProof.Rows

def lvI (d e : D) (x2 : Slot) (lv : List (Str × Int)) (t : Int) (rs : List Rl) (S : Sg) (ds : List D) (ρ : Ro) (S2 : Sg) : Prop :=
  S2 = S ∧ ∃ (done rest : List Rl) (x6 x7 x8 : Slot), rs = done ++ rest ∧ ds = prsD rest ∧ ρ = [.va d, .va e, x2, .ow (.dct (numK lv)), .va (.int t), .ow (.lst (sD (freshL (ksN lv) done))), x6, x7, x8]
theorem fl_len (lv : List Str) (rs : List Rl) : (freshL lv rs).length ≤ rs.length := List.length_filterMap_le ..
theorem fl_app (lv : List Str) (a b : List Rl) : freshL lv (a ++ b) = freshL lv a ++ freshL lv b := List.filterMap_append
theorem fl_one (lv : List Str) (r : Rl) : freshL lv [r] = (hitR lv r).toList := by
  unfold freshL
  rw [List.filterMap_cons]
  cases hitR lv r <;> rfl
theorem lv_inner {rs : List Rl} (ok : ∀ r ∈ rs, r.Ok) (hl : rs.length ≤ 1000) {S : Sg} {d e : D} {x2 x6 x7 x8 : Slot} {t : Int} {lv : List (Str × Int)} {nx : Ro → Sg → Prop} {rt : D → Sg → Prop} (h : SeqOf S (prsD rs) d)
    (q : ∀ x6 x7 x8, nx [.va d, .va e, x2, .ow (.dct (numK lv)), .va (.int t), .ow (.lst (sD (freshL (ksN lv) rs))), x6, x7, x8] S) :
    ((s_forG (j_seq false (e_var 0)) (t_tup [(t_name 6), (t_name 7)]) (s_if (t_and (t_e (e_op2 d_notN (e_var 6) (e_c .non))) (t_and (t_e (e_op2 (d_in5 true) (e_var 6) (e_var 3))) (t_e (e_op2 d_eq5 (f_lcG [8] (j_seq true (e_var 7)) (t_name 8) (t_e (e_op2 (d_in5 true) (e_var 8) (e_var 3))) (e_var 8)) (f_lst a_nil))))) (s_app (e_var 5) (e_var 6)) s_nx))
      [.va d, .va e, x2, .ow (.dct (numK lv)), .va (.int t), .ow (.lst []), x6, x7, x8] S).W nx rt := by
  refine W_forG (lvI d e x2 lv t rs S) ?_ ?_ ?_
  · obtain ⟨gs, hs, sm⟩ := h.src2 false [.va d, .va e, x2, .ow (.dct (numK lv)), .va (.int t), .ow (.lst []), x6, x7, x8]
    rw [W_jseq, W_var]
    refine ⟨_, hs, ⟨rfl, [], rs, _, _, _, rfl, rfl, rfl⟩, .inr ?_⟩
    rintro ds ρ2 S2 ⟨rfl, _⟩
    exact sm _ h
  · rintro dd ds ρ S2 ⟨rfl, done, rest, y6, y7, y8, rfl, e1, rfl⟩
    cases rest with
    | nil => cases e1
    | cons r rest =>
      cases e1
      have okr := ok r (by simp)
      refine ⟨[.va d, .va e, x2, .ow (.dct (numK lv)), .va (.int t), .ow (.lst (sD (freshL (ksN lv) done))), .va (optD r.hd), .va (.tup (sD r.bd)), y8], by simp [Rl.prD], ?_⟩
      have fin : ∀ ws : List Str, ws = (hitR (ksN lv) r).toList → lvI d e x2 lv t (done ++ r :: rest) S2 (prsD rest) [.va d, .va e, x2, .ow (.dct (numK lv)), .va (.int t), .ow (.lst (sD (freshL (ksN lv) done ++ ws))), .va (optD r.hd), .va (.tup (sD r.bd)), y8] S2 := by
        rintro _ rfl
        have e1 : sD (freshL (ksN lv) (done ++ [r])) = sD (freshL (ksN lv) done ++ (hitR (ksN lv) r).toList) := by rw [fl_app, fl_one]
        exact ⟨rfl, done ++ [r], rest, .va (optD r.hd), .va (.tup (sD r.bd)), y8, by simp, rfl, by rw [e1]⟩
      have fin0 : hitR (ksN lv) r = none → lvI d e x2 lv t (done ++ r :: rest) S2 (prsD rest) [.va d, .va e, x2, .ow (.dct (numK lv)), .va (.int t), .ow (.lst (sD (freshL (ksN lv) done))), .va (optD r.hd), .va (.tup (sD r.bd)), y8] S2 := by
        intro e1
        have := fin [] (by rw [e1]; rfl)
        rw [List.append_nil] at this
        exact this
      cases ehd : r.hd with
      | none =>
        rw [ehd] at fin0
        simp [optD]
        exact fin0 (by unfold hitR; rw [ehd])
      | some z =>
        rw [ehd] at fin fin0
        by_cases c1 : z ∈ ksN lv
        · simp [optD, de_loc, in_num, c1]
          exact fin0 (by unfold hitR; rw [ehd]; simp [c1])
        · have lb := okr.lb
          have e' : d_eq (.lst (sD (r.bd.filter fun w => !decide (w ∈ ksN lv)))) (.lst []) = some (.bl (decide (r.bd.filter (fun w => !decide (w ∈ ksN lv)) = []))) :=
            eq_py (r.bd.filter fun w => !decide (w ∈ ksN lv)) [] (fun w hw => isW_ok (okr.hb w (List.mem_filter.mp hw).1)) (fun _ h => nomatch h)
          have ec : decide (r.bd.filter (fun w => !decide (w ∈ ksN lv)) = []) = r.bd.all fun w => decide (w ∈ ksN lv) := by
            rw [Bool.eq_iff_iff]
            simp
          rw [ec] at e'
          simp only [W_if, W_tand, W_te, W_op2, W_var, List.getElem?_cons_succ, List.getElem?_cons_zero, W_c]
          refine ⟨.bl true, by simp [optD], ?_⟩
          rw [W_liftB, if_pos rfl]
          refine ⟨.bl true, by simp [optD, de_loc, in_num, c1], ?_⟩
          rw [W_liftB, if_pos rfl]
          refine W_mapG (fun w : Str => D.str w) r.bd (fun w => !decide (w ∈ ksN lv)) (fun w => .str w) ?_
          rw [W_jseq, W_var]
          refine ⟨_, rfl, rfl, fun w hw => ⟨_, rfl, ?_, fun _ => by simp [wipeR]⟩, by omega, ?_⟩
          · simp [wipeR, de_loc, in_num]
          · have e2 : (r.bd.filter fun w => !decide (w ∈ ksN lv)).map (fun w => D.str w) = sD (r.bd.filter fun w => !decide (w ∈ ksN lv)) := rfl
            rw [e2]
            simp only [W_lst, W_anil]
            refine ⟨by decide, .bl (r.bd.all fun w => decide (w ∈ ksN lv)), ?_, ?_⟩
            · show d_eq5 (.lst (sD _)) (.lst []) = _
              rw [eq5_lst]
              exact e'
            · rw [W_liftB]
              cases c3 : r.bd.all fun w => decide (w ∈ ksN lv) with
              | false =>
                rw [if_neg Bool.false_ne_true]
                exact fin0 (by unfold hitR; rw [ehd]; exact if_neg fun q => by rw [c3] at q; exact Bool.false_ne_true q.2)
              | true =>
                rw [if_pos rfl]
                have hn : (freshL (ksN lv) done).length < 100000 := by
                  have := fl_len (ksN lv) done
                  rw [List.length_append] at hl
                  omega
                have il : ∀ ρ : Ro, ρ[5]? = some (.ow (.lst (sD (freshL (ksN lv) done)))) → isLstAt ρ S2 (.loc 5) = true := fun ρ hρ => by simp [isLstAt, de_loc, hρ]
                simp only [W_app, W_var, List.getElem?_cons_succ, List.getElem?_cons_zero, W_putTo]
                refine ⟨il _ rfl, by simp, _, .lst (sD (freshL (ksN lv) done ++ [z])), rfl, ?_, ?_⟩
                · simp [optD, appD, hn, sD]
                · exact fin [z] (by
                    have : hitR (ksN lv) r = some z := by unfold hitR; rw [ehd]; exact if_pos ⟨c1, c3⟩
                    rw [this]; rfl)
  · rintro ρ S2 ⟨rfl, done, rest, y6, y7, y8, rfl, e1, rfl⟩
    cases rest with
    | nil =>
      have := q y6 y7 y8
      rw [List.append_nil] at this
      exact this
    | cons r rest => cases e1
end Nk12

namespace Nk12
open PySem L2 Gd PyProof.Rows

theorem uniq_app : ∀ (a acc b : List Str), uniq acc (a ++ b) = uniq (uniq acc a) b
  | [], _, _ => rfl
  | k :: a, acc, b => uniq_app a _ b
theorem uniq_len : ∀ (a acc : List Str), (uniq acc a).length ≤ acc.length + a.length
  | [], _ => by simp [uniq]
  | k :: a, acc => by
    have := uniq_len a (if k ∈ acc then acc else acc ++ [k])
    show (uniq (if k ∈ acc then acc else acc ++ [k]) a).length ≤ _
    have e : (if k ∈ acc then acc else acc ++ [k]).length ≤ acc.length + 1 := by
      split
      · omega
      · rw [List.length_append]; simp
    rw [List.length_cons]; omega
def loI (d e : D) (t : Int) (zs : List Str) (lv : List (Str × Int)) (S : Sg) (ds : List D) (ρ : Ro) (S2 : Sg) : Prop :=
  S2 = S ∧ ∃ (done rest : List Str) (x2 x6 x7 x8 : Slot), zs = done ++ rest ∧ ds = sD rest ∧ ρ = [.va d, .va e, x2, .ow (.dct (numK (lv ++ atU t (uniq [] done)))), .va (.int t), .va (.lst (sD zs)), x6, x7, x8]
theorem lv_outer {S : Sg} {d e : D} {x2 x6 x7 x8 : Slot} {t : Int} {lv : List (Str × Int)} {zs : List Str} {nx : Ro → Sg → Prop} {rt : D → Sg → Prop} (hz : ∀ z ∈ zs, z ∉ ksN lv) (hl : lv.length + zs.length ≤ 1000)
    (q : ∀ x2 x6 x7 x8, nx [.va d, .va e, x2, .ow (.dct (numK (lv ++ atU t (uniq [] zs)))), .va (.int t), .va (.lst (sD zs)), x6, x7, x8] S) :
    ((s_frz 5 (s_forG (j_seq false (e_var 5)) (t_name 2) (s_seti (e_var 4) (e_var 3) (e_var 2)))) [.va d, .va e, x2, .ow (.dct (numK lv)), .va (.int t), .ow (.lst (sD zs)), x6, x7, x8] S).W nx rt := by
  refine W_frzL (l := sD zs) rfl ?_
  refine W_forG (loI d e t zs lv S) ?_ ?_ ?_
  · simp
    exact ⟨rfl, [], zs, x2, x6, x7, x8, rfl, rfl, by simp [uniq, atU]⟩
  · rintro dd ds ρ S2 ⟨rfl, done, rest, y2, y6, y7, y8, rfl, e1, rfl⟩
    cases rest with
    | nil => cases e1
    | cons z rest =>
      cases e1
      refine ⟨[.va d, .va e, .va (.str z), .ow (.dct (numK (lv ++ atU t (uniq [] done)))), .va (.int t), .va (.lst (sD (done ++ z :: rest))), y6, y7, y8], by simp, ?_⟩
      have hm : (lv ++ atU t (uniq [] done)).length < 100000 := by
        have := uniq_len done []
        rw [List.length_append] at hl ⊢
        unfold atU
        rw [List.length_map]
        simp at this
        omega
      have u1 : updI (.str z) (.int t) (.dct (numK (lv ++ atU t (uniq [] done)))) = some (.dct (numK (lv ++ atU t (uniq [] (done ++ [z]))))) := by
        rw [up_str, numK_len, if_pos hm, kput_num, putN_at (hz z (by simp)), uniq_app]
        rfl
      simp only [W_seti, W_var, List.getElem?_cons_succ, List.getElem?_cons_zero, W_putTo, lo_int, true_and]
      refine ⟨_, _, rfl, u1, ?_⟩
      exact ⟨rfl, done ++ [z], rest, _, _, _, _, by simp, rfl, rfl⟩
  · rintro ρ S2 ⟨rfl, done, rest, y2, y6, y7, y8, rfl, e1, rfl⟩
    cases rest with
    | nil =>
      have := q y2 y6 y7 y8
      rw [List.append_nil] at this ⊢
      exact this
    | cons z rest => cases e1
def wlI (rs : List Rl) (gs : List Str) (d e : D) (S : Sg) (R : List (Str × Int) × List (Str × Int)) (k : Nat) (ρ : Ro) (S2 : Sg) : Prop :=
  S2 = S ∧ ∃ (lv pl : List (Str × Int)) (t : Int) (x2 F5 x6 x7 x8 : Slot), ρ = [.va d, .va e, x2, .ow (.dct (numK lv)), .va (.int t), F5, x6, x7, x8] ∧ RSt rs gs lv pl ∧
    ((F5 = .va (.lst []) ∧ R.1 = lv) ∨ ((F5 = .ow (.lst [.non]) ∨ ∃ p l, F5 = .va (.lst (sD (p :: l))) ∧ ∀ w ∈ p :: l, isW w) ∧ roundsP rs k lv pl t = R ∧ outN (heads rs) (ksN lv) < k))
theorem head_W {rs : List Rl} (ok : ∀ r ∈ rs, r.Ok) : ∀ z ∈ heads rs, isW z := fun z hz => by
  obtain ⟨r, hr, e⟩ := List.mem_filterMap.mp hz
  exact (ok r hr).hd z e
theorem law_levels_eq {rs : List Rl} (ok : ∀ r ∈ rs, r.Ok) (hl : rs.length ≤ 40) {gs : List Str} (nd : gs.Nodup) (hg : gs.length ≤ 24) {S : Sg} {d e : D} (h : SeqOf S (prsD rs) d) (he : SeqOf S (sD gs) e) :
    m__law_levels [d, e] S = .ok (.dct (numK (roundsR rs gs).1)) S := by
  refine W_eqOk ?_
  unfold m__law_levels
  rw [W_fn]
  refine ⟨rfl, ?_⟩
  unfold b__law_levels
  refine seq_of fun N hN => ?_
  rw [W_own, W_cb, W_acons]
  refine W_mapA (fun w : Str => D.str w) gs (fun w => .tup [.str w, .int 0]) ?_
  obtain ⟨gs1, hs1⟩ := he.src true [.va d, .va e, .un, .un, .un, .un, .un, .un, .un]
  have e1 : Gd.pairsOf (gs.map fun w => D.tup [.str w, .int 0]) = some (numK (lv0 gs)) := by
    have : ∀ l : List Str, Gd.pairsOf (l.map fun w => D.tup [.str w, .int 0]) = some (numK (lv0 l)) := by
      intro l
      induction l with
      | nil => rfl
      | cons w l ih =>
        show (some ((Sum.inr w : Key), D.int 0)).bind (fun p => (Gd.pairsOf (l.map fun w => D.tup [.str w, .int 0])).map fun r => p :: r) = _
        rw [ih]; rfl
    exact this gs
  have e0 : kputs (numK (lv0 gs)) = numK (lv0 gs) := kmerge_num (lv0 gs) [] (by rw [List.nil_append, ks_lv0]; exact nd)
  have e2 : d_dict (.lst (gs.map fun w => D.tup [.str w, .int 0])) = some (.dct (numK (lv0 gs))) := by
    show (Gd.pairsOf _).map _ = _
    rw [e1]
    show some (D.dct (kputs (numK (lv0 gs)))) = _
    rw [e0]
  rw [W_jseq, W_var]
  refine ⟨_, hs1, rfl, fun w hw => ⟨[.va d, .va e, .va (.str w), .un, .un, .un, .un, .un, .un], rfl, ?_⟩, by omega, ?_⟩
  · simp
  simp [e2, List.replicate]
  refine hN _ _ ?_
  clear hN
  refine seq_of fun N hN => ?_
  simp
  refine hN _ _ ?_
  clear hN
  refine seq_of fun N hN => ?_
  simp
  refine hN _ _ ?_
  clear hN
  refine seq_of fun N hN => ?_
  refine W_while (wlI rs gs d e S (roundsR rs gs)) ?_ 100000 (rs.length + 1) _ _ ⟨rfl, lv0 gs, [], 0, _, _, _, _, _, rfl, lv0_st nd, .inr ⟨.inl rfl, rfl, ?_⟩⟩ (by omega)
  · rintro k ρ S2 ⟨rfl, lv, pl, t, x2, F5, x6, x7, x8, rfl, st, c⟩
    have body : ∀ F5 : Slot, roundsP rs k lv pl t = roundsR rs gs → outN (heads rs) (ksN lv) < k →
        ((s_seq (s_set 4 (e_op2 d_add4 (e_var 4) (e_c (.int 1))))
  (s_seq (s_own 5 (f_lst a_nil))
  (s_seq (s_forG (j_seq false (e_var 0)) (t_tup [(t_name 6), (t_name 7)]) (s_if (t_and (t_e (e_op2 d_notN (e_var 6) (e_c .non))) (t_and (t_e (e_op2 (d_in5 true) (e_var 6) (e_var 3))) (t_e (e_op2 d_eq5 (f_lcG [8] (j_seq true (e_var 7)) (t_name 8) (t_e (e_op2 (d_in5 true) (e_var 8) (e_var 3))) (e_var 8)) (f_lst a_nil))))) (s_app (e_var 5) (e_var 6)) s_nx))
  (s_frz 5 (s_forG (j_seq false (e_var 5)) (t_name 2) (s_seti (e_var 4) (e_var 3) (e_var 2)))))))
          [.va d, .va e, x2, .ow (.dct (numK lv)), .va (.int t), F5, x6, x7, x8] S2).W (fun ρ2 S3 => ∃ j, j < k ∧ wlI rs gs d e S2 (roundsR rs gs) j ρ2 S3) (fun x S3 => x = .dct (numK (roundsR rs gs).1) ∧ S3 = S2) := by
      intro F5 hR hk
      obtain ⟨st2, m1, m2⟩ := st.step (t + 1)
      have ln := st.len
      have lf := fl_len (ksN lv) rs
      refine seq_of fun N hN => ?_
      simp
      refine hN _ _ ?_
      clear hN
      refine seq_of fun N hN => ?_
      simp
      refine hN _ _ ?_
      clear hN
      refine seq_of fun N hN => ?_
      refine lv_inner ok (by omega) h fun y6 y7 y8 => ?_
      refine hN _ _ ?_
      clear hN
      refine lv_outer (fun z hz => (freshL_out z hz).1) (by omega) fun y2 y6 y7 y8 => ?_
      have eu : atU (t + 1) (uniq [] (freshL (ksN lv) rs)) = Gd.atT (t + 1) (freshP (ksN lv) 0 rs []) := by
        rw [atT_ks, fresh_uniq]; rfl
      rw [eu]
      cases k with
      | zero => omega
      | succ k =>
        unfold roundsP at hR
        by_cases hf : freshP (ksN lv) 0 rs [] = []
        · rw [if_pos hf] at hR
          have hf2 := fresh_nil.mp hf
          rw [hf] at st2 ⊢
          rw [hf2]
          refine ⟨0, by omega, rfl, _, _, _, _, _, _, _, _, rfl, st2, .inl ⟨rfl, ?_⟩⟩
          rw [← hR]
          simp [Gd.atT]
        · rw [if_neg hf] at hR
          refine ⟨k, by omega, rfl, _, _, _, _, _, _, _, _, rfl, st2, .inr ⟨.inr ?_, hR, ?_⟩⟩
          · cases e1 : freshL (ksN lv) rs with
            | nil => exact absurd (fresh_nil.mpr e1) hf
            | cons p l => exact ⟨_, _, rfl, fun w hw => head_W ok w (freshL_out w (by rw [e1]; exact hw)).2⟩
          · have := out_fresh hf
            rw [ksN_app, ksN_at]
            omega
    have t0 : d_ne5 (.lst []) (.lst []) = some (.bl false) := by
      have := ne5_py ([] : List Str) [] (fun _ h => nomatch h) (fun _ h => nomatch h)
      exact this
    have t1 : d_ne5 (.lst [.non]) (.lst []) = some (.bl true) := by
      have := ne5_py ([none] : List (Option Str)) [] (fun x hx z hz => by rw [List.mem_singleton.mp hx] at hz; cases hz) (fun _ h => nomatch h)
      exact this
    rcases c with ⟨rfl, hR⟩ | ⟨rfl | ⟨p, l, rfl, hw⟩, hR, hk⟩
    · simp only [W_te, W_op2, W_var, List.getElem?_cons_succ, List.getElem?_cons_zero, W_lst, W_anil]
      refine ⟨by decide, .bl false, t0, ?_⟩
      rw [W_liftB, if_neg Bool.false_ne_true]
      refine hN _ _ ?_
      simp [de_loc, hR]
    · simp only [W_te, W_op2, W_var, List.getElem?_cons_succ, List.getElem?_cons_zero, W_lst, W_anil]
      refine ⟨by decide, .bl true, t1, ?_⟩
      rw [W_liftB, if_pos rfl]
      exact body _ hR hk
    · have t2 : d_ne5 (.lst (sD (p :: l))) (.lst []) = some (.bl true) := ne5_py (p :: l) [] (fun w hw' => isW_ok (hw w hw')) (fun _ h => nomatch h)
      simp only [W_te, W_op2, W_var, List.getElem?_cons_succ, List.getElem?_cons_zero, W_lst, W_anil]
      refine ⟨by decide, .bl true, t2, ?_⟩
      rw [W_liftB, if_pos rfl]
      exact body _ hR hk
  · have := outN_le (heads rs) (ksN (lv0 gs))
    have := heads_len rs
    omega
end Nk12

namespace Nk12
open PySem L2 Gd PyProof.Rows

/-- the chain's rules -/
def chR (ws : List Str) (k : Nat) : Rl := ⟨some (ws.getD (k + 1) ""), [ws.getD k ""], []⟩
theorem prs_erase : ∀ (rs : List Rl) (k : Nat), (prsD rs).eraseIdx k = prsD (rs.eraseIdx k)
  | [], _ => rfl
  | r :: rs, 0 => rfl
  | r :: rs, k + 1 => congrArg (r.prD :: ·) (prs_erase rs k)
def chI (n u : Nat) (S : Sg) (all : List Rl) (ys ds : List D) (S2 : Sg) : Prop :=
  ∃ rs left : List Rl, ys = prsD rs ∧ S2[S.length]? = some (.lst (prsD left)) ∧ DrH n S2 ∧ Grows n u S S2 ∧ (rs ++ left).Perm all ∧ ds.length ≤ left.length ∧ ∀ d ∈ ds, isLoc d = false
theorem chain_H {n u : Nat} {us : List Str} {S : Sg} {Q : D → Sg → Prop} (h : DrH n S) (hu : S[u]? = some (.lst (sD us))) (nu : n ≠ u) (ok : ∀ w ∈ us, likeW w) (kp : ∀ w ∈ keptS, w ∈ us) (nd : us.Nodup) (hl : us.length ≤ 70)
    (q : ∀ (ws : List Str) (rs : List Rl) S', 2 ≤ ws.length → ws.length ≤ 24 → (∀ w ∈ ws, isW w) → ws.Nodup → (∀ r ∈ rs, plR ws r) → rs.length ≤ 23 → Q (.tup [.lst (prsD rs), .lst (sD (ws.take 1))]) S') : (m__law_chain [.obj n, .obj u] S).W Q := by
  unfold m__law_chain
  rw [W_fn]
  refine ⟨rfl, ?_⟩
  unfold b__law_chain
  refine seq_of fun N hN => ?_
  simp [List.replicate]
  refine take_H h (by decide) (by decide) fun r S1 d1 g1 r0 r1 => ?_
  have hu1 : S1[u]? = some (.lst (sD us)) := by
    rw [g1.at' u (List.getElem?_eq_some_iff.mp hu).1 (Ne.symm nu) (Ne.symm nu)]; exact hu
  obtain ⟨many, em, m1, m2⟩ : ∃ many : Nat, (2 + r : Int) = (many : Int) ∧ 2 ≤ many ∧ many ≤ 24 := ⟨(2 + r).toNat, by omega, by omega, by omega⟩
  simp [em]
  refine names_H d1 hu1 nu ok kp nd (by omega) fun ws S2 d2 hu2 g2 lw hw nd2 => ?_
  simp
  refine hN _ _ ?_
  clear hN
  have nw := (List.nodup_append.mp nd2).2.1
  have lt := d2.lt
  have gd : ∀ k : Nat, k < ws.length → ws[k]? = some (ws.getD k "") := fun k hk => by
    rw [List.getD_eq_getElem?_getD, List.getElem?_eq_getElem hk]; rfl
  have gm : ∀ k : Nat, k < ws.length → ws.getD k "" ∈ ws := fun k hk => List.mem_of_getElem? (gd k hk)
  have ix : ∀ k : Nat, k < ws.length → d_ix5 (.lst (sD ws)) (.int (k : Int)) = some (.str (ws.getD k "")) := fun k hk => by
    obtain ⟨x, x1, x2, _⟩ := atI_nn (xs := sD ws) (i := (k : Int)) (by omega) (by rw [sD_len]; omega)
    rw [ix5_lst, x2]
    have e : (sD ws)[k]? = some (.str (ws.getD k "")) := by unfold sD; rw [List.getElem?_map, gd k hk]; rfl
    rw [Int.toNat_natCast] at x1
    rw [← x1, e]
  obtain ⟨all, eall⟩ : ∃ all, (List.range (ws.length - 1)).map (chR ws) = all := ⟨_, rfl⟩
  have la : all.length = ws.length - 1 := by rw [← eall, List.length_map, List.length_range]
  have hall : ∀ r ∈ all, plR ws r := by
    intro r hr
    rw [← eall] at hr
    obtain ⟨k, hk, rfl⟩ := List.mem_map.mp hr
    rw [List.mem_range] at hk
    refine ⟨⟨fun z e => ?_, fun w hw' => ?_, (fun _ h => nomatch h), by simp [chR], .nil, by simp [chR], by simp [chR]⟩, rfl, fun w hw' => ?_⟩
    · cases e; exact hw _ (gm _ (by omega))
    · rw [show w = ws.getD k "" by simpa [chR] using hw']; exact hw _ (gm _ (by omega))
    · rcases mem_nms'.mp hw' with e | e | e
      · cases e; exact gm _ (by omega)
      · rw [show w = ws.getD k "" by simpa [chR] using e]; exact gm _ (by omega)
      · cases e
  refine seq_of fun N hN => ?_
  rw [W_set, W_sh]
  refine W_mapA (fun i : Nat => D.int (1 + (i : Int))) (List.range (ws.length - 1)) (fun k => (chR ws k).prD) ?_
  simp only [W_jrng, W_acons, W_cb, W_var, List.getElem?_cons_succ, List.getElem?_cons_zero, W_anil, W_c]
  refine ⟨.int ws.length, by simp, _, if_pos (by omega), ?_, fun k hk => ⟨[.va (.obj n), .va (.obj u), .va (.lst (sD ws)), .un, .va (.int (1 + (k : Int)))], by simp [wipeR], ?_⟩, by rw [List.length_range]; omega, rfl, ?_⟩
  · show (List.range ((ws.length : Int) - 1).toNat).map _ = _
    rw [show ((ws.length : Int) - 1).toNat = ws.length - 1 by omega]
  · rw [List.mem_range] at hk
    have i1 := ix (k + 1) (by omega)
    have i2 := ix k (by omega)
    have e1 : (1 + (k : Int)) = ((k + 1 : Nat) : Int) := by omega
    have e2 : (1 + (k : Int)) - 1 = (k : Int) := by omega
    rw [← e1] at i1
    simp [i1, i2, e2, -ix5_lst]
    rfl
  refine hN _ _ ?_
  clear hN
  have eD : (List.range (ws.length - 1)).map (fun k => (chR ws k).prD) = prsD all := by rw [← eall]; unfold prsD; rw [List.map_map]; rfl
  rw [eD, W_ret, W_tup, W_acons]
  refine W_lcG (chI n u S2 all) ?_ ?_ ?_
  · simp [rng_1 (n := (all.length : Int)) (by omega)]
    exact ⟨[], all, rfl, getLast, d2.app _, .app _, by simp, by rw [rng_len]; omega, rng_no _ _⟩
  · rintro ys d ds S3 ⟨rs, left, rfl, hS3, d3, g3, hp, hl1, hd⟩
    have hd0 := hd d (List.mem_cons_self ..)
    rw [List.length_cons] at hl1
    refine ⟨_, by rw [tn_of, hd0]; rfl, ?_⟩
    have pg := hp.length_eq
    rw [List.length_append] at pg
    simp [wipeR, hS3]
    refine take_H d3 (by omega) (by omega) fun r S4 d4 g4 r0 r1 => ?_
    have hS4 : S4[S2.length]? = some (.lst (prsD left)) := by
      rw [g4.at' _ (List.getElem?_eq_some_iff.mp hS3).1 (by omega) (by omega)]
      exact hS3
    obtain ⟨y, y1, _, y3⟩ := atI_nn (xs := left) r0 r1
    have ep : popAt (prsD left) r = some (y.prD, prsD (left.eraseIdx r.toNat)) := by
      unfold popAt
      rw [prsD_len, y3]
      show (((prsD left)[r.toNat]?).map _) = _
      rw [prs_erase]
      unfold prsD
      rw [List.getElem?_map, y1]
      rfl
    have ll : left.length ≤ 100000 := by omega
    have hlt : r.toNat < left.length := (List.getElem?_eq_some_iff.mp y1).1
    simp [hS4, ep, ll]
    refine ⟨rs ++ [y], left.eraseIdx r.toNat, by simp [prsD], by rw [List.getElem?_set_self (List.getElem?_eq_some_iff.mp hS4).1], d4.setO (by omega) _, (g3.trans g4.wk).set (Nat.le_refl _) _, ?_, by rw [List.length_eraseIdx_of_lt hlt]; omega, fun z hz => hd z (List.mem_cons_of_mem _ hz)⟩
    rw [List.append_assoc]
    refine List.Perm.trans (List.Perm.append_left _ ?_) hp
    have he : left[r.toNat] = y := (List.getElem?_eq_some_iff.mp y1).2
    have := erase_perm left r.toNat hlt
    rw [he] at this
    exact this
  · rintro ys S3 ⟨rs, left, rfl, hS3, d3, g3, hp, _, _⟩
    have pg := hp.length_eq
    rw [List.length_append] at pg
    refine ⟨by rw [prsD_len]; omega, ?_⟩
    have ct : cutD (sD ws) none (some 1) = sD (ws.take 1) := by
      rw [cutD_take _ 1 (by decide)]
      unfold sD
      rw [List.map_take]; rfl
    simp [ct]
    exact q ws rs S3 (by omega) (by omega) hw nw (fun r hr => hall r (hp.mem_iff.mp (List.mem_append_left _ hr))) (by omega)
end Nk12

namespace Nk12
open PySem L2 Gd PyProof.Rows

/-- behind the draws -/
theorem rest_W {pool gs : List Str} {rs : List Rl} {S : Sg} {x0 x1 x2 x3 x6 : Slot} {nx : Ro → Sg → Prop} {rt : D → Sg → Prop} (hp : pool.length ≤ 24) (hr : ∀ r ∈ rs, plR pool r) (l40 : rs.length ≤ 40) (hg : ∀ w ∈ gs, w ∈ pool ∧ isW w) (nd : gs.Nodup) (hl : gs.length ≤ 23)
    (q : ∀ S', rt (.bl true) S') :
    ((s_seq (s_set 7 (e_call m__law_levels (a_cons (e_var 4) (a_cons (e_var 5) a_nil))))
  (s_seq (s_set 8 (e_callK Lb.m_levels (fun ds es => (ds ++ ((es[1]?).toList ++ ((es[0]?).toList ++ [])))) a_nil (a_cons (e_var 5) (a_cons (f_lcG [9, 10] (j_seq true (e_var 4)) (t_tup [(t_name 9), (t_name 10)]) t_yes (e_mkF "Rule" Lb.m_Rule___init__ (fun ds es => (ds ++ ((([.tup []] : List D)[0]?).toList ++ []))) (a_cons (e_var 9) (a_cons (e_var 10) a_nil)) a_nil)) a_nil))))
  (s_seq (s_if (t_or (t_not (t_e (e_op1 (d_isi "dict") (e_var 8)))) (t_or (t_e (e_op2 d_ne5 (e_var 8) (e_var 7))) (t_e (e_op2 d_ne5 (e_cb (d_1 d_list5) (a_cons (e_var 8) a_nil)) (e_cb (d_1 d_sort) (a_cons (e_var 7) a_nil)))))) (s_ret (e_c (.bl false))) s_nx)
  (s_ret (e_op2 d_eq5 (f_lcG [11] (j_vals (e_var 8)) (t_name 11) (t_or (t_e (e_op1 (d_isi "bool") (e_var 11))) (t_not (t_e (e_op1 (d_isi "int") (e_var 11))))) (e_var 11)) (f_lst a_nil))))))
      [x0, x1, x2, x3, .va (.lst (prsD rs)), .va (.lst (sD gs)), x6, .un, .un, .un, .un, .un] S).W nx rt := by
  have ok : ∀ r ∈ rs, r.Ok := fun r h => (hr r h).1
  have hb : baseB rs = true := by
    unfold baseB
    have : (uniq [] (namesR rs)).length ≤ pool.length := pigeon _ _ (uniq_nd _ _ .nil) fun w hw => by
      rcases (uniq_mem _ _ _).mp hw with hw | hw
      · cases hw
      · obtain ⟨r, h1, h2⟩ := List.mem_flatMap.mp hw
        exact (hr r h1).2.2 w h2
    simp; omega
  have ht : (togN rs gs).length ≤ 24 := Nat.le_trans (togN_len (fun r h => (hr r h).2.2) fun w h => (hg w h).1) hp
  refine seq_of fun N hN => ?_
  simp [law_levels_eq ok l40 nd (by omega) (SeqOf.lst (S := S) (ds := prsD rs)) (SeqOf.lst (S := S) (ds := sD gs))]
  refine hN _ _ ?_
  clear hN
  refine seq_of fun N hN => ?_
  rw [W_set, W_callK, W_anil, W_acons, W_var]
  simp only [List.getElem?_cons_succ, List.getElem?_cons_zero]
  rw [W_acons]
  refine W_mapA Rl.prD rs Rl.d ?_
  rw [W_jseq, W_var]
  refine ⟨_, rfl, rfl, fun r h => ⟨_, by simp [Rl.prD, wipeR]; rfl, ?_⟩, by omega, ?_⟩
  · refine mkR_W (ok r h) ?_
    have eu := (hr r h).2.1
    simp [eu, sD]
    exact ⟨SeqOf.tup, SeqOf.tup⟩
  · have el := levels_eq ok hb (fun r h => (hr r h).2.1) (fun w h => (hg w h).2) nd hl ht (SeqOf.lst (S := S) (ds := rlsD rs)) (SeqOf.lst (S := S) (ds := sD gs))
    have er : rs.map Rl.d = rlsD rs := rfl
    rw [er]
    simp [el]
    refine hN _ _ ?_
    clear hN
    have st := roundsR_st (rs := rs) nd
    have ln := st.len.1
    refine seq_of fun N hN => ?_
    have i0 : d_isi "dict" (.dcf (numK (sortN (roundsR rs gs).1))) = some (.bl true) := rfl
    have es := sort_dct (l := (roundsR rs gs).1) (by omega)
    have e1 : d_ne5 (.lst (sD (ksN (sortN (roundsR rs gs).1)))) (.lst (sD (sortS (ksN (roundsR rs gs).1)))) = some (.bl false) := by
      rw [ks_sortN]
      have hw : ∀ w ∈ sortS (ksN (roundsR rs gs).1), PyData.strOk w = true := fun w h => by
        rcases List.mem_append.mp (st.inn w (sortS_mem.mp h)) with k | k
        · exact isW_ok (hg w k).2
        · exact isW_ok (head_W ok w k)
      have := ne5_py (sortS (ksN (roundsR rs gs).1)) (sortS (ksN (roundsR rs gs).1)) hw hw
      rw [decide_eq_true rfl] at this
      exact this
    simp [i0, ne5_sortN, list5_num, es, e1, -ne5_lst]
    refine hN _ _ ?_
    clear hN
    rw [W_ret, W_op2]
    refine W_mapG (fun p : Str × Int => D.int p.2) (sortN (roundsR rs gs).1) (fun _ => false) (fun p => .int p.2) ?_
    have e2 : (numK (sortN (roundsR rs gs).1)).map (·.2) = (sortN (roundsR rs gs).1).map fun p => D.int p.2 := by
      unfold numK
      rw [List.map_map]; rfl
    have b1 : ∀ i : Int, d_isi "bool" (.int i) = some (.bl false) := fun _ => rfl
    have b2 : ∀ i : Int, d_isi "int" (.int i) = some (.bl true) := fun _ => rfl
    have t0 : d_eq5 (.lst []) (.lst []) = some (.bl true) := by
      have := eq5_py ([] : List Str) [] (fun _ h => nomatch h) (fun _ h => nomatch h)
      exact this
    rw [W_jdcf, W_var]
    simp only [List.getElem?_cons_succ, List.getElem?_cons_zero]
    refine ⟨_, rfl, e2, fun p hp => ⟨_, rfl, ?_, fun h => nomatch h⟩, by rw [sortN_len]; omega, ?_⟩
    · simp [wipeR, b1, b2]
    · have ef : (sortN (roundsR rs gs).1).filter (fun _ => false) = [] := List.filter_eq_nil_iff.mpr fun _ _ => by simp
      rw [ef]
      simp [t0, -eq5_lst]
      exact q _
theorem W_asg {m : ME} {tgt : D → Ro → Option Ro} {ρ : Ro} {S : Sg} {nx : Ro → Sg → Prop} {rt : D → Sg → Prop} (h : (m ρ S).W fun d S1 => isLoc d = false ∧ ∃ ρ1, tgt d ρ = some ρ1 ∧ nx ρ1 S1) : (s_asg m tgt ρ S).W nx rt := by
  unfold s_asg
  rw [W_se]
  refine h.mono fun d S1 ⟨h1, ρ1, h2, h3⟩ => ?_
  rw [h1, if_neg Bool.false_ne_true, h2]
  exact h3
theorem kept_like : ∀ w ∈ keptS, likeW w := by
  have : ∀ w ∈ keptS, smallS w ∧ 1 ≤ w.length ∧ w.length ≤ 8 := by decide +kernel
  exact this
theorem kept_nd : keptS.Nodup := by decide +kernel
theorem law_true : ∀ ns : List Int, ns.length ≤ 63 → ∃ S', m_law [.lst (ns.map .int)] [] = .ok (.bl true) S' := by
  intro ns hl
  suffices h : (m_law [.lst (ns.map .int)] []).W fun d _ => d = .bl true by
    obtain ⟨d, S', e, rfl⟩ := h.eq
    exact ⟨S', e⟩
  unfold m_law
  rw [W_fn]
  refine ⟨rfl, ?_⟩
  unfold b_law
  refine seq_of fun N hN => ?_
  simp [List.replicate]
  refine begun_H hl fun n S1 d1 => ?_
  simp
  refine hN _ _ ?_
  clear hN
  refine seq_of fun N hN => ?_
  simp
  refine take_H d1 (by decide) (by decide) fun r S2 d2 g2 r0 r1 => ?_
  simp
  refine hN _ _ ?_
  clear hN
  obtain ⟨ch, ech⟩ : ∃ ch, decide (r = 0) = ch := ⟨_, rfl⟩
  rw [ech]
  refine seq_of fun N hN => ?_
  simp [kept_H]
  refine hN _ _ ?_
  clear hN
  have lt := d2.lt
  have d3 := d2.app [.lst (sD keptS)]
  have hu : (S2 ++ [D.lst (sD keptS)])[S2.length]? = some (.lst (sD keptS)) := getLast
  have nu : n ≠ S2.length := by omega
  refine seq_of fun N hN => ?_
  cases ch with
  | true =>
    simp
    refine W_asg ?_
    simp
    refine chain_H d3 hu nu kept_like (fun w h => h) kept_nd (by decide) fun ws rs S4 l2 l24 hw nd hr lr => ?_
    simp
    refine hN _ _ ?_
    clear hN
    exact rest_W l24 hr (by omega) (fun w h => ⟨List.mem_of_mem_take h, hw w (List.mem_of_mem_take h)⟩) (nd.sublist (List.take_sublist ..)) (by rw [List.length_take]; omega) fun _ => rfl
  | false =>
    simp only [W_if, W_te, W_var, List.getElem?_cons_succ, List.getElem?_cons_zero, W_liftB, Bool.false_eq_true, if_false]
    refine seq_of fun N2 hN2 => ?_
    simp
    refine take_H d3 (by decide) (by decide) fun r S4 d4 g4 r0 r1 => ?_
    have hu4 : S4[S2.length]? = some (.lst (sD keptS)) := by
      rw [g4.at' _ (List.getElem?_eq_some_iff.mp hu).1 (Ne.symm nu) (Ne.symm nu)]; exact hu
    obtain ⟨many, em, m1, m2⟩ : ∃ many : Nat, (1 + r : Int) = (many : Int) ∧ 1 ≤ many ∧ many ≤ 9 := ⟨(1 + r).toNat, by omega, by omega, by omega⟩
    simp [em]
    refine names_H d4 hu4 nu kept_like (fun w h => h) kept_nd (by have : keptS.length = 3 := rfl; omega) fun ws S5 d5 hu5 g5 lw hw nd5 => ?_
    simp
    refine hN2 _ _ ?_
    clear hN2
    have nw := (List.nodup_append.mp nd5).2.1
    refine seq_of fun N2 hN2 => ?_
    simp
    refine pairs_H (most := 12) d5 nw (by omega) (by omega) hw (by decide) fun rs S6 d6 g6 hr lr => ?_
    simp
    refine hN2 _ _ ?_
    clear hN2
    have hu6 : S6[S2.length]? = some (.lst (sD (keptS ++ ws))) := by
      rw [g6.at' _ (List.getElem?_eq_some_iff.mp hu5).1 (Ne.symm nu) (Ne.symm nu)]; exact hu5
    simp
    refine take_H d6 (by decide) (by decide) fun r S7 d7 g7 r0 r1 => ?_
    have hu7 : S7[S2.length]? = some (.lst (sD (keptS ++ ws))) := by
      rw [g7.at' _ (List.getElem?_eq_some_iff.mp hu6).1 (Ne.symm nu) (Ne.symm nu)]; exact hu6
    obtain ⟨more, em, m3⟩ : ∃ more : Nat, (r : Int) = (more : Int) ∧ more ≤ 2 := ⟨r.toNat, by omega, by omega⟩
    subst em
    have l3 : keptS.length = 3 := rfl
    refine ⟨rfl, ?_⟩
    refine names_H (many := more) d7 hu7 nu (fun w h => (List.mem_append.mp h).elim (kept_like w) fun h => (hw w h).like) (fun w h => List.mem_append_left _ h) nd5 (by rw [List.length_append]; omega) fun vs S8 d8 hu8 g8 lv hv nd8 => ?_
    have la : ws.length + vs.length ≤ 100000 := by omega
    have nd9 : (ws ++ vs).Nodup := by
      rw [List.append_assoc] at nd8
      exact (List.nodup_append.mp nd8).2.1
    have eD : sD ws ++ sD vs = sD (ws ++ vs) := List.map_append.symm
    simp [la, eD]
    refine some_H d8 nd9 (by rw [List.length_append]; omega) fun gs S9 d9 g9 ng sg => ?_
    have pg := pigeon _ _ ng sg
    rw [List.length_append] at pg
    have hwv : ∀ w ∈ ws ++ vs, isW w := fun w h => (List.mem_append.mp h).elim (hw w) (hv w)
    simp
    refine hN _ _ ?_
    exact rest_W (pool := ws ++ vs) (by rw [List.length_append]; omega) (fun r h => ⟨(hr r h).1, (hr r h).2.1, fun w h' => List.mem_append_left _ ((hr r h).2.2 w h')⟩) (by omega) (fun w h => ⟨sg w h, hwv w (sg w h)⟩) ng (by omega) fun _ => rfl
end Nk12

namespace Nk12
open PySem L2 Gd PyProof.Rows
def top (i : Nat) : Stmt := PySem.Challenge.pw_groundlots_k12_levels.main.body.getD i (.Pass ⟨0, 0, 0, 0⟩)
abbrev st__law_begun : Stmt := top 29
abbrev st__law_take : Stmt := top 30
abbrev st__law_kept : Stmt := top 31
abbrev st__law_name : Stmt := top 32
abbrev st__law_names : Stmt := top 33
abbrev st__law_chain : Stmt := top 38
abbrev st__law_pair : Stmt := top 34
abbrev st__law_pairs : Stmt := top 35
abbrev st__law_some : Stmt := top 36
abbrev st__law_levels : Stmt := top 37
abbrev st_Rule_names : Stmt := (L2.inClass (top 17) 2)
abbrev st_names_of : Stmt := top 18
abbrev st_is_base : Stmt := top 19
abbrev st_need_base : Stmt := top 20
abbrev st_need_plain : Stmt := top 22
abbrev st_is_name : Stmt := top 10
abbrev st_are_names : Stmt := top 11
abbrev st_need_names : Stmt := top 12
abbrev st_are_together : Stmt := top 21
abbrev st_need_grounds : Stmt := top 24
abbrev st_stands : Stmt := top 25
abbrev st_rounds : Stmt := top 26
abbrev st_levels : Stmt := top 27
abbrev st_Rule___init__ : Stmt := (L2.inClass (top 17) 0)
abbrev st_law : Stmt := top 39
structure Txt (K : Fg) (mg : Mg) where
  A_Rule : Addr
  C_Rule : ClsAt K mg "Rule" A_Rule
  fl_head : ∀ c ∈ (["Rule"] : List Str), FldOk K mg "head" c
  fl_body : ∀ c ∈ (["Rule"] : List Str), FldOk K mg "body" c
  fl_unless : ∀ c ∈ (["Rule"] : List Str), FldOk K mg "unless" c
  is_Rule : IsC K mg A_Rule [("NoneType", false), ("bool", false), ("int", false), ("str", false), ("list", false), ("tuple", false), ("dict", false)] [("Rule", true)]
  f0 : Addr
  d0 : FuncData
  F0 : Fun K "_law_begun" "_law_begun" st__law_begun f0 d0
  g0 : mg "_law_begun" = some (.ref f0)
  b0 : Binds K d0 ["script"] []
  f1 : Addr
  d1 : FuncData
  F1 : Fun K "_law_take" "_law_take" st__law_take f1 d1
  g1 : mg "_law_take" = some (.ref f1)
  b1 : Binds K d1 ["state", "many"] []
  f2 : Addr
  d2 : FuncData
  F2 : Fun K "_law_kept" "_law_kept" st__law_kept f2 d2
  g2 : mg "_law_kept" = some (.ref f2)
  b2 : Binds K d2 [] []
  kg2_0 : List Value → List Value → List Value
  kb2_0 : KBn K d2 [] 0 [] kg2_0 (fun vs zs => (vs ++ []))
  f3 : Addr
  d3 : FuncData
  F3 : Fun K "_law_name" "_law_name" st__law_name f3 d3
  g3 : mg "_law_name" = some (.ref f3)
  b3 : Binds K d3 ["state", "used"] []
  f4 : Addr
  d4 : FuncData
  F4 : Fun K "_law_names" "_law_names" st__law_names f4 d4
  g4 : mg "_law_names" = some (.ref f4)
  b4 : Binds K d4 ["state", "used", "many"] []
  f5 : Addr
  d5 : FuncData
  F5 : Fun K "_law_chain" "_law_chain" st__law_chain f5 d5
  g5 : mg "_law_chain" = some (.ref f5)
  b5 : Binds K d5 ["state", "used"] []
  f6 : Addr
  d6 : FuncData
  F6 : Fun K "_law_pair" "_law_pair" st__law_pair f6 d6
  g6 : mg "_law_pair" = some (.ref f6)
  b6 : Binds K d6 ["state", "names"] []
  f7 : Addr
  d7 : FuncData
  F7 : Fun K "_law_pairs" "_law_pairs" st__law_pairs f7 d7
  g7 : mg "_law_pairs" = some (.ref f7)
  b7 : Binds K d7 ["state", "names", "most"] []
  f8 : Addr
  d8 : FuncData
  F8 : Fun K "_law_some" "_law_some" st__law_some f8 d8
  g8 : mg "_law_some" = some (.ref f8)
  b8 : Binds K d8 ["state", "names"] []
  f9 : Addr
  d9 : FuncData
  F9 : Fun K "_law_levels" "_law_levels" st__law_levels f9 d9
  g9 : mg "_law_levels" = some (.ref f9)
  b9 : Binds K d9 ["pairs", "some"] []
  f10 : Addr
  d10 : FuncData
  F10 : Fun K "names" "Rule.names" st_Rule_names f10 d10
  b10 : Binds K d10 ["self"] []
  m_Rule_names : Meth K A_Rule "names" f10
  f11 : Addr
  d11 : FuncData
  F11 : Fun K "names_of" "names_of" st_names_of f11 d11
  g11 : mg "names_of" = some (.ref f11)
  b11 : Binds K d11 ["rules"] []
  f12 : Addr
  d12 : FuncData
  F12 : Fun K "is_base" "is_base" st_is_base f12 d12
  g12 : mg "is_base" = some (.ref f12)
  b12 : Binds K d12 ["thing"] []
  f13 : Addr
  d13 : FuncData
  F13 : Fun K "need_base" "need_base" st_need_base f13 d13
  g13 : mg "need_base" = some (.ref f13)
  b13 : Binds K d13 ["thing"] []
  f14 : Addr
  d14 : FuncData
  F14 : Fun K "need_plain" "need_plain" st_need_plain f14 d14
  g14 : mg "need_plain" = some (.ref f14)
  b14 : Binds K d14 ["thing"] []
  f15 : Addr
  d15 : FuncData
  F15 : Fun K "is_name" "is_name" st_is_name f15 d15
  g15 : mg "is_name" = some (.ref f15)
  b15 : Binds K d15 ["thing"] []
  f16 : Addr
  d16 : FuncData
  F16 : FunD K "are_names" "are_names" (defArgs st_are_names) (defBody st_are_names) (defScope st_are_names) ([.int 24] : List V) ([] : List (Str × V)) f16 d16
  g16 : mg "are_names" = some (.ref f16)
  b16 : Binds K d16 ["thing", "most"] []
  f17 : Addr
  d17 : FuncData
  F17 : FunD K "need_names" "need_names" (defArgs st_need_names) (defBody st_need_names) (defScope st_need_names) ([] : List V) ([("most", .int 24)] : List (Str × V)) f17 d17
  g17 : mg "need_names" = some (.ref f17)
  kg17_0 : List Value → List Value → List Value
  kb17_0 : KBn K d17 ["thing", "most"] 1 ["most"] kg17_0 (fun vs zs => (vs ++ ((zs[0]?).toList ++ [])))
  f18 : Addr
  d18 : FuncData
  F18 : Fun K "are_together" "are_together" st_are_together f18 d18
  g18 : mg "are_together" = some (.ref f18)
  b18 : Binds K d18 ["rules", "names"] []
  f19 : Addr
  d19 : FuncData
  F19 : FunD K "need_grounds" "need_grounds" (defArgs st_need_grounds) (defBody st_need_grounds) (defScope st_need_grounds) ([] : List V) ([("most", .int 24)] : List (Str × V)) f19 d19
  g19 : mg "need_grounds" = some (.ref f19)
  kg19_0 : List Value → List Value → List Value
  kb19_0 : KBn K d19 ["rules", "grounds", "most"] 2 [] kg19_0 (fun vs zs => (vs ++ ((([.int 24] : List V)[0]?).toList ++ [])))
  f20 : Addr
  d20 : FuncData
  F20 : Fun K "stands" "stands" st_stands f20 d20
  g20 : mg "stands" = some (.ref f20)
  b20 : Binds K d20 ["rule", "names"] []
  f21 : Addr
  d21 : FuncData
  F21 : Fun K "rounds" "rounds" st_rounds f21 d21
  g21 : mg "rounds" = some (.ref f21)
  b21 : Binds K d21 ["rules", "grounds"] []
  f22 : Addr
  d22 : FuncData
  F22 : Fun K "levels" "levels" st_levels f22 d22
  g22 : mg "levels" = some (.ref f22)
  b22 : Binds K d22 ["rules", "grounds"] []
  kg22_0 : List Value → List Value → List Value
  kb22_0 : KBn K d22 ["rules", "grounds"] 0 ["grounds", "rules"] kg22_0 (fun vs zs => (vs ++ ((zs[1]?).toList ++ ((zs[0]?).toList ++ []))))
  E23_0 : Addr
  p23_0 : ∀ G ad, Rep K mg G ad (.ref E23_0) (.tup [])
  E23_unless : Addr
  p23_unless : ∀ G ad, Rep K mg G ad (.ref E23_unless) (.tup [])
  f23 : Addr
  d23 : FuncData
  F23 : FunD K "__init__" "Rule.__init__" (defArgs st_Rule___init__) (defBody st_Rule___init__) (defScope st_Rule___init__) ([.ref E23_0] : List V) ([("unless", .ref E23_unless)] : List (Str × V)) f23 d23
  kg23_0 : List Value → List Value → List Value
  kb23_0 : KBn K d23 ["self", "head", "body", "unless"] 3 [] kg23_0 (fun vs zs => (vs ++ ((([.ref E23_unless] : List V)[0]?).toList ++ [])))
  M_Rule : Mk K A_Rule f23
  f24 : Addr
  d24 : FuncData
  F24 : Fun K "law" "law" st_law f24 d24
  g24 : mg "law" = some (.ref f24)
  b24 : Binds K d24 ["script"] []
  z_len : mg "len" = none
  z_range : mg "range" = none
  z_list : mg "list" = none
  z_min : mg "min" = none
  z_tuple : mg "tuple" = none
  z_dict : mg "dict" = none
  z_isinstance : mg "isinstance" = none
  z_all : mg "all" = none
  z_any : mg "any" = none
  z_str : mg "str" = none
  z_set : mg "set" = none
  z_enumerate : mg "enumerate" = none
  z_sorted : mg "sorted" = none
  z_bool : mg "bool" = none
  z_int : mg "int" = none
  v_MOST_RULES : V
  u_MOST_RULES : Value
  g_MOST_RULES : mg "MOST_RULES" = some u_MOST_RULES
  r_MOST_RULES : RelV v_MOST_RULES u_MOST_RULES
  p_MOST_RULES : ∀ G ad, Rep K mg G ad v_MOST_RULES (.int 40)
  v_MOST_NAMES : V
  u_MOST_NAMES : Value
  g_MOST_NAMES : mg "MOST_NAMES" = some u_MOST_NAMES
  r_MOST_NAMES : RelV v_MOST_NAMES u_MOST_NAMES
  p_MOST_NAMES : ∀ G ad, Rep K mg G ad v_MOST_NAMES (.int 24)
  v_LONGEST : V
  u_LONGEST : Value
  g_LONGEST : mg "LONGEST" = some u_LONGEST
  r_LONGEST : RelV v_LONGEST u_LONGEST
  p_LONGEST : ∀ G ad, Rep K mg G ad v_LONGEST (.int 8)
  v_KEPT : V
  u_KEPT : Value
  g_KEPT : mg "KEPT" = some u_KEPT
  r_KEPT : RelV v_KEPT u_KEPT
  p_KEPT : ∀ G ad, Rep K mg G ad v_KEPT (.tup [(.str "not"), (.str "never"), (.str "may")])
  v_MOST_BODY : V
  u_MOST_BODY : Value
  g_MOST_BODY : mg "MOST_BODY" = some u_MOST_BODY
  r_MOST_BODY : RelV v_MOST_BODY u_MOST_BODY
  p_MOST_BODY : ∀ G ad, Rep K mg G ad v_MOST_BODY (.int 6)
  v_MOST_UNLESS : V
  u_MOST_UNLESS : Value
  g_MOST_UNLESS : mg "MOST_UNLESS" = some u_MOST_UNLESS
  r_MOST_UNLESS : RelV v_MOST_UNLESS u_MOST_UNLESS
  p_MOST_UNLESS : ∀ G ad, Rep K mg G ad v_MOST_UNLESS (.int 4)
section
variable {K : Fg} {mg : Mg} {base : Heap}
theorem sc__law_begun : FnScope ["script"] ["script"] (defScope st__law_begun) := ⟨rfl, rfl, rfl, by decide +kernel, rfl, by decide +kernel, by decide +kernel⟩
theorem ok__law_begun (T : Txt K mg) : FnOk K.P K.w K.F mg base (L2.CX K.P K.w) 1 T.f0 T.d0 ["script"] (SpM K mg 1 Lb.m__law_begun_1) :=
  def_ok' (k := 0) T.F0 sc__law_begun fun cdv A outer s H E hr =>
    (S_one (S_ret (E_sh (F_disp (l := [((e_c (.str "cells")), (e_var 0)), ((e_c (.str "at")), (e_c (.int 0))), ((e_c (.str "rest")), (e_c (.int 0))), ((e_c (.str "turn")), (e_c (.int 0))), ((e_c (.str "more")), (e_c (.int 17)))]) (P_cons E_str (E_var (pv 0)) (P_cons E_str E_int (P_cons E_str E_int (P_cons E_str E_int (P_cons E_str E_int P_nil))))) rfl rfl (fun z => by cases z) (by decide)))))
theorem sc__law_take : FnScope ["state", "many", "cells", "found", "cell"] ["state", "many"] (defScope st__law_take) := ⟨rfl, rfl, rfl, by decide +kernel, rfl, by decide +kernel, by decide +kernel⟩
theorem ok__law_take (T : Txt K mg) : FnOk K.P K.w K.F mg base (L2.CX K.P K.w) 1 T.f1 T.d1 ["state", "many"] (SpM K mg 2 Lb.m__law_take_1) :=
  def_ok' (k := 0) T.F1 sc__law_take fun cdv A outer s H E hr =>
    (S_cons (S_set (i := 2) sc__law_take.nd rfl (Or.inl rfl) (E_index5 (roomI hr) (E_var (pv 0)) E_str (fun _ _ => rfl)))
    (S_cons (S_while 100000 (passes_of rfl) (PW.pt (W_and (T_cmp or_lt of_lt (nomark _) (E_index5 (roomI hr) (E_var (pv 0)) E_str (fun _ _ => rfl)) E_int) (pw_and1 (T_cmp or_lt of_lt (nomark _) (E_index5 (roomI hr) (E_var (pv 0)) E_str (fun _ _ => rfl)) (E_cb cr_len5 cp_len5 rfl T.z_len (by decide +kernel) (A_cons (E_var (pv 2)) A_nil)))))) (S_cons (S_if (T_cmp op_ge op_intB (nomark _) (E_index5 (roomI hr) (E_var (pv 2)) (E_index5 (roomI hr) (E_var (pv 0)) E_str (fun _ _ => rfl)) (fun _ _ => rfl)) (E_pow E_int E_int)) (S_one (S_seti (hu_of hr) (E_var (pv 0)) E_str (E_index5 (roomI hr) (E_var (pv 2)) (E_index5 (roomI hr) (E_var (pv 0)) E_str (fun _ _ => rfl)) (fun _ _ => rfl)))) S_nil)
    (S_one (S_seti (hu_of hr) (E_var (pv 0)) E_str (E_add4 (E_index5 (roomI hr) (E_var (pv 0)) E_str (fun _ _ => rfl)) E_int)))))
    (S_cons (S_if (T_cmp op_gt op_intB (nomark _) (E_index5 (roomI hr) (E_var (pv 0)) E_str (fun _ _ => rfl)) E_int) (S_cons (S_set (i := 3) sc__law_take.nd rfl (Or.inl rfl) (E_mod (E_index5 (roomI hr) (E_var (pv 0)) E_str (fun _ _ => rfl)) (E_var (pv 1))))
    (S_cons (S_seti (hu_of hr) (E_var (pv 0)) E_str (E_fdiv (E_index5 (roomI hr) (E_var (pv 0)) E_str (fun _ _ => rfl)) (E_var (pv 1))))
    (S_one (S_ret (E_var (pv 3)))))) S_nil)
    (S_cons (S_set (i := 4) sc__law_take.nd rfl (Or.inl rfl) E_int)
    (S_cons (S_if (T_cmp op_gt op_intB (nomark _) (E_cb cr_len5 cp_len5 rfl T.z_len (by decide +kernel) (A_cons (E_var (pv 2)) A_nil)) E_int) (S_one (S_set (i := 4) sc__law_take.nd rfl (Or.inl rfl) (E_index5 (roomI hr) (E_var (pv 2)) (E_mod (E_index5 (roomI hr) (E_var (pv 0)) E_str (fun _ _ => rfl)) (E_cb cr_len5 cp_len5 rfl T.z_len (by decide +kernel) (A_cons (E_var (pv 2)) A_nil))) (fun _ _ => rfl)))) S_nil)
    (S_cons (S_seti (hu_of hr) (E_var (pv 0)) E_str (E_add4 (E_index5 (roomI hr) (E_var (pv 0)) E_str (fun _ _ => rfl)) E_int))
    (S_cons (S_seti (hu_of hr) (E_var (pv 0)) E_str (E_mod (E_add4 (E_add4 (E_mul (E_index5 (roomI hr) (E_var (pv 0)) E_str (fun _ _ => rfl)) E_int) (E_var (pv 4))) (E_index5 (roomI hr) (E_var (pv 0)) E_str (fun _ _ => rfl))) E_int))
    (S_one (S_ret (E_mod (E_mod (E_add4 (E_mul (E_index5 (roomI hr) (E_var (pv 0)) E_str (fun _ _ => rfl)) (E_index5 (roomI hr) (E_var (pv 0)) E_str (fun _ _ => rfl))) (E_mul E_int (E_index5 (roomI hr) (E_var (pv 0)) E_str (fun _ _ => rfl)))) E_int) (E_var (pv 1))))))))))))
theorem sc__law_kept : FnScope [] [] (defScope st__law_kept) := ⟨rfl, rfl, rfl, by decide +kernel, rfl, by decide +kernel, by decide +kernel⟩
theorem ok__law_kept (T : Txt K mg) : FnOk K.P K.w K.F mg base (L2.CX K.P K.w) 1 T.f2 T.d2 [] (SpM K mg 0 Lb.m__law_kept) :=
  def_ok' (k := 0) T.F2 sc__law_kept fun cdv A outer s H E hr =>
    (S_one (S_ret (E_sh (F_lst (A_cons E_str (A_cons E_str (A_cons E_str A_nil)))))))
theorem sc__law_name : FnScope ["state", "used", "letters", "own", "way", "word", "at", "k", "some", "one"] ["state", "used"] (defScope st__law_name) := ⟨rfl, rfl, rfl, by decide +kernel, rfl, by decide +kernel, by decide +kernel⟩
theorem ok__law_name (T : Txt K mg) : FnOk K.P K.w K.F mg base (L2.CX K.P K.w) 2 T.f3 T.d3 ["state", "used"] (SpM K mg 2 Lb.m__law_name) :=
  def_ok' (k := 1) T.F3 sc__law_name fun cdv A outer s H E hr =>
    (S_cons (S_set (i := 2) sc__law_name.nd rfl (Or.inr rfl) E_str)
    (S_cons (S_set (i := 3) sc__law_name.nd rfl (Or.inl rfl) (E_fz (F_lst (A_cons E_str (A_cons E_str (A_cons E_str (A_cons E_str (A_cons E_str (A_cons E_str (A_cons E_str (A_cons E_str (A_cons E_str (A_cons E_str (A_cons E_str (A_cons E_str (A_cons E_str (A_cons E_str A_nil)))))))))))))))))
    (S_cons (S_set (i := 3) sc__law_name.nd rfl (Or.inl rfl) (E_add4 (E_var (pv 3)) (E_fz (F_lst (A_cons E_str (A_cons E_str (A_cons E_str (A_cons E_str (A_cons E_str (A_cons E_str (A_cons E_str (A_cons E_str (A_cons E_str (A_cons E_str (A_cons E_str (A_cons E_str A_nil))))))))))))))))
    (S_cons (S_set (i := 4) sc__law_name.nd rfl (Or.inl rfl) (E_call (ok__law_take T) (hr.mono (by decide)) rfl T.g1 T.F1.kp T.b1 (takes_of rfl rfl rfl rfl) (A_cons (E_var (pv 0)) (A_cons E_int A_nil))))
    (S_cons (S_set (i := 5) sc__law_name.nd rfl (Or.inr rfl) (E_index5 (roomI hr) (E_var (pv 2)) (E_call (ok__law_take T) (hr.mono (by decide)) rfl T.g1 T.F1.kp T.b1 (takes_of rfl rfl rfl rfl) (A_cons (E_var (pv 0)) (A_cons E_int A_nil))) (fun _ _ => rfl)))
    (S_cons (S_if (T_cmp (or_eq5 (roomU hr)) op_dEq5 (nomark _) (E_var (pv 4)) E_int) (S_one (S_set (i := 5) sc__law_name.nd rfl (Or.inr rfl) (E_index5 (roomI hr) (E_var (pv 3)) (E_call (ok__law_take T) (hr.mono (by decide)) rfl T.g1 T.F1.kp T.b1 (takes_of rfl rfl rfl rfl) (A_cons (E_var (pv 0)) (A_cons (E_cb cr_len5 cp_len5 rfl T.z_len (by decide +kernel) (A_cons (E_var (pv 3)) A_nil)) A_nil))) (fun _ _ => rfl)))) (S_one (S_if (T_cmp (or_eq5 (roomU hr)) op_dEq5 (nomark _) (E_var (pv 4)) E_int) (S_cons (S_set (i := 5) sc__law_name.nd rfl (Or.inr rfl) (E_index5 (roomI hr) (E_var (pv 1)) (E_call (ok__law_take T) (hr.mono (by decide)) rfl T.g1 T.F1.kp T.b1 (takes_of rfl rfl rfl rfl) (A_cons (E_var (pv 0)) (A_cons (E_cb cr_len5 cp_len5 rfl T.z_len (by decide +kernel) (A_cons (E_var (pv 1)) A_nil)) A_nil))) (fun _ _ => rfl)))
    (S_cons (S_set (i := 6) sc__law_name.nd rfl (Or.inl rfl) (E_call (ok__law_take T) (hr.mono (by decide)) rfl T.g1 T.F1.kp T.b1 (takes_of rfl rfl rfl rfl) (A_cons (E_var (pv 0)) (A_cons (E_cb cr_len5 cp_len5 rfl T.z_len (by decide +kernel) (A_cons (E_var (pv 5)) A_nil)) A_nil))))
    (S_one (S_set (i := 5) sc__law_name.nd rfl (Or.inr rfl) (E_add4 (E_add4 (E_slice3 (E_var (pv 5)) O_no (O_e (E_var (pv 6)))) (E_index5 (roomI hr) (E_var (pv 2)) (E_call (ok__law_take T) (hr.mono (by decide)) rfl T.g1 T.F1.kp T.b1 (takes_of rfl rfl rfl rfl) (A_cons (E_var (pv 0)) (A_cons E_int A_nil))) (fun _ _ => rfl))) (E_slice3 (E_var (pv 5)) (O_e (E_add4 (E_var (pv 6)) (E_call (ok__law_take T) (hr.mono (by decide)) rfl T.g1 T.F1.kp T.b1 (takes_of rfl rfl rfl rfl) (A_cons (E_var (pv 0)) (A_cons E_int A_nil))))) O_no)))))) (S_one (S_forG (passes_of rfl) rfl (J_rng1 rfl T.z_range (E_call (ok__law_take T) (hr.mono (by decide)) rfl T.g1 T.F1.kp T.b1 (takes_of rfl rfl rfl rfl) (A_cons (E_var (pv 0)) (A_cons E_int A_nil)))) (pg_name (i := 7) sc__law_name.nd rfl (Or.inl rfl)) (tg_name (i := 7)) (S_one (S_set (i := 5) sc__law_name.nd rfl (Or.inr rfl) (E_add4 (E_var (pv 5)) (E_index5 (roomI hr) (E_var (pv 2)) (E_call (ok__law_take T) (hr.mono (by decide)) rfl T.g1 T.F1.kp T.b1 (takes_of rfl rfl rfl rfl) (A_cons (E_var (pv 0)) (A_cons E_int A_nil))) (fun _ _ => rfl))))))))))
    (S_cons (S_if (PW.pt (W_or (T_cmp (or_in5 (roomI hr)) op_dIn5 (by rfl) (E_var (pv 5)) (E_var (pv 1))) (pw_or1 (T_cmp op_gt op_intB (nomark _) (E_cb cr_len5 cp_len5 rfl T.z_len (by decide +kernel) (A_cons (E_var (pv 5)) A_nil)) E_int)))) (S_cons (S_lcG (own := [("k", 7)]) (h_set (i := 8)) rfl sc__law_name.nd rfl rfl (sw_true rfl rfl rfl (by decide +kernel)) (J_rng1 rfl T.z_range (E_add4 (E_cb cr_len5 cp_len5 rfl T.z_len (by decide +kernel) (A_cons (E_var (pv 1)) A_nil)) E_int)) (blkOk_by (own := [("k", 7)]) rfl) (tg_name (i := 7)) (fun _ _ _ _ _ => pg_name (i := 7) sc__law_name.nd rfl (Or.inl rfl)) (fun _ _ _ _ _ => Ts_nil) (fun _ _ _ _ _ => (E_add4 (E_add4 (E_slice3 (E_var (pv 5)) O_no (O_e E_int)) (E_index5 (roomI hr) (E_var (pv 2)) (E_fdiv (E_var (pv 7)) E_int) (fun _ _ => rfl))) (E_index5 (roomI hr) (E_var (pv 2)) (E_mod (E_var (pv 7)) E_int) (fun _ _ => rfl)))))
    (S_one (S_set (i := 5) sc__law_name.nd rfl (Or.inr rfl) (E_index5 (roomI hr) (E_fz (F_lcG (own := [("one", 9)]) rfl sc__law_name.nd (J_seq rel_stp (E_var (pv 8))) (blkOk_by (own := [("one", 9)]) rfl) (tg_name (i := 9)) (fun _ _ _ _ _ => pg_name (i := 9) sc__law_name.nd rfl (Or.inl rfl)) (fun _ _ _ _ _ => (Ts_one (T_cmp (or_nin5 (roomI hr)) op_dIn5 (by rfl) (E_var (pv 9)) (E_var (pv 1))))) (fun _ _ _ _ _ => (E_var (pv 9))))) E_int (fun _ _ => rfl))))) S_nil)
    (S_cons (S_app (E_var (pv 1)) (E_var (pv 5)))
    (S_one (S_ret (E_var (pv 5))))))))))))
theorem sc__law_names : FnScope ["state", "used", "many", "k"] ["state", "used", "many"] (defScope st__law_names) := ⟨rfl, rfl, rfl, by decide +kernel, rfl, by decide +kernel, by decide +kernel⟩
theorem ok__law_names (T : Txt K mg) : FnOk K.P K.w K.F mg base (L2.CX K.P K.w) 3 T.f4 T.d4 ["state", "used", "many"] (SpM K mg 3 Lb.m__law_names_1) :=
  def_ok' (k := 2) T.F4 sc__law_names fun cdv A outer s H E hr =>
    (S_one (S_ret (E_fz (F_lcG (own := [("k", 3)]) rfl sc__law_names.nd (J_rng1 rfl T.z_range (E_var (pv 2))) (blkOk_by (own := [("k", 3)]) rfl) (tg_name (i := 3)) (fun _ _ _ _ _ => pg_name (i := 3) sc__law_names.nd rfl (Or.inl rfl)) (fun _ _ _ _ _ => Ts_nil) (fun _ _ _ _ _ => (E_call (ok__law_name T) (hr.mono (by decide)) rfl T.g3 T.F3.kp T.b3 takes0 (A_cons (E_var (pv 0)) (A_cons (E_var (pv 1)) A_nil))))))))
theorem sc__law_chain : FnScope ["state", "used", "words", "left", "k"] ["state", "used"] (defScope st__law_chain) := ⟨rfl, rfl, rfl, by decide +kernel, rfl, by decide +kernel, by decide +kernel⟩
theorem ok__law_chain (T : Txt K mg) : FnOk K.P K.w K.F mg base (L2.CX K.P K.w) 4 T.f5 T.d5 ["state", "used"] (SpM K mg 2 m__law_chain) :=
  def_ok' (k := 3) T.F5 sc__law_chain fun cdv A outer s H E hr =>
    (S_cons (S_set (i := 2) sc__law_chain.nd rfl (Or.inr rfl) (E_call (ok__law_names T) (hr.mono (by decide)) rfl T.g4 T.F4.kp T.b4 (takes_of rfl rfl rfl rfl) (A_cons (E_var (pv 0)) (A_cons (E_var (pv 1)) (A_cons (E_add4 E_int (E_call (ok__law_take T) (hr.mono (by decide)) rfl T.g1 T.F1.kp T.b1 (takes_of rfl rfl rfl rfl) (A_cons (E_var (pv 0)) (A_cons E_int A_nil)))) A_nil)))))
    (S_cons (S_set (i := 3) sc__law_chain.nd rfl (Or.inr rfl) (E_sh (F_lcG (own := [("k", 4)]) rfl sc__law_chain.nd (J_rng2 rfl T.z_range E_int (E_cb cr_len5 cp_len5 rfl T.z_len (by decide +kernel) (A_cons (E_var (pv 2)) A_nil))) (blkOk_by (own := [("k", 4)]) rfl) (tg_name (i := 4)) (fun _ _ _ _ _ => pg_name (i := 4) sc__law_chain.nd rfl (Or.inl rfl)) (fun _ _ _ _ _ => Ts_nil) (fun _ _ _ _ _ => (E_tup (A_cons (E_index5 (roomI hr) (E_var (pv 2)) (E_var (pv 4)) (fun _ _ => rfl)) (A_cons (E_tup (A_cons (E_index5 (roomI hr) (E_var (pv 2)) (E_sub (E_var (pv 4)) E_int) (fun _ _ => rfl)) A_nil)) A_nil)))))))
    (S_one (S_ret (E_tup (A_cons (E_fz (F_lcG (own := [("k", 4)]) rfl sc__law_chain.nd (J_rng1 rfl T.z_range (E_cb cr_len5 cp_len5 rfl T.z_len (by decide +kernel) (A_cons (E_var (pv 3)) A_nil))) (blkOk_by (own := [("k", 4)]) rfl) (tg_name (i := 4)) (fun _ _ _ _ _ => pg_name (i := 4) sc__law_chain.nd rfl (Or.inl rfl)) (fun _ _ _ _ _ => Ts_nil) (fun _ _ _ _ _ => (E_pop (E_var (pv 3)) (E_call (ok__law_take T) (hr.mono (by decide)) rfl T.g1 T.F1.kp T.b1 takes0 (A_cons (E_var (pv 0)) (A_cons (E_cb cr_len5 cp_len5 rfl T.z_len (by decide +kernel) (A_cons (E_var (pv 3)) A_nil)) A_nil))))))) (A_cons (E_slice3 (E_var (pv 2)) O_no (O_e E_int)) A_nil)))))))
theorem sc__law_pair : FnScope ["state", "names", "size", "left", "body", "k"] ["state", "names"] (defScope st__law_pair) := ⟨rfl, rfl, rfl, by decide +kernel, rfl, by decide +kernel, by decide +kernel⟩
theorem ok__law_pair (T : Txt K mg) : FnOk K.P K.w K.F mg base (L2.CX K.P K.w) 2 T.f6 T.d6 ["state", "names"] (SpM K mg 2 Lb.m__law_pair) :=
  def_ok' (k := 1) T.F6 sc__law_pair fun cdv A outer s H E hr =>
    (S_cons (S_set (i := 2) sc__law_pair.nd rfl (Or.inl rfl) (E_index5 (roomI hr) (E_fz (F_lst (A_cons E_int (A_cons E_int (A_cons E_int (A_cons E_int (A_cons E_int (A_cons E_int (A_cons E_int (A_cons (E_call (ok__law_take T) (hr.mono (by decide)) rfl T.g1 T.F1.kp T.b1 (takes_of rfl rfl rfl rfl) (A_cons (E_var (pv 0)) (A_cons E_int A_nil))) A_nil)))))))))) (E_call (ok__law_take T) (hr.mono (by decide)) rfl T.g1 T.F1.kp T.b1 (takes_of rfl rfl rfl rfl) (A_cons (E_var (pv 0)) (A_cons E_int A_nil))) (fun _ _ => rfl)))
    (S_cons (S_set (i := 3) sc__law_pair.nd rfl (Or.inl rfl) (E_sh (F_ct cr_list cpf_list rfl T.z_list (by decide +kernel) (A_cons (E_var (pv 1)) A_nil))))
    (S_cons (S_own (i := 4) sc__law_pair.nd rfl (Or.inl rfl) (F_lst A_nil))
    (S_cons (S_forG (passes_of rfl) rfl (J_rng1 rfl T.z_range (E_cb (call_min2 rfl) cp_min rfl T.z_min (by decide +kernel) (A_cons (E_var (pv 2)) (A_cons (E_cb cr_len5 cp_len5 rfl T.z_len (by decide +kernel) (A_cons (E_var (pv 3)) A_nil)) A_nil)))) (pg_name (i := 5) sc__law_pair.nd rfl (Or.inl rfl)) (tg_name (i := 5)) (S_one (S_app (E_var (pv 4)) (E_pop (E_var (pv 3)) (E_call (ok__law_take T) (hr.mono (by decide)) rfl T.g1 T.F1.kp T.b1 (takes_of rfl rfl rfl rfl) (A_cons (E_var (pv 0)) (A_cons (E_cb cr_len5 cp_len5 rfl T.z_len (by decide +kernel) (A_cons (E_var (pv 3)) A_nil)) A_nil)))))))
    (S_cons (S_if (T_cmp (or_eq5 (roomU hr)) op_dEq5 (nomark _) (E_call (ok__law_take T) (hr.mono (by decide)) rfl T.g1 T.F1.kp T.b1 (takes_of rfl rfl rfl rfl) (A_cons (E_var (pv 0)) (A_cons E_int A_nil))) E_int) (S_one (S_ret (E_tup (A_cons E_non (A_cons (E_ct cr_tuple cp_tuple rfl T.z_tuple (by decide +kernel) (A_cons (E_var (pv 4)) A_nil)) A_nil))))) S_nil)
    (S_one (S_ret (E_tup (A_cons (E_index5 (roomI hr) (E_var (pv 1)) (E_call (ok__law_take T) (hr.mono (by decide)) rfl T.g1 T.F1.kp T.b1 (takes_of rfl rfl rfl rfl) (A_cons (E_var (pv 0)) (A_cons (E_cb cr_len5 cp_len5 rfl T.z_len (by decide +kernel) (A_cons (E_var (pv 1)) A_nil)) A_nil))) (fun _ _ => rfl)) (A_cons (E_ct cr_tuple cp_tuple rfl T.z_tuple (by decide +kernel) (A_cons (E_var (pv 4)) A_nil)) A_nil))))))))))
theorem sc__law_pairs : FnScope ["state", "names", "most", "k"] ["state", "names", "most"] (defScope st__law_pairs) := ⟨rfl, rfl, rfl, by decide +kernel, rfl, by decide +kernel, by decide +kernel⟩
theorem ok__law_pairs (T : Txt K mg) : FnOk K.P K.w K.F mg base (L2.CX K.P K.w) 3 T.f7 T.d7 ["state", "names", "most"] (SpM K mg 3 Lb.m__law_pairs) :=
  def_ok' (k := 2) T.F7 sc__law_pairs fun cdv A outer s H E hr =>
    (S_one (S_ret (E_fz (F_lcG (own := [("k", 3)]) rfl sc__law_pairs.nd (J_rng1 rfl T.z_range (E_call (ok__law_take T) (hr.mono (by decide)) rfl T.g1 T.F1.kp T.b1 (takes_of rfl rfl rfl rfl) (A_cons (E_var (pv 0)) (A_cons (E_add4 (E_var (pv 2)) E_int) A_nil)))) (blkOk_by (own := [("k", 3)]) rfl) (tg_name (i := 3)) (fun _ _ _ _ _ => pg_name (i := 3) sc__law_pairs.nd rfl (Or.inl rfl)) (fun _ _ _ _ _ => Ts_nil) (fun _ _ _ _ _ => (E_call (ok__law_pair T) (hr.mono (by decide)) rfl T.g6 T.F6.kp T.b6 takes0 (A_cons (E_var (pv 0)) (A_cons (E_var (pv 1)) A_nil))))))))
theorem sc__law_some : FnScope ["state", "names", "left", "k"] ["state", "names"] (defScope st__law_some) := ⟨rfl, rfl, rfl, by decide +kernel, rfl, by decide +kernel, by decide +kernel⟩
theorem ok__law_some (T : Txt K mg) : FnOk K.P K.w K.F mg base (L2.CX K.P K.w) 2 T.f8 T.d8 ["state", "names"] (SpM K mg 2 Lb.m__law_some_1) :=
  def_ok' (k := 1) T.F8 sc__law_some fun cdv A outer s H E hr =>
    (S_cons (S_set (i := 2) sc__law_some.nd rfl (Or.inr rfl) (E_sh (F_ct cr_list cpf_list rfl T.z_list (by decide +kernel) (A_cons (E_var (pv 1)) A_nil))))
    (S_one (S_ret (E_fz (F_lcG (own := [("k", 3)]) rfl sc__law_some.nd (J_rng1 rfl T.z_range (E_call (ok__law_take T) (hr.mono (by decide)) rfl T.g1 T.F1.kp T.b1 (takes_of rfl rfl rfl rfl) (A_cons (E_var (pv 0)) (A_cons (E_add4 (E_cb cr_len5 cp_len5 rfl T.z_len (by decide +kernel) (A_cons (E_var (pv 2)) A_nil)) E_int) A_nil)))) (blkOk_by (own := [("k", 3)]) rfl) (tg_name (i := 3)) (fun _ _ _ _ _ => pg_name (i := 3) sc__law_some.nd rfl (Or.inl rfl)) (fun _ _ _ _ _ => Ts_nil) (fun _ _ _ _ _ => (E_pop (E_var (pv 2)) (E_call (ok__law_take T) (hr.mono (by decide)) rfl T.g1 T.F1.kp T.b1 takes0 (A_cons (E_var (pv 0)) (A_cons (E_cb cr_len5 cp_len5 rfl T.z_len (by decide +kernel) (A_cons (E_var (pv 2)) A_nil)) A_nil))))))))))
theorem sc__law_levels : FnScope ["pairs", "some", "name", "found", "turn", "fresh", "head", "body", "one"] ["pairs", "some"] (defScope st__law_levels) := ⟨rfl, rfl, rfl, by decide +kernel, rfl, by decide +kernel, by decide +kernel⟩
theorem ok__law_levels (T : Txt K mg) : FnOk K.P K.w K.F mg base (L2.CX K.P K.w) 1 T.f9 T.d9 ["pairs", "some"] (SpM K mg 2 m__law_levels) :=
  def_ok' (k := 0) T.F9 sc__law_levels fun cdv A outer s H E hr =>
    (S_cons (S_own (i := 3) sc__law_levels.nd rfl (Or.inr rfl) (F_ct (cr_dict rfl) cpf_dict rfl T.z_dict (by decide +kernel) (A_cons (E_fz (F_lcG (own := [("name", 2)]) rfl sc__law_levels.nd (J_seq rel_stp (E_var (pv 1))) (blkOk_by (own := [("name", 2)]) rfl) (tg_name (i := 2)) (fun _ _ _ _ _ => pg_name (i := 2) sc__law_levels.nd rfl (Or.inl rfl)) (fun _ _ _ _ _ => Ts_nil) (fun _ _ _ _ _ => (E_tup (A_cons (E_var (pv 2)) (A_cons E_int A_nil)))))) A_nil)))
    (S_cons (S_set (i := 4) sc__law_levels.nd rfl (Or.inl rfl) E_int)
    (S_cons (S_own (i := 5) sc__law_levels.nd rfl (Or.inl rfl) (F_lst (A_cons E_non A_nil)))
    (S_cons (S_while 100000 (passes_of rfl) (T_cmp (or_ne5 (roomU hr)) op_dNe5 (nomark _) (E_var (pv 5)) (E_fz (F_lst A_nil))) (S_cons (S_set (i := 4) sc__law_levels.nd rfl (Or.inl rfl) (E_add4 (E_var (pv 4)) E_int))
    (S_cons (S_own (i := 5) sc__law_levels.nd rfl (Or.inl rfl) (F_lst A_nil))
    (S_cons (S_forG (passes_of rfl) rfl (J_seq rel_grow (E_var (pv 0))) (pg_tup rfl (pgs_cons (pg_name (i := 6) sc__law_levels.nd rfl (Or.inl rfl)) (pgs_cons (pg_name (i := 7) sc__law_levels.nd rfl (Or.inl rfl)) pgs_nil))) (tg_tup (tgs_cons (tg_name (i := 6)) (tgs_cons (tg_name (i := 7)) tgs_nil)) rfl) (S_one (S_if (PW.pt (W_and (T_cmp op_notN of_notN (nomark _) (E_var (pv 6)) E_non) (W_and (T_cmp (or_nin5 (roomI hr)) op_dIn5 (by rfl) (E_var (pv 6)) (E_var (pv 3))) (pw_and1 (T_cmp (or_eq5 (roomU hr)) op_dEq5 (nomark _) (E_fz (F_lcG (own := [("one", 8)]) rfl sc__law_levels.nd (J_seq rel_stp (E_var (pv 7))) (blkOk_by (own := [("one", 8)]) rfl) (tg_name (i := 8)) (fun _ _ _ _ _ => pg_name (i := 8) sc__law_levels.nd rfl (Or.inl rfl)) (fun _ _ _ _ _ => (Ts_one (T_cmp (or_nin5 (roomI hr)) op_dIn5 (by rfl) (E_var (pv 8)) (E_var (pv 3))))) (fun _ _ _ _ _ => (E_var (pv 8))))) (E_fz (F_lst A_nil))))))) (S_one (S_app (E_var (pv 5)) (E_var (pv 6)))) S_nil)))
    (S_one (S_frz (i := 5) (S_forG (passes_of rfl) rfl (J_seq rel_grow (E_var (pv 5))) (pg_name (i := 2) sc__law_levels.nd rfl (Or.inl rfl)) (tg_name (i := 2)) (S_one (S_seti (hu_of hr) (E_var (pv 3)) (E_var (pv 2)) (E_var (pv 4)))))))))))
    (S_one (S_ret (E_var (pv 3))))))))
theorem sc_Rule_names : FnScope ["self", "head"] ["self"] (defScope st_Rule_names) := ⟨rfl, rfl, rfl, by decide +kernel, rfl, by decide +kernel, by decide +kernel⟩
theorem ok_Rule_names (T : Txt K mg) : FnOk K.P K.w K.F mg base (L2.CX K.P K.w) 1 T.f10 T.d10 ["self"] (SpM K mg 1 Lb.m_Rule_names) :=
  def_ok' (k := 0) T.F10 sc_Rule_names fun cdv A outer s H E hr =>
    (S_cons (S_set (i := 1) sc_Rule_names.nd rfl (Or.inl rfl) (E_if (T_cmp op_isN of_isN (nomark _) (E_fld T.fl_head (E_var (pv 0))) E_non) (E_fz (F_lst A_nil)) (E_fz (F_lst (A_cons (E_fld T.fl_head (E_var (pv 0))) A_nil)))))
    (S_one (S_ret (E_add4 (E_var (pv 1)) (E_fz (F_ct cr_list cpf_list rfl T.z_list (by decide +kernel) (A_cons (E_add4 (E_fld T.fl_body (E_var (pv 0))) (E_fld T.fl_unless (E_var (pv 0)))) A_nil)))))))
theorem sc_names_of : FnScope ["rules", "rule", "name"] ["rules"] (defScope st_names_of) := ⟨rfl, rfl, rfl, by decide +kernel, rfl, by decide +kernel, by decide +kernel⟩
theorem ok_names_of (T : Txt K mg) : FnOk K.P K.w K.F mg base (L2.CX K.P K.w) 2 T.f11 T.d11 ["rules"] (SpM K mg 1 Lb.m_names_of) :=
  def_ok' (k := 1) T.F11 sc_names_of fun cdv A outer s H E hr =>
    (S_one (S_ret (E_fz (F_dc2 (own := [("rule", 1), ("name", 2)]) (vs1 := [2]) rfl sc_names_of.nd (J_seq rel_stp (E_var (pv 0))) (blkOk_by (own := [("rule", 1), ("name", 2)]) rfl) (by decide) (tg_sub (tg_name (i := 1)) (by decide)) (tg_name (i := 2)) (fun _ _ _ _ _ => pg_name (i := 1) sc_names_of.nd rfl (Or.inl rfl)) (fun _ _ _ _ _ => Ts_nil) (fun _ _ _ _ _ => (J_seq rel_grow (E_meth0 T.C_Rule T.m_Rule_names (ok_Rule_names T) (hr.mono (by decide)) T.b10 takes0 (E_var (pv 1))))) (fun _ _ _ _ _ => pg_name (i := 2) sc_names_of.nd rfl (Or.inl rfl)) (fun _ _ _ _ _ => Ts_nil) (fun _ _ _ _ _ => (E_var (pv 2))) (fun _ _ _ _ _ => E_bl)))))
theorem sc_is_base : FnScope ["thing", "rule"] ["thing"] (defScope st_is_base) := ⟨rfl, rfl, rfl, by decide +kernel, rfl, by decide +kernel, by decide +kernel⟩
theorem ok_is_base (T : Txt K mg) : FnOk K.P K.w K.F mg base (L2.CX K.P K.w) 3 T.f12 T.d12 ["thing"] (SpM K mg 1 Lb.m_is_base) :=
  def_ok' (k := 2) T.F12 sc_is_base fun cdv A outer s H E hr =>
    (S_cons (S_if (PW.pt (W_or (T_not (T_val (E_isiN rfl T.z_isinstance (E_var (pv 0)) (tys_cons (pe_bltn (v := .ty "list") rfl T.z_list (by decide +kernel) rfl) (tys_cons (pe_bltn (v := .ty "tuple") rfl T.z_tuple (by decide +kernel) rfl) tys_nil)) (by decide)))) (pw_or1 (T_cmp op_gt op_intB (nomark _) (E_cb cr_len5 cp_len5 rfl T.z_len (by decide +kernel) (A_cons (E_var (pv 0)) A_nil)) (E_glob rfl T.g_MOST_RULES T.r_MOST_RULES T.p_MOST_RULES))))) (S_one (S_ret E_bl)) S_nil)
    (S_one (S_ret (E_and (E_cb (cr_all rfl) cp_all rfl T.z_all (by decide +kernel) (A_cons (E_fz (F_lcG (own := [("rule", 1)]) rfl sc_is_base.nd (J_seq rel_stp (E_var (pv 0))) (blkOk_by (own := [("rule", 1)]) rfl) (tg_name (i := 1)) (fun _ _ _ _ _ => pg_name (i := 1) sc_is_base.nd rfl (Or.inl rfl)) (fun _ _ _ _ _ => Ts_nil) (fun _ _ _ _ _ => (E_isC T.is_Rule rfl T.z_isinstance (E_var (pv 1)) (pe_glob rfl T.C_Rule.at_ rfl (by decide)))))) A_nil)) (pe_one (E_cmp or_le of_le (nomark _) (E_cb cr_len5 cp_len5 rfl T.z_len (by decide +kernel) (A_cons (E_call (ok_names_of T) (hr.mono (by decide)) rfl T.g11 T.F11.kp T.b11 (takes_of rfl rfl rfl rfl) (A_cons (E_var (pv 0)) A_nil)) A_nil)) (E_glob rfl T.g_MOST_NAMES T.r_MOST_NAMES T.p_MOST_NAMES)))))))
theorem sc_need_base : FnScope ["thing"] ["thing"] (defScope st_need_base) := ⟨rfl, rfl, rfl, by decide +kernel, rfl, by decide +kernel, by decide +kernel⟩
theorem ok_need_base (T : Txt K mg) : FnOk K.P K.w K.F mg base (L2.CX K.P K.w) 4 T.f13 T.d13 ["thing"] (SpM K mg 1 Lb.m_need_base) :=
  def_ok' (k := 3) T.F13 sc_need_base fun cdv A outer s H E hr =>
    (S_one (S_if (T_not (T_val (E_call (ok_is_base T) (hr.mono (by decide)) rfl T.g12 T.F12.kp T.b12 (takes_of rfl rfl rfl rfl) (A_cons (E_var (pv 0)) A_nil)))) (S_one S_never) S_nil))
theorem sc_need_plain : FnScope ["thing", "rule"] ["thing"] (defScope st_need_plain) := ⟨rfl, rfl, rfl, by decide +kernel, rfl, by decide +kernel, by decide +kernel⟩
theorem ok_need_plain (T : Txt K mg) : FnOk K.P K.w K.F mg base (L2.CX K.P K.w) 5 T.f14 T.d14 ["thing"] (SpM K mg 1 Lb.m_need_plain) :=
  def_ok' (k := 4) T.F14 sc_need_plain fun cdv A outer s H E hr =>
    (S_cons (S_do (E_call (ok_need_base T) (hr.mono (by decide)) rfl T.g13 T.F13.kp T.b13 (takes_of rfl rfl rfl rfl) (A_cons (E_var (pv 0)) A_nil)))
    (S_one (S_if (T_val (E_cb (cr_any rfl) cp_any rfl T.z_any (by decide +kernel) (A_cons (E_fz (F_lcG (own := [("rule", 1)]) rfl sc_need_plain.nd (J_seq rel_stp (E_var (pv 0))) (blkOk_by (own := [("rule", 1)]) rfl) (tg_name (i := 1)) (fun _ _ _ _ _ => pg_name (i := 1) sc_need_plain.nd rfl (Or.inl rfl)) (fun _ _ _ _ _ => Ts_nil) (fun _ _ _ _ _ => (E_cmp (or_ne5 (roomU hr)) op_dNe5 (nomark _) (E_fld T.fl_unless (E_var (pv 1))) (E_tup A_nil))))) A_nil))) (S_one S_never) S_nil)))
theorem sc_is_name : FnScope ["thing", "sign"] ["thing"] (defScope st_is_name) := ⟨rfl, rfl, rfl, by decide +kernel, rfl, by decide +kernel, by decide +kernel⟩
theorem ok_is_name (T : Txt K mg) : FnOk K.P K.w K.F mg base (L2.CX K.P K.w) 1 T.f15 T.d15 ["thing"] (SpM K mg 1 Lb.m_is_name) :=
  def_ok' (k := 0) T.F15 sc_is_name fun cdv A outer s H E hr =>
    (S_cons (S_if (PW.pt (W_or (T_not (T_val (E_isi rfl T.z_isinstance (E_var (pv 0)) (pe_bltn (v := .ty "str") rfl T.z_str (by decide +kernel) rfl)))) (W_or (T_not (T_chain or_le of_le or_le of_le E_int (E_cb cr_len5 cp_len5 rfl T.z_len (by decide +kernel) (A_cons (E_var (pv 0)) A_nil)) (E_glob rfl T.g_LONGEST T.r_LONGEST T.p_LONGEST))) (pw_or1 (T_cmp (or_in5 (roomI hr)) op_dIn5 (by rfl) (E_var (pv 0)) (E_glob rfl T.g_KEPT T.r_KEPT T.p_KEPT)))))) (S_one (S_ret E_bl)) S_nil)
    (S_one (S_ret (E_cb (cr_all rfl) cp_all rfl T.z_all (by decide +kernel) (A_cons (E_fz (F_lcG (own := [("sign", 1)]) rfl sc_is_name.nd (J_seq rel_stp (E_var (pv 0))) (blkOk_by (own := [("sign", 1)]) rfl) (tg_name (i := 1)) (fun _ _ _ _ _ => pg_name (i := 1) sc_is_name.nd rfl (Or.inl rfl)) (fun _ _ _ _ _ => Ts_nil) (fun _ _ _ _ _ => (E_chain or_le of_le or_le of_le E_str (E_var (pv 1)) E_str)))) A_nil)))))
theorem sc_are_names : FnScope ["thing", "most", "name"] ["thing", "most"] (defScope st_are_names) := ⟨rfl, rfl, rfl, by decide +kernel, rfl, by decide +kernel, by decide +kernel⟩
theorem ok_are_names (T : Txt K mg) : FnOk K.P K.w K.F mg base (L2.CX K.P K.w) 2 T.f16 T.d16 ["thing", "most"] (SpM K mg 2 Lb.m_are_names) :=
  def_okD (k := 1) T.F16 sc_are_names fun cdv A outer s H E hr =>
    (S_cons (S_if (PW.pt (W_or (T_not (T_val (E_isiN rfl T.z_isinstance (E_var (pv 0)) (tys_cons (pe_bltn (v := .ty "list") rfl T.z_list (by decide +kernel) rfl) (tys_cons (pe_bltn (v := .ty "tuple") rfl T.z_tuple (by decide +kernel) rfl) tys_nil)) (by decide)))) (pw_or1 (T_cmp op_gt op_intB (nomark _) (E_cb cr_len5 cp_len5 rfl T.z_len (by decide +kernel) (A_cons (E_var (pv 0)) A_nil)) (E_var (pv 1)))))) (S_one (S_ret E_bl)) S_nil)
    (S_one (S_ret (E_and (E_cb (cr_all rfl) cp_all rfl T.z_all (by decide +kernel) (A_cons (E_fz (F_lcG (own := [("name", 2)]) rfl sc_are_names.nd (J_seq rel_stp (E_var (pv 0))) (blkOk_by (own := [("name", 2)]) rfl) (tg_name (i := 2)) (fun _ _ _ _ _ => pg_name (i := 2) sc_are_names.nd rfl (Or.inl rfl)) (fun _ _ _ _ _ => Ts_nil) (fun _ _ _ _ _ => (E_call (ok_is_name T) (hr.mono (by decide)) rfl T.g15 T.F15.kp T.b15 takes0 (A_cons (E_var (pv 2)) A_nil))))) A_nil)) (pe_one (E_cmp (or_eq5 (roomU hr)) op_dEq5 (nomark _) (E_lenK rfl T.z_len rfl T.z_set (E_var (pv 0))) (E_cb cr_len5 cp_len5 rfl T.z_len (by decide +kernel) (A_cons (E_var (pv 0)) A_nil))))))))
theorem sc_need_names : FnScope ["thing", "most"] ["thing", "most"] (defScope st_need_names) := ⟨rfl, rfl, rfl, by decide +kernel, rfl, by decide +kernel, by decide +kernel⟩
theorem ok_need_names (T : Txt K mg) : FnOk K.P K.w K.F mg base (L2.CX K.P K.w) 3 T.f17 T.d17 ["thing", "most"] (SpM K mg 2 Lb.m_need_names) :=
  def_okD (k := 2) T.F17 sc_need_names fun cdv A outer s H E hr =>
    (S_one (S_if (T_not (T_val (E_call (ok_are_names T) (hr.mono (by decide)) rfl T.g16 T.F16.kp T.b16 (takes_of rfl rfl rfl rfl) (A_cons (E_var (pv 0)) (A_cons (E_var (pv 1)) A_nil))))) (S_one S_never) S_nil))
theorem sc_are_together : FnScope ["rules", "names"] ["rules", "names"] (defScope st_are_together) := ⟨rfl, rfl, rfl, by decide +kernel, rfl, by decide +kernel, by decide +kernel⟩
theorem ok_are_together (T : Txt K mg) : FnOk K.P K.w K.F mg base (L2.CX K.P K.w) 3 T.f18 T.d18 ["rules", "names"] (SpM K mg 2 Lb.m_are_together) :=
  def_ok' (k := 2) T.F18 sc_are_together fun cdv A outer s H E hr =>
    (S_one (S_ret (E_cmp or_le of_le (nomark _) (E_lenU rfl T.z_len rfl T.z_set (E_call (ok_names_of T) (hr.mono (by decide)) rfl T.g11 T.F11.kp T.b11 (takes_of rfl rfl rfl rfl) (A_cons (E_var (pv 0)) A_nil)) (E_var (pv 1))) (E_glob rfl T.g_MOST_NAMES T.r_MOST_NAMES T.p_MOST_NAMES))))
theorem sc_need_grounds : FnScope ["rules", "grounds", "most"] ["rules", "grounds", "most"] (defScope st_need_grounds) := ⟨rfl, rfl, rfl, by decide +kernel, rfl, by decide +kernel, by decide +kernel⟩
theorem ok_need_grounds (T : Txt K mg) : FnOk K.P K.w K.F mg base (L2.CX K.P K.w) 6 T.f19 T.d19 ["rules", "grounds", "most"] (SpM K mg 3 Lb.m_need_grounds) :=
  def_okD (k := 5) T.F19 sc_need_grounds fun cdv A outer s H E hr =>
    (S_cons (S_do (E_call (ok_need_plain T) (hr.mono (by decide)) rfl T.g14 T.F14.kp T.b14 (takes_of rfl rfl rfl rfl) (A_cons (E_var (pv 0)) A_nil)))
    (S_cons (S_do (E_callK (gD := (fun ds es => (ds ++ ((es[0]?).toList ++ [])))) (ok_need_names T) (hr.mono (by decide)) rfl T.g17 T.F17.kp T.kb17_0 (takes_of rfl rfl rfl rfl) (fun G ad vs ds zs es h1 h2 => Reps.app h1 (.app (reps_at h2 0) .nil)) (A_cons (E_var (pv 1)) A_nil) (K_cons (E_var (pv 2)) K_nil) (aLen_cons aLen_nil) (aLen_cons aLen_nil)))
    (S_one (S_if (T_not (T_val (E_call (ok_are_together T) (hr.mono (by decide)) rfl T.g18 T.F18.kp T.b18 (takes_of rfl rfl rfl rfl) (A_cons (E_var (pv 0)) (A_cons (E_var (pv 1)) A_nil))))) (S_one S_never) S_nil))))
theorem sc_stands : FnScope ["rule", "names", "name"] ["rule", "names"] (defScope st_stands) := ⟨rfl, rfl, rfl, by decide +kernel, rfl, by decide +kernel, by decide +kernel⟩
theorem ok_stands (T : Txt K mg) : FnOk K.P K.w K.F mg base (L2.CX K.P K.w) 1 T.f20 T.d20 ["rule", "names"] (SpM K mg 2 Lb.m_stands) :=
  def_ok' (k := 0) T.F20 sc_stands fun cdv A outer s H E hr =>
    (S_one (S_ret (E_cb (cr_all rfl) cp_all rfl T.z_all (by decide +kernel) (A_cons (E_fz (F_lcG (own := [("name", 2)]) rfl sc_stands.nd (J_seq rel_stp (E_fld T.fl_body (E_var (pv 0)))) (blkOk_by (own := [("name", 2)]) rfl) (tg_name (i := 2)) (fun _ _ _ _ _ => pg_name (i := 2) sc_stands.nd rfl (Or.inl rfl)) (fun _ _ _ _ _ => Ts_nil) (fun _ _ _ _ _ => (E_cmp (or_in5 (roomI hr)) op_dIn5 (by rfl) (E_var (pv 2)) (E_var (pv 1)))))) A_nil))))
theorem sc_rounds : FnScope ["rules", "grounds", "name", "levels", "places", "fresh", "turn", "at", "rule"] ["rules", "grounds"] (defScope st_rounds) := ⟨rfl, rfl, rfl, by decide +kernel, rfl, by decide +kernel, by decide +kernel⟩
theorem ok_rounds (T : Txt K mg) : FnOk K.P K.w K.F mg base (L2.CX K.P K.w) 2 T.f21 T.d21 ["rules", "grounds"] (SpM K mg 2 Lb.m_rounds) :=
  def_ok' (k := 1) T.F21 sc_rounds fun cdv A outer s H E hr =>
    (S_cons (S_dcG (own := [("name", 2)]) (h_sh (i := 3)) rfl sc_rounds.nd rfl rfl (swd_true rfl rfl rfl (by decide +kernel)) (J_seq rel_stp (E_var (pv 1))) (blkOk_by (own := [("name", 2)]) rfl) (tg_name (i := 2)) (fun _ _ _ _ _ => pg_name (i := 2) sc_rounds.nd rfl (Or.inl rfl)) (fun _ _ _ _ _ => Ts_nil) (fun _ _ _ _ _ => (E_var (pv 2))) (fun _ _ _ _ _ => E_int))
    (S_cons (S_set (i := 4) sc_rounds.nd rfl (Or.inl rfl) (E_sh F_dict0))
    (S_cons (S_own (i := 5) sc_rounds.nd rfl (Or.inl rfl) F_none1)
    (S_cons (S_set (i := 6) sc_rounds.nd rfl (Or.inl rfl) E_int)
    (S_cons (S_while 100000 (passes_of rfl) (T_cmp (or_ne5 (roomU hr)) op_dNe5 (nomark _) (E_var (pv 5)) (E_fz F_dict0)) (S_cons (S_own (i := 5) sc_rounds.nd rfl (Or.inl rfl) F_dict0)
    (S_cons (S_aug (i := 6) ip_addI of_ipadd sc_rounds.nd rfl (Or.inl rfl) E_int)
    (S_cons (S_forG (passes_of rfl) rfl (J_enum rel_grow rfl T.z_enumerate (E_var (pv 0))) (pg_tup rfl (pgs_cons (pg_name (i := 7) sc_rounds.nd rfl (Or.inl rfl)) (pgs_cons (pg_name (i := 8) sc_rounds.nd rfl (Or.inl rfl)) pgs_nil))) (tg_tup (tgs_cons (tg_name (i := 7)) (tgs_cons (tg_name (i := 8)) tgs_nil)) rfl) (S_one (S_if (PW.pt (W_and (T_cmp op_notN of_notN (nomark _) (E_fld T.fl_head (E_var (pv 8))) E_non) (W_and (T_cmp (or_nin5 (roomI hr)) op_dIn5 (by rfl) (E_fld T.fl_head (E_var (pv 8))) (E_var (pv 3))) (W_and (T_cmp (or_nin5 (roomI hr)) op_dIn5 (by rfl) (E_fld T.fl_head (E_var (pv 8))) (E_var (pv 5))) (pw_and1 (T_val (E_call (ok_stands T) (hr.mono (by decide)) rfl T.g20 T.F20.kp T.b20 (takes_of rfl rfl rfl rfl) (A_cons (E_var (pv 8)) (A_cons (E_var (pv 3)) A_nil))))))))) (S_one (S_seti (hu_of hr) (E_var (pv 5)) (E_fld T.fl_head (E_var (pv 8))) (E_var (pv 7)))) S_nil)))
    (S_one (S_frz (i := 5) (S_forG (passes_of rfl) rfl (J_items rel_grow (E_var (pv 5))) (pg_tup rfl (pgs_cons (pg_name (i := 2) sc_rounds.nd rfl (Or.inl rfl)) (pgs_cons (pg_name (i := 7) sc_rounds.nd rfl (Or.inl rfl)) pgs_nil))) (tg_tup (tgs_cons (tg_name (i := 2)) (tgs_cons (tg_name (i := 7)) tgs_nil)) rfl) (S_cons (S_seti (hu_of hr) (E_var (pv 3)) (E_var (pv 2)) (E_var (pv 6)))
    (S_one (S_seti (hu_of hr) (E_var (pv 4)) (E_var (pv 2)) (E_var (pv 7))))))))))))
    (S_one (S_ret (E_tup (A_cons (E_var (pv 3)) (A_cons (E_var (pv 4)) A_nil))))))))))
theorem sc_levels : FnScope ["rules", "grounds", "found", "name"] ["rules", "grounds"] (defScope st_levels) := ⟨rfl, rfl, rfl, by decide +kernel, rfl, by decide +kernel, by decide +kernel⟩
theorem ok_levels (T : Txt K mg) : FnOk K.P K.w K.F mg base (L2.CX K.P K.w) 7 T.f22 T.d22 ["rules", "grounds"] (SpM K mg 2 Lb.m_levels) :=
  def_ok' (k := 6) T.F22 sc_levels fun cdv A outer s H E hr =>
    (S_cons (S_do (E_callK (gD := (fun ds es => (ds ++ ((([(.int 24)] : List D)[0]?).toList ++ [])))) (ok_need_grounds T) (hr.mono (by decide)) rfl T.g19 T.F19.kp T.kb19_0 (takes_of rfl rfl rfl rfl) (fun G ad vs ds zs es h1 h2 => Reps.app h1 (.app (reps_at (.cons (.int _) .nil) 0) .nil)) (A_cons (E_var (pv 0)) (A_cons (E_var (pv 1)) A_nil)) K_nil (aLen_cons (aLen_cons aLen_nil)) aLen_nil))
    (S_cons (S_set (i := 2) sc_levels.nd rfl (Or.inr rfl) (E_index5 (roomI hr) (E_call (ok_rounds T) (hr.mono (by decide)) rfl T.g21 T.F21.kp T.b21 (takes_of rfl rfl rfl rfl) (A_cons (E_var (pv 0)) (A_cons (E_var (pv 1)) A_nil))) E_int (fun _ _ => rfl)))
    (S_one (S_ret (E_lk (F_dcG (own := [("name", 3)]) rfl sc_levels.nd (J_seq rel_stp (E_fz (F_cb (cr_sortAll rfl) cpf_sort rfl T.z_sorted (by decide +kernel) (A_cons (E_var (pv 2)) A_nil)))) (blkOk_by (own := [("name", 3)]) rfl) (tg_name (i := 3)) (fun _ _ _ _ _ => pg_name (i := 3) sc_levels.nd rfl (Or.inl rfl)) (fun _ _ _ _ _ => Ts_nil) (fun _ _ _ _ _ => (E_var (pv 3))) (fun _ _ _ _ _ => (E_index5 (roomI hr) (E_var (pv 2)) (E_var (pv 3)) (fun _ _ => rfl)))))))))
theorem sc_Rule___init__ : FnScope ["self", "head", "body", "unless"] ["self", "head", "body", "unless"] (defScope st_Rule___init__) := ⟨rfl, rfl, rfl, by decide +kernel, rfl, by decide +kernel, by decide +kernel⟩
theorem ok_Rule___init__ (T : Txt K mg) : FnOk K.P K.w K.F mg base (L2.CX K.P K.w) 3 T.f23 T.d23 ["self", "head", "body", "unless"] (SpM K mg 4 Lb.m_Rule___init__) :=
  def_okD (k := 2) T.F23 sc_Rule___init__ fun cdv A outer s H E hr =>
    (S_cons (S_if (PW.pt (W_and (T_cmp op_notN of_notN (nomark _) (E_var (pv 1)) E_non) (pw_and1 (T_not (T_val (E_call (ok_is_name T) (hr.mono (by decide)) rfl T.g15 T.F15.kp T.b15 (takes_of rfl rfl rfl rfl) (A_cons (E_var (pv 1)) A_nil))))))) (S_one S_never) S_nil)
    (S_cons (S_if (PW.pt (W_or (T_not (T_val (E_call (ok_are_names T) (hr.mono (by decide)) rfl T.g16 T.F16.kp T.b16 (takes_of rfl rfl rfl rfl) (A_cons (E_var (pv 2)) (A_cons (E_glob rfl T.g_MOST_BODY T.r_MOST_BODY T.p_MOST_BODY) A_nil))))) (pw_or1 (T_not (T_val (E_call (ok_are_names T) (hr.mono (by decide)) rfl T.g16 T.F16.kp T.b16 (takes_of rfl rfl rfl rfl) (A_cons (E_var (pv 3)) (A_cons (E_glob rfl T.g_MOST_UNLESS T.r_MOST_UNLESS T.p_MOST_UNLESS) A_nil)))))))) (S_one S_never) S_nil)
    (S_cons (S_fld T.fl_head (E_var (pv 0)) (E_var (pv 1)))
    (S_cons (S_fld T.fl_body (E_var (pv 0)) (E_ct cr_tuple cp_tuple rfl T.z_tuple (by decide +kernel) (A_cons (E_var (pv 2)) A_nil)))
    (S_one (S_fld T.fl_unless (E_var (pv 0)) (E_ct cr_tuple cp_tuple rfl T.z_tuple (by decide +kernel) (A_cons (E_var (pv 3)) A_nil))))))))
theorem sc_law : FnScope ["script", "state", "chained", "used", "pairs", "some", "words", "due", "found", "head", "body", "one"] ["script"] (defScope st_law) := ⟨rfl, rfl, rfl, by decide +kernel, rfl, by decide +kernel, by decide +kernel⟩
theorem ok_law (T : Txt K mg) : FnOk K.P K.w K.F mg base (L2.CX K.P K.w) 8 T.f24 T.d24 ["script"] (SpM K mg 1 m_law) :=
  def_ok' (k := 7) T.F24 sc_law fun cdv A outer s H E hr =>
    (S_cons (S_set (i := 1) sc_law.nd rfl (Or.inl rfl) (E_call (ok__law_begun T) (hr.mono (by decide)) rfl T.g0 T.F0.kp T.b0 (takes_of rfl rfl rfl rfl) (A_cons (E_var (pv 0)) A_nil)))
    (S_cons (S_set (i := 2) sc_law.nd rfl (Or.inl rfl) (E_cmp (or_eq5 (roomU hr)) op_dEq5 (nomark _) (E_call (ok__law_take T) (hr.mono (by decide)) rfl T.g1 T.F1.kp T.b1 (takes_of rfl rfl rfl rfl) (A_cons (E_var (pv 1)) (A_cons E_int A_nil))) E_int))
    (S_cons (S_set (i := 3) sc_law.nd rfl (Or.inl rfl) (E_callK0 (gD := (fun ds es => (ds ++ []))) (ok__law_kept T) (hr.mono (by decide)) rfl T.g2 T.F2.kp T.kb2_0 (takes_of rfl rfl rfl rfl) (fun G ad vs ds zs es h1 h2 => Reps.app h1 .nil) K_nil aLen_nil))
    (S_cons (S_if (T_val (E_var (pv 2))) (S_one (S_asg (E_call (ok__law_chain T) (hr.mono (by decide)) rfl T.g5 T.F5.kp T.b5 (takes_of rfl rfl rfl rfl) (A_cons (E_var (pv 1)) (A_cons (E_var (pv 3)) A_nil))) (pg_tup rfl (pgs_cons (pg_name (i := 4) sc_law.nd rfl (Or.inl rfl)) (pgs_cons (pg_name (i := 5) sc_law.nd rfl (Or.inl rfl)) pgs_nil))) (tg_tup (tgs_cons (tg_name (i := 4)) (tgs_cons (tg_name (i := 5)) tgs_nil)) rfl))) (S_cons (S_set (i := 6) sc_law.nd rfl (Or.inl rfl) (E_call (ok__law_names T) (hr.mono (by decide)) rfl T.g4 T.F4.kp T.b4 (takes_of rfl rfl rfl rfl) (A_cons (E_var (pv 1)) (A_cons (E_var (pv 3)) (A_cons (E_add4 E_int (E_call (ok__law_take T) (hr.mono (by decide)) rfl T.g1 T.F1.kp T.b1 (takes_of rfl rfl rfl rfl) (A_cons (E_var (pv 1)) (A_cons E_int A_nil)))) A_nil)))))
    (S_cons (S_set (i := 4) sc_law.nd rfl (Or.inl rfl) (E_call (ok__law_pairs T) (hr.mono (by decide)) rfl T.g7 T.F7.kp T.b7 (takes_of rfl rfl rfl rfl) (A_cons (E_var (pv 1)) (A_cons (E_var (pv 6)) (A_cons E_int A_nil)))))
    (S_one (S_set (i := 5) sc_law.nd rfl (Or.inl rfl) (E_call (ok__law_some T) (hr.mono (by decide)) rfl T.g8 T.F8.kp T.b8 (takes_of rfl rfl rfl rfl) (A_cons (E_var (pv 1)) (A_cons (E_add4 (E_var (pv 6)) (E_call (ok__law_names T) (hr.mono (by decide)) rfl T.g4 T.F4.kp T.b4 (takes_of rfl rfl rfl rfl) (A_cons (E_var (pv 1)) (A_cons (E_var (pv 3)) (A_cons (E_call (ok__law_take T) (hr.mono (by decide)) rfl T.g1 T.F1.kp T.b1 (takes_of rfl rfl rfl rfl) (A_cons (E_var (pv 1)) (A_cons E_int A_nil))) A_nil))))) A_nil))))))))
    (S_cons (S_set (i := 7) sc_law.nd rfl (Or.inl rfl) (E_call (ok__law_levels T) (hr.mono (by decide)) rfl T.g9 T.F9.kp T.b9 (takes_of rfl rfl rfl rfl) (A_cons (E_var (pv 4)) (A_cons (E_var (pv 5)) A_nil))))
    (S_cons (S_set (i := 8) sc_law.nd rfl (Or.inl rfl) (E_callK0 (gD := (fun ds es => (ds ++ ((es[1]?).toList ++ ((es[0]?).toList ++ []))))) (ok_levels T) (hr.mono (by decide)) rfl T.g22 T.F22.kp T.kb22_0 (takes_of rfl rfl rfl rfl) (fun G ad vs ds zs es h1 h2 => Reps.app h1 (.app (reps_at h2 1) (.app (reps_at h2 0) .nil))) (K_cons (E_var (pv 5)) (K_cons (E_fz (F_lcG (own := [("head", 9), ("body", 10)]) rfl sc_law.nd (J_seq rel_stp (E_var (pv 4))) (blkOk_by (own := [("head", 9), ("body", 10)]) rfl) (tg_tup (tgs_cons (tg_name (i := 9)) (tgs_cons (tg_name (i := 10)) tgs_nil)) rfl) (fun _ _ _ _ _ => pg_tup rfl (pgs_cons (pg_name (i := 9) sc_law.nd rfl (Or.inl rfl)) (pgs_cons (pg_name (i := 10) sc_law.nd rfl (Or.inl rfl)) pgs_nil))) (fun _ _ _ _ _ => Ts_nil) (fun _ _ _ _ _ => (E_fz (F_mk (gD := (fun ds es => (ds ++ ((([.tup []] : List D)[0]?).toList ++ [])))) T.M_Rule (ok_Rule___init__ T) (hr.mono (by decide)) rfl T.C_Rule.at_ T.kb23_0 takes0 (fun G ad vs ds zs es h1 h2 => Reps.app h1 (.app (reps_at (.cons (T.p23_unless G ad) .nil) 0) .nil)) (A_cons (E_var (pv 9)) (A_cons (E_var (pv 10)) A_nil)) K_nil (aLen_cons (aLen_cons aLen_nil)) aLen_nil))))) K_nil)) (aLen_cons (aLen_cons aLen_nil))))
    (S_cons (S_if (PW.pt (W_or (T_not (T_val (E_isi rfl T.z_isinstance (E_var (pv 8)) (pe_bltn (v := .ty "dict") rfl T.z_dict (by decide +kernel) rfl)))) (W_or (T_cmp (or_ne5 (roomU hr)) op_dNe5 (nomark _) (E_var (pv 8)) (E_var (pv 7))) (pw_or1 (T_cmp (or_ne5 (roomU hr)) op_dNe5 (nomark _) (E_fz (F_ct (cr_list5 rfl) cpf_list5 rfl T.z_list (by decide +kernel) (A_cons (E_var (pv 8)) A_nil))) (E_fz (F_cb (cr_sortAll rfl) cpf_sort rfl T.z_sorted (by decide +kernel) (A_cons (E_var (pv 7)) A_nil)))))))) (S_one (S_ret E_bl)) S_nil)
    (S_one (S_ret (E_cmp (or_eq5 (roomU hr)) op_dEq5 (nomark _) (E_fz (F_lcG (own := [("one", 11)]) rfl sc_law.nd (J_vals rel_stp (E_var (pv 8))) (blkOk_by (own := [("one", 11)]) rfl) (tg_name (i := 11)) (fun _ _ _ _ _ => pg_name (i := 11) sc_law.nd rfl (Or.inl rfl)) (fun _ _ _ _ _ => (Ts_one (PW.pt (W_or (T_val (E_isi rfl T.z_isinstance (E_var (pv 11)) (pe_bltn (v := .ty "bool") rfl T.z_bool (by decide +kernel) rfl))) (pw_or1 (T_not (T_val (E_isi rfl T.z_isinstance (E_var (pv 11)) (pe_bltn (v := .ty "int") rfl T.z_int (by decide +kernel) rfl))))))))) (fun _ _ _ _ _ => (E_var (pv 11))))) (E_fz (F_lst A_nil))))))))))))
end
theorem all_mk {l : PySem.W.OpenLaw} {w : World} {K : PySem.W.Frag} {mg : Mg} {h : Heap} {fa : Addr} {A_Rule : Addr} {f0 : Addr} {oc0 kV0 dc0 pm0 cd0 ct0 : Value} {od0 an0 : Option Addr} {sl0 : Array (Option Value)} {f1 : Addr} {oc1 kV1 dc1 pm1 cd1 ct1 : Value} {od1 an1 : Option Addr} {sl1 : Array (Option Value)} {f2 : Addr} {oc2 kV2 dc2 pm2 cd2 ct2 : Value} {od2 an2 : Option Addr} {sl2 : Array (Option Value)} {f3 : Addr} {oc3 kV3 dc3 pm3 cd3 ct3 : Value} {od3 an3 : Option Addr} {sl3 : Array (Option Value)} {f4 : Addr} {oc4 kV4 dc4 pm4 cd4 ct4 : Value} {od4 an4 : Option Addr} {sl4 : Array (Option Value)} {f5 : Addr} {oc5 kV5 dc5 pm5 cd5 ct5 : Value} {od5 an5 : Option Addr} {sl5 : Array (Option Value)} {f6 : Addr} {oc6 kV6 dc6 pm6 cd6 ct6 : Value} {od6 an6 : Option Addr} {sl6 : Array (Option Value)} {f7 : Addr} {oc7 kV7 dc7 pm7 cd7 ct7 : Value} {od7 an7 : Option Addr} {sl7 : Array (Option Value)} {f8 : Addr} {oc8 kV8 dc8 pm8 cd8 ct8 : Value} {od8 an8 : Option Addr} {sl8 : Array (Option Value)} {f9 : Addr} {oc9 kV9 dc9 pm9 cd9 ct9 : Value} {od9 an9 : Option Addr} {sl9 : Array (Option Value)} {f10 : Addr} {oc10 kV10 dc10 pm10 cd10 ct10 : Value} {od10 an10 : Option Addr} {sl10 : Array (Option Value)} {f11 : Addr} {oc11 kV11 dc11 pm11 cd11 ct11 : Value} {od11 an11 : Option Addr} {sl11 : Array (Option Value)} {f12 : Addr} {oc12 kV12 dc12 pm12 cd12 ct12 : Value} {od12 an12 : Option Addr} {sl12 : Array (Option Value)} {f13 : Addr} {oc13 kV13 dc13 pm13 cd13 ct13 : Value} {od13 an13 : Option Addr} {sl13 : Array (Option Value)} {f14 : Addr} {oc14 kV14 dc14 pm14 cd14 ct14 : Value} {od14 an14 : Option Addr} {sl14 : Array (Option Value)} {f15 : Addr} {oc15 kV15 dc15 pm15 cd15 ct15 : Value} {od15 an15 : Option Addr} {sl15 : Array (Option Value)} {f16 : Addr} {oc16 kV16 dc16 pm16 cd16 ct16 : Value} {od16 an16 : Option Addr} {sl16 : Array (Option Value)} {Td16 : Addr} {oT16 : Option Addr} {nT16 : Nat} {sT16 : Array (Option Value)} {tk16_0 : Tok} {f17 : Addr} {oc17 dc17 pm17 cd17 ct17 : Value} {od17 an17 : Option Addr} {sl17 : Array (Option Value)} {Dk17 : Addr} {tk17_most : Tok} {f18 : Addr} {oc18 kV18 dc18 pm18 cd18 ct18 : Value} {od18 an18 : Option Addr} {sl18 : Array (Option Value)} {f19 : Addr} {oc19 dc19 pm19 cd19 ct19 : Value} {od19 an19 : Option Addr} {sl19 : Array (Option Value)} {Dk19 : Addr} {tk19_most : Tok} {f20 : Addr} {oc20 kV20 dc20 pm20 cd20 ct20 : Value} {od20 an20 : Option Addr} {sl20 : Array (Option Value)} {f21 : Addr} {oc21 kV21 dc21 pm21 cd21 ct21 : Value} {od21 an21 : Option Addr} {sl21 : Array (Option Value)} {f22 : Addr} {oc22 kV22 dc22 pm22 cd22 ct22 : Value} {od22 an22 : Option Addr} {sl22 : Array (Option Value)} {f23 : Addr} {oc23 dc23 pm23 cd23 ct23 : Value} {od23 an23 : Option Addr} {sl23 : Array (Option Value)} {Td23 : Addr} {oT23 : Option Addr} {nT23 : Nat} {sT23 : Array (Option Value)} {E23_0 : Addr} {oE23_0 : Option Addr} {nE23_0 : Nat} {sE23_0 : Array (Option Value)} {Dk23 : Addr} {E23_unless : Addr} {oE23_unless : Option Addr} {nE23_unless : Nat} {sE23_unless : Array (Option Value)} {f24 : Addr} {oc24 kV24 dc24 pm24 cd24 ct24 : Value} {od24 an24 : Option Addr} {sl24 : Array (Option Value)} {t_MOST_RULES : Tok} {t_MOST_NAMES : Tok} {t_LONGEST : Tok} {q_KEPT : Addr} {n_KEPT : Nat} {o_KEPT : Array (Option Value)} {e_KEPT : Option Addr} {t0_KEPT : Tok} {t1_KEPT : Tok} {t2_KEPT : Tok} {t_MOST_BODY : Tok} {t_MOST_UNLESS : Tok} (X : K.In h) (G : h.Ns mainGlobals mg) (hfa : mg "law" = some (.ref fa))
    (a_Rule : PySem.W.nsIn K mainGlobals "Rule" = some (some (.ref A_Rule)))
    (pg_Rule : PySem.W.plainGet K A_Rule Str.empty = true)
    (hd_Rule : PySem.W.hasDictIn K A_Rule = true)
    (po_Rule : PySem.W.plainOver K A_Rule = true)
    (sa_Rule : PySem.W.findIn K (.ref A_Rule) "__setattr__" = some (some (.builtin "object.__setattr__")))
    (nf_Rule_head : PySem.W.findIn K (.ref A_Rule) "head" = some none)
    (nf_Rule_body : PySem.W.findIn K (.ref A_Rule) "body" = some none)
    (nf_Rule_unless : PySem.W.findIn K (.ref A_Rule) "unless" = some none)
    (su_Rule_NoneType : PySem.W.subIn K (.type "NoneType") (.ref A_Rule) = some false)
    (su_Rule_bool : PySem.W.subIn K (.type "bool") (.ref A_Rule) = some false)
    (su_Rule_int : PySem.W.subIn K (.type "int") (.ref A_Rule) = some false)
    (su_Rule_str : PySem.W.subIn K (.type "str") (.ref A_Rule) = some false)
    (su_Rule_list : PySem.W.subIn K (.type "list") (.ref A_Rule) = some false)
    (su_Rule_tuple : PySem.W.subIn K (.type "tuple") (.ref A_Rule) = some false)
    (su_Rule_dict : PySem.W.subIn K (.type "dict") (.ref A_Rule) = some false)
    (ik_Rule : PySem.W.isClsIn K A_Rule = true)
    (it_Rule : PySem.W.typeIn K (.ref A_Rule) = some (.type "type"))
    (ic_Rule : PySem.W.findIn K (.ref A_Rule) "__class__" = some (some (.builtin "object.__class__")))
    (im_Rule : PySem.W.mroIn K A_Rule (.type "object") = some true)
    (ocn : PySem.W.specialIn K (.builtin "object.__class__") "__get__" = some (some (.builtin "getset_descriptor.__get__")))
    (oct : PySem.W.takesIn K (.builtin "object.__class__") = some true)
    (a0 : PySem.W.nsIn K mainGlobals "_law_begun" = some (some (.ref f0)))
    (l0 : K.lookup f0 = some ⟨oc0, od0, .func (PySem.W.fnOf "_law_begun" "_law_begun" (defArgs st__law_begun) (defBody st__law_begun) (defScope st__law_begun) .none kV0 dc0 pm0 an0 cd0 ct0), sl0⟩)
    (c0 : PySem.W.codeIn K cd0 "_law_begun" = true)
    (k0 : PySem.W.keepIn K (.ref f0) = true)
    (a1 : PySem.W.nsIn K mainGlobals "_law_take" = some (some (.ref f1)))
    (l1 : K.lookup f1 = some ⟨oc1, od1, .func (PySem.W.fnOf "_law_take" "_law_take" (defArgs st__law_take) (defBody st__law_take) (defScope st__law_take) .none kV1 dc1 pm1 an1 cd1 ct1), sl1⟩)
    (c1 : PySem.W.codeIn K cd1 "_law_take" = true)
    (k1 : PySem.W.keepIn K (.ref f1) = true)
    (a2 : PySem.W.nsIn K mainGlobals "_law_kept" = some (some (.ref f2)))
    (l2 : K.lookup f2 = some ⟨oc2, od2, .func (PySem.W.fnOf "_law_kept" "_law_kept" (defArgs st__law_kept) (defBody st__law_kept) (defScope st__law_kept) .none kV2 dc2 pm2 an2 cd2 ct2), sl2⟩)
    (c2 : PySem.W.codeIn K cd2 "_law_kept" = true)
    (k2 : PySem.W.keepIn K (.ref f2) = true)
    (a3 : PySem.W.nsIn K mainGlobals "_law_name" = some (some (.ref f3)))
    (l3 : K.lookup f3 = some ⟨oc3, od3, .func (PySem.W.fnOf "_law_name" "_law_name" (defArgs st__law_name) (defBody st__law_name) (defScope st__law_name) .none kV3 dc3 pm3 an3 cd3 ct3), sl3⟩)
    (c3 : PySem.W.codeIn K cd3 "_law_name" = true)
    (k3 : PySem.W.keepIn K (.ref f3) = true)
    (a4 : PySem.W.nsIn K mainGlobals "_law_names" = some (some (.ref f4)))
    (l4 : K.lookup f4 = some ⟨oc4, od4, .func (PySem.W.fnOf "_law_names" "_law_names" (defArgs st__law_names) (defBody st__law_names) (defScope st__law_names) .none kV4 dc4 pm4 an4 cd4 ct4), sl4⟩)
    (c4 : PySem.W.codeIn K cd4 "_law_names" = true)
    (k4 : PySem.W.keepIn K (.ref f4) = true)
    (a5 : PySem.W.nsIn K mainGlobals "_law_chain" = some (some (.ref f5)))
    (l5 : K.lookup f5 = some ⟨oc5, od5, .func (PySem.W.fnOf "_law_chain" "_law_chain" (defArgs st__law_chain) (defBody st__law_chain) (defScope st__law_chain) .none kV5 dc5 pm5 an5 cd5 ct5), sl5⟩)
    (c5 : PySem.W.codeIn K cd5 "_law_chain" = true)
    (k5 : PySem.W.keepIn K (.ref f5) = true)
    (a6 : PySem.W.nsIn K mainGlobals "_law_pair" = some (some (.ref f6)))
    (l6 : K.lookup f6 = some ⟨oc6, od6, .func (PySem.W.fnOf "_law_pair" "_law_pair" (defArgs st__law_pair) (defBody st__law_pair) (defScope st__law_pair) .none kV6 dc6 pm6 an6 cd6 ct6), sl6⟩)
    (c6 : PySem.W.codeIn K cd6 "_law_pair" = true)
    (k6 : PySem.W.keepIn K (.ref f6) = true)
    (a7 : PySem.W.nsIn K mainGlobals "_law_pairs" = some (some (.ref f7)))
    (l7 : K.lookup f7 = some ⟨oc7, od7, .func (PySem.W.fnOf "_law_pairs" "_law_pairs" (defArgs st__law_pairs) (defBody st__law_pairs) (defScope st__law_pairs) .none kV7 dc7 pm7 an7 cd7 ct7), sl7⟩)
    (c7 : PySem.W.codeIn K cd7 "_law_pairs" = true)
    (k7 : PySem.W.keepIn K (.ref f7) = true)
    (a8 : PySem.W.nsIn K mainGlobals "_law_some" = some (some (.ref f8)))
    (l8 : K.lookup f8 = some ⟨oc8, od8, .func (PySem.W.fnOf "_law_some" "_law_some" (defArgs st__law_some) (defBody st__law_some) (defScope st__law_some) .none kV8 dc8 pm8 an8 cd8 ct8), sl8⟩)
    (c8 : PySem.W.codeIn K cd8 "_law_some" = true)
    (k8 : PySem.W.keepIn K (.ref f8) = true)
    (a9 : PySem.W.nsIn K mainGlobals "_law_levels" = some (some (.ref f9)))
    (l9 : K.lookup f9 = some ⟨oc9, od9, .func (PySem.W.fnOf "_law_levels" "_law_levels" (defArgs st__law_levels) (defBody st__law_levels) (defScope st__law_levels) .none kV9 dc9 pm9 an9 cd9 ct9), sl9⟩)
    (c9 : PySem.W.codeIn K cd9 "_law_levels" = true)
    (k9 : PySem.W.keepIn K (.ref f9) = true)
    (a10 : PySem.W.findIn K (.ref A_Rule) "names" = some (some (.ref f10)))
    (i10 : PySem.W.isFn K (.ref f10) = true)
    (l10 : K.lookup f10 = some ⟨oc10, od10, .func (PySem.W.fnOf "names" "Rule.names" (defArgs st_Rule_names) (defBody st_Rule_names) (defScope st_Rule_names) .none kV10 dc10 pm10 an10 cd10 ct10), sl10⟩)
    (c10 : PySem.W.codeIn K cd10 "Rule.names" = true)
    (k10 : PySem.W.keepIn K (.ref f10) = true)
    (a11 : PySem.W.nsIn K mainGlobals "names_of" = some (some (.ref f11)))
    (l11 : K.lookup f11 = some ⟨oc11, od11, .func (PySem.W.fnOf "names_of" "names_of" (defArgs st_names_of) (defBody st_names_of) (defScope st_names_of) .none kV11 dc11 pm11 an11 cd11 ct11), sl11⟩)
    (c11 : PySem.W.codeIn K cd11 "names_of" = true)
    (k11 : PySem.W.keepIn K (.ref f11) = true)
    (a12 : PySem.W.nsIn K mainGlobals "is_base" = some (some (.ref f12)))
    (l12 : K.lookup f12 = some ⟨oc12, od12, .func (PySem.W.fnOf "is_base" "is_base" (defArgs st_is_base) (defBody st_is_base) (defScope st_is_base) .none kV12 dc12 pm12 an12 cd12 ct12), sl12⟩)
    (c12 : PySem.W.codeIn K cd12 "is_base" = true)
    (k12 : PySem.W.keepIn K (.ref f12) = true)
    (a13 : PySem.W.nsIn K mainGlobals "need_base" = some (some (.ref f13)))
    (l13 : K.lookup f13 = some ⟨oc13, od13, .func (PySem.W.fnOf "need_base" "need_base" (defArgs st_need_base) (defBody st_need_base) (defScope st_need_base) .none kV13 dc13 pm13 an13 cd13 ct13), sl13⟩)
    (c13 : PySem.W.codeIn K cd13 "need_base" = true)
    (k13 : PySem.W.keepIn K (.ref f13) = true)
    (a14 : PySem.W.nsIn K mainGlobals "need_plain" = some (some (.ref f14)))
    (l14 : K.lookup f14 = some ⟨oc14, od14, .func (PySem.W.fnOf "need_plain" "need_plain" (defArgs st_need_plain) (defBody st_need_plain) (defScope st_need_plain) .none kV14 dc14 pm14 an14 cd14 ct14), sl14⟩)
    (c14 : PySem.W.codeIn K cd14 "need_plain" = true)
    (k14 : PySem.W.keepIn K (.ref f14) = true)
    (a15 : PySem.W.nsIn K mainGlobals "is_name" = some (some (.ref f15)))
    (l15 : K.lookup f15 = some ⟨oc15, od15, .func (PySem.W.fnOf "is_name" "is_name" (defArgs st_is_name) (defBody st_is_name) (defScope st_is_name) .none kV15 dc15 pm15 an15 cd15 ct15), sl15⟩)
    (c15 : PySem.W.codeIn K cd15 "is_name" = true)
    (k15 : PySem.W.keepIn K (.ref f15) = true)
    (a16 : PySem.W.nsIn K mainGlobals "are_names" = some (some (.ref f16)))
    (l16 : K.lookup f16 = some ⟨oc16, od16, .func (PySem.W.fnOf "are_names" "are_names" (defArgs st_are_names) (defBody st_are_names) (defScope st_are_names) (.ref Td16) kV16 dc16 pm16 an16 cd16 ct16), sl16⟩)
    (c16 : PySem.W.codeIn K cd16 "are_names" = true)
    (k16 : PySem.W.keepIn K (.ref f16) = true)
    (lt16 : K.lookup Td16 = some ⟨.type "tuple", oT16, .seq #[.int 24 tk16_0] nT16, sT16⟩)
    (a17 : PySem.W.nsIn K mainGlobals "need_names" = some (some (.ref f17)))
    (l17 : K.lookup f17 = some ⟨oc17, od17, .func (PySem.W.fnOf "need_names" "need_names" (defArgs st_need_names) (defBody st_need_names) (defScope st_need_names) .none (.ref Dk17) dc17 pm17 an17 cd17 ct17), sl17⟩)
    (c17 : PySem.W.codeIn K cd17 "need_names" = true)
    (k17 : PySem.W.keepIn K (.ref f17) = true)
    (lk17_most : PySem.W.nsIn K Dk17 "most" = some (some (.int 24 tk17_most)))
    (a18 : PySem.W.nsIn K mainGlobals "are_together" = some (some (.ref f18)))
    (l18 : K.lookup f18 = some ⟨oc18, od18, .func (PySem.W.fnOf "are_together" "are_together" (defArgs st_are_together) (defBody st_are_together) (defScope st_are_together) .none kV18 dc18 pm18 an18 cd18 ct18), sl18⟩)
    (c18 : PySem.W.codeIn K cd18 "are_together" = true)
    (k18 : PySem.W.keepIn K (.ref f18) = true)
    (a19 : PySem.W.nsIn K mainGlobals "need_grounds" = some (some (.ref f19)))
    (l19 : K.lookup f19 = some ⟨oc19, od19, .func (PySem.W.fnOf "need_grounds" "need_grounds" (defArgs st_need_grounds) (defBody st_need_grounds) (defScope st_need_grounds) .none (.ref Dk19) dc19 pm19 an19 cd19 ct19), sl19⟩)
    (c19 : PySem.W.codeIn K cd19 "need_grounds" = true)
    (k19 : PySem.W.keepIn K (.ref f19) = true)
    (lk19_most : PySem.W.nsIn K Dk19 "most" = some (some (.int 24 tk19_most)))
    (a20 : PySem.W.nsIn K mainGlobals "stands" = some (some (.ref f20)))
    (l20 : K.lookup f20 = some ⟨oc20, od20, .func (PySem.W.fnOf "stands" "stands" (defArgs st_stands) (defBody st_stands) (defScope st_stands) .none kV20 dc20 pm20 an20 cd20 ct20), sl20⟩)
    (c20 : PySem.W.codeIn K cd20 "stands" = true)
    (k20 : PySem.W.keepIn K (.ref f20) = true)
    (a21 : PySem.W.nsIn K mainGlobals "rounds" = some (some (.ref f21)))
    (l21 : K.lookup f21 = some ⟨oc21, od21, .func (PySem.W.fnOf "rounds" "rounds" (defArgs st_rounds) (defBody st_rounds) (defScope st_rounds) .none kV21 dc21 pm21 an21 cd21 ct21), sl21⟩)
    (c21 : PySem.W.codeIn K cd21 "rounds" = true)
    (k21 : PySem.W.keepIn K (.ref f21) = true)
    (a22 : PySem.W.nsIn K mainGlobals "levels" = some (some (.ref f22)))
    (l22 : K.lookup f22 = some ⟨oc22, od22, .func (PySem.W.fnOf "levels" "levels" (defArgs st_levels) (defBody st_levels) (defScope st_levels) .none kV22 dc22 pm22 an22 cd22 ct22), sl22⟩)
    (c22 : PySem.W.codeIn K cd22 "levels" = true)
    (k22 : PySem.W.keepIn K (.ref f22) = true)
    (a23 : PySem.W.findIn K (.ref A_Rule) "__init__" = some (some (.ref f23)))
    (i23 : PySem.W.isFn K (.ref f23) = true)
    (l23 : K.lookup f23 = some ⟨oc23, od23, .func (PySem.W.fnOf "__init__" "Rule.__init__" (defArgs st_Rule___init__) (defBody st_Rule___init__) (defScope st_Rule___init__) (.ref Td23) (.ref Dk23) dc23 pm23 an23 cd23 ct23), sl23⟩)
    (c23 : PySem.W.codeIn K cd23 "Rule.__init__" = true)
    (k23 : PySem.W.keepIn K (.ref f23) = true)
    (lt23 : K.lookup Td23 = some ⟨.type "tuple", oT23, .seq #[.ref E23_0] nT23, sT23⟩)
    (lk23_unless : PySem.W.nsIn K Dk23 "unless" = some (some (.ref E23_unless)))
    (e23_0 : K.lookup E23_0 = some ⟨.type "tuple", oE23_0, .seq #[] nE23_0, sE23_0⟩)
    (e23_unless : K.lookup E23_unless = some ⟨.type "tuple", oE23_unless, .seq #[] nE23_unless, sE23_unless⟩)
    (mk_Rule : PySem.W.makesIn K A_Rule = true)
    (kc_Rule : PySem.W.keepIn K (.ref A_Rule) = true)
    (a24 : PySem.W.nsIn K mainGlobals "law" = some (some (.ref f24)))
    (l24 : K.lookup f24 = some ⟨oc24, od24, .func (PySem.W.fnOf "law" "law" (defArgs st_law) (defBody st_law) (defScope st_law) .none kV24 dc24 pm24 an24 cd24 ct24), sl24⟩)
    (c24 : PySem.W.codeIn K cd24 "law" = true)
    (k24 : PySem.W.keepIn K (.ref f24) = true)
    (z_len : PySem.W.nsIn K mainGlobals "len" = some none)
    (z_range : PySem.W.nsIn K mainGlobals "range" = some none)
    (z_list : PySem.W.nsIn K mainGlobals "list" = some none)
    (z_min : PySem.W.nsIn K mainGlobals "min" = some none)
    (z_tuple : PySem.W.nsIn K mainGlobals "tuple" = some none)
    (z_dict : PySem.W.nsIn K mainGlobals "dict" = some none)
    (z_isinstance : PySem.W.nsIn K mainGlobals "isinstance" = some none)
    (z_all : PySem.W.nsIn K mainGlobals "all" = some none)
    (z_any : PySem.W.nsIn K mainGlobals "any" = some none)
    (z_str : PySem.W.nsIn K mainGlobals "str" = some none)
    (z_set : PySem.W.nsIn K mainGlobals "set" = some none)
    (z_enumerate : PySem.W.nsIn K mainGlobals "enumerate" = some none)
    (z_sorted : PySem.W.nsIn K mainGlobals "sorted" = some none)
    (z_bool : PySem.W.nsIn K mainGlobals "bool" = some none)
    (z_int : PySem.W.nsIn K mainGlobals "int" = some none)
    (g_MOST_RULES : PySem.W.nsIn K mainGlobals "MOST_RULES" = some (some (.int 40 t_MOST_RULES)))
    (g_MOST_NAMES : PySem.W.nsIn K mainGlobals "MOST_NAMES" = some (some (.int 24 t_MOST_NAMES)))
    (g_LONGEST : PySem.W.nsIn K mainGlobals "LONGEST" = some (some (.int 8 t_LONGEST)))
    (g_KEPT : PySem.W.nsIn K mainGlobals "KEPT" = some (some (.ref q_KEPT)))
    (q_KEPTl : K.lookup q_KEPT = some ⟨.type "tuple", e_KEPT, .seq #[.str "not" t0_KEPT, .str "never" t1_KEPT, .str "may" t2_KEPT] n_KEPT, o_KEPT⟩)
    (g_MOST_BODY : PySem.W.nsIn K mainGlobals "MOST_BODY" = some (some (.int 6 t_MOST_BODY)))
    (g_MOST_UNLESS : PySem.W.nsIn K mainGlobals "MOST_UNLESS" = some (some (.int 4 t_MOST_UNLESS)))
    : ∃ fd : FuncData, (∀ (s : Shared) (u : Value), BindsTo s fd ⟨[u], []⟩ [("script", u)]) ∧ ∀ base : Heap, K.In base → base.Ns mainGlobals mg → FnOk l.prog w K mg base (L2.CX l.prog w) 8 fa fd ["script"] (SpM ⟨K, l.prog, w⟩ mg 1 m_law) := by
  have e : fa = f24 := by
    have e := hfa.symm.trans (PySem.W.mg_of X G a24)
    cases e
    rfl
  rw [e]
  have K2_0 := kb_plain (fund_mk (K := ⟨K, l.prog, w⟩) (st := st__law_kept) (dvs := []) (kws := []) l2 c2 k2 (.inl ⟨rfl, rfl⟩) (.inl rfl)) 0 [] [] (fun us ws => (us ++ [])) (fun h1 h2 => (L2.Vals.append h1 .nil)) (fun _ _ _ _ _ _ us ws h1 h2 => match us, ws, h1, h2 with | [], [], _, _ => rfl)
  have F16 := fund_mk (K := ⟨K, l.prog, w⟩) (st := st_are_names) (dvs := ([.int 24] : List V)) (kws := ([] : List (Str × V))) l16 c16 k16 (.inr ⟨by simp, Td16, _, [.int 24 tk16_0], nT16, rfl, lt16, rfl, (.cons ⟨_, rfl⟩ .nil)⟩) (.inl rfl)
  have F17 := fund_mk (K := ⟨K, l.prog, w⟩) (st := st_need_names) (dvs := ([] : List V)) (kws := ([("most", .int 24)] : List (Str × V))) l17 c17 k17 (.inl ⟨rfl, rfl⟩) (.inr ⟨Dk17, rfl, by
      simp only [List.mem_cons, List.not_mem_nil, or_false, forall_eq_or_imp, forall_eq]
      exact ⟨_, lk17_most, ⟨_, rfl⟩⟩⟩)
  have K17_0 := kb_plain F17 1 ["most"] ["thing", "most"] (fun us ws => (us ++ ((ws[0]?).toList ++ []))) (fun h1 h2 => (L2.Vals.append h1 (.append (vals_at h2 0) .nil))) (fun _ _ _ _ _ _ us ws h1 h2 => match us, ws, h1, h2 with | [_], [_], _, _ => rfl)
  have F19 := fund_mk (K := ⟨K, l.prog, w⟩) (st := st_need_grounds) (dvs := ([] : List V)) (kws := ([("most", .int 24)] : List (Str × V))) l19 c19 k19 (.inl ⟨rfl, rfl⟩) (.inr ⟨Dk19, rfl, by
      simp only [List.mem_cons, List.not_mem_nil, or_false, forall_eq_or_imp, forall_eq]
      exact ⟨_, lk19_most, ⟨_, rfl⟩⟩⟩)
  obtain ⟨m19_0, K19_0⟩ := F19.kbinds0 (ps := ["rules", "grounds", "most"]) 2 [] ([("most", .int 24)] : List (Str × V)) (fun us mv ws => (us ++ ((mv[0]?).toList ++ []))) (by simp) (by simp) (fun h1 h3 h4 => (L2.Vals.append h1 (.append (vals_at h3 0) .nil))) (fun D doc pm an cdv ct us mv ws h1 h3 h4 => match us, mv, ws, h1, h3, h4 with | [_, _], [_], [], _, _, _ => ⟨_, _, _, _, _, _, rfl, rfl, (show _ = pure _ from rfl)⟩)
  have K22_0 := kb_plain (fund_mk (K := ⟨K, l.prog, w⟩) (st := st_levels) (dvs := []) (kws := []) l22 c22 k22 (.inl ⟨rfl, rfl⟩) (.inl rfl)) 0 ["grounds", "rules"] ["rules", "grounds"] (fun us ws => (us ++ ((ws[1]?).toList ++ ((ws[0]?).toList ++ [])))) (fun h1 h2 => (L2.Vals.append h1 (.append (vals_at h2 1) (.append (vals_at h2 0) .nil)))) (fun _ _ _ _ _ _ us ws h1 h2 => match us, ws, h1, h2 with | [], [_, _], _, _ => rfl)
  have F23 := fund_mk (K := ⟨K, l.prog, w⟩) (st := st_Rule___init__) (dvs := ([.ref E23_0] : List V)) (kws := ([("unless", .ref E23_unless)] : List (Str × V))) l23 c23 k23 (.inr ⟨by simp, Td23, _, [.ref E23_0], nT23, rfl, lt23, rfl, (.cons rfl .nil)⟩) (.inr ⟨Dk23, rfl, by
      simp only [List.mem_cons, List.not_mem_nil, or_false, forall_eq_or_imp, forall_eq]
      exact ⟨_, lk23_unless, rfl⟩⟩)
  obtain ⟨i23_0, m23_0, K23_0⟩ := F23.kbinds (ps := ["self", "head", "body", "unless"]) 3 [] ([("unless", .ref E23_unless)] : List (Str × V)) (fun us its mv ws => (us ++ ((mv[0]?).toList ++ []))) (by simp) (by simp) (by simp) (fun h1 h2 h3 h4 => (L2.Vals.append h1 (.append (vals_at h3 0) .nil))) (fun T D doc pm an cdv ct us its mv ws h1 h2 h3 h4 => match us, its, mv, ws, h1, h2, h3, h4 with | [_, _, _], [_], [_], [], _, _, _, _ => ⟨_, rfl, ⟨_, _, _, _, _, _, rfl, rfl, (show _ = pure _ from rfl)⟩⟩)
  obtain ⟨T, e1, e2⟩ : ∃ T : Txt ⟨K, l.prog, w⟩ mg, T.f24 = f24 ∧ T.d24 = (PySem.W.fnOf "law" "law" (defArgs st_law) (defBody st_law) (defScope st_law) .none kV24 dc24 pm24 an24 cd24 ct24) := ⟨{
    A_Rule := A_Rule,
    C_Rule := ⟨PySem.W.mg_of X G a_Rule, ⟨pg_Rule, hd_Rule, po_Rule, sa_Rule⟩⟩,
    fl_head := by
      intro c hc
      simp only [List.mem_cons, List.not_mem_nil, or_false] at hc
      rcases hc with rfl
      · exact ⟨fun C hC => by
          rw [PySem.W.mg_of X G a_Rule] at hC
          cases hC
          exact ⟨⟨pg_Rule, hd_Rule, po_Rule, sa_Rule⟩, nf_Rule_head⟩⟩,
    fl_body := by
      intro c hc
      simp only [List.mem_cons, List.not_mem_nil, or_false] at hc
      rcases hc with rfl
      · exact ⟨fun C hC => by
          rw [PySem.W.mg_of X G a_Rule] at hC
          cases hC
          exact ⟨⟨pg_Rule, hd_Rule, po_Rule, sa_Rule⟩, nf_Rule_body⟩⟩,
    fl_unless := by
      intro c hc
      simp only [List.mem_cons, List.not_mem_nil, or_false] at hc
      rcases hc with rfl
      · exact ⟨fun C hC => by
          rw [PySem.W.mg_of X G a_Rule] at hC
          cases hC
          exact ⟨⟨pg_Rule, hd_Rule, po_Rule, sa_Rule⟩, nf_Rule_unless⟩⟩,
    is_Rule := ⟨fun n b h => tab_all (P := fun n b => PySem.W.kitOne K (.type n) (.ref A_Rule) = some b) (by
        simp only [List.mem_cons, List.not_mem_nil, or_false, forall_eq_or_imp, forall_eq]
        exact ⟨kit_sub (K := ⟨K, l.prog, w⟩) ik_Rule it_Rule rfl su_Rule_NoneType, kit_sub (K := ⟨K, l.prog, w⟩) ik_Rule it_Rule rfl su_Rule_bool, kit_sub (K := ⟨K, l.prog, w⟩) ik_Rule it_Rule rfl su_Rule_int, kit_sub (K := ⟨K, l.prog, w⟩) ik_Rule it_Rule rfl su_Rule_str, kit_sub (K := ⟨K, l.prog, w⟩) ik_Rule it_Rule rfl su_Rule_list, kit_sub (K := ⟨K, l.prog, w⟩) ik_Rule it_Rule rfl su_Rule_tuple, kit_sub (K := ⟨K, l.prog, w⟩) ik_Rule it_Rule rfl su_Rule_dict⟩) n b h, fun x b h => tab_all (P := fun x b => ∃ C, mg x = some (.ref C) ∧ ClsTy ⟨K, l.prog, w⟩ C ∧ PySem.W.kitOne K (.ref C) (.ref A_Rule) = some b) (by
        simp only [List.mem_cons, List.not_mem_nil, or_false, forall_eq]
        exact ⟨A_Rule, PySem.W.mg_of X G a_Rule, ⟨⟨pg_Rule, hd_Rule, po_Rule, sa_Rule⟩, ic_Rule, ocn, oct, im_Rule⟩, (kit_self (K := ⟨K, l.prog, w⟩))⟩) x b h⟩,
    f0 := f0,
    d0 := (PySem.W.fnOf "_law_begun" "_law_begun" (defArgs st__law_begun) (defBody st__law_begun) (defScope st__law_begun) .none kV0 dc0 pm0 an0 cd0 ct0),
    F0 := fun_mk (st := st__law_begun) l0 c0 k0,
    b0 := (fun_mk (st := st__law_begun) l0 c0 k0).binds (ps := ["script"]) fun _ _ _ _ _ _ us hl => match us, hl with | [_], _ => rfl,
    g0 := PySem.W.mg_of X G a0,
    f1 := f1,
    d1 := (PySem.W.fnOf "_law_take" "_law_take" (defArgs st__law_take) (defBody st__law_take) (defScope st__law_take) .none kV1 dc1 pm1 an1 cd1 ct1),
    F1 := fun_mk (st := st__law_take) l1 c1 k1,
    b1 := (fun_mk (st := st__law_take) l1 c1 k1).binds (ps := ["state", "many"]) fun _ _ _ _ _ _ us hl => match us, hl with | [_, _], _ => rfl,
    g1 := PySem.W.mg_of X G a1,
    f2 := f2,
    d2 := (PySem.W.fnOf "_law_kept" "_law_kept" (defArgs st__law_kept) (defBody st__law_kept) (defScope st__law_kept) .none kV2 dc2 pm2 an2 cd2 ct2),
    F2 := fun_mk (st := st__law_kept) l2 c2 k2,
    b2 := (fun_mk (st := st__law_kept) l2 c2 k2).binds (ps := []) fun _ _ _ _ _ _ us hl => match us, hl with | [], _ => rfl,
    kg2_0 := _,
    kb2_0 := K2_0,
    g2 := PySem.W.mg_of X G a2,
    f3 := f3,
    d3 := (PySem.W.fnOf "_law_name" "_law_name" (defArgs st__law_name) (defBody st__law_name) (defScope st__law_name) .none kV3 dc3 pm3 an3 cd3 ct3),
    F3 := fun_mk (st := st__law_name) l3 c3 k3,
    b3 := (fun_mk (st := st__law_name) l3 c3 k3).binds (ps := ["state", "used"]) fun _ _ _ _ _ _ us hl => match us, hl with | [_, _], _ => rfl,
    g3 := PySem.W.mg_of X G a3,
    f4 := f4,
    d4 := (PySem.W.fnOf "_law_names" "_law_names" (defArgs st__law_names) (defBody st__law_names) (defScope st__law_names) .none kV4 dc4 pm4 an4 cd4 ct4),
    F4 := fun_mk (st := st__law_names) l4 c4 k4,
    b4 := (fun_mk (st := st__law_names) l4 c4 k4).binds (ps := ["state", "used", "many"]) fun _ _ _ _ _ _ us hl => match us, hl with | [_, _, _], _ => rfl,
    g4 := PySem.W.mg_of X G a4,
    f5 := f5,
    d5 := (PySem.W.fnOf "_law_chain" "_law_chain" (defArgs st__law_chain) (defBody st__law_chain) (defScope st__law_chain) .none kV5 dc5 pm5 an5 cd5 ct5),
    F5 := fun_mk (st := st__law_chain) l5 c5 k5,
    b5 := (fun_mk (st := st__law_chain) l5 c5 k5).binds (ps := ["state", "used"]) fun _ _ _ _ _ _ us hl => match us, hl with | [_, _], _ => rfl,
    g5 := PySem.W.mg_of X G a5,
    f6 := f6,
    d6 := (PySem.W.fnOf "_law_pair" "_law_pair" (defArgs st__law_pair) (defBody st__law_pair) (defScope st__law_pair) .none kV6 dc6 pm6 an6 cd6 ct6),
    F6 := fun_mk (st := st__law_pair) l6 c6 k6,
    b6 := (fun_mk (st := st__law_pair) l6 c6 k6).binds (ps := ["state", "names"]) fun _ _ _ _ _ _ us hl => match us, hl with | [_, _], _ => rfl,
    g6 := PySem.W.mg_of X G a6,
    f7 := f7,
    d7 := (PySem.W.fnOf "_law_pairs" "_law_pairs" (defArgs st__law_pairs) (defBody st__law_pairs) (defScope st__law_pairs) .none kV7 dc7 pm7 an7 cd7 ct7),
    F7 := fun_mk (st := st__law_pairs) l7 c7 k7,
    b7 := (fun_mk (st := st__law_pairs) l7 c7 k7).binds (ps := ["state", "names", "most"]) fun _ _ _ _ _ _ us hl => match us, hl with | [_, _, _], _ => rfl,
    g7 := PySem.W.mg_of X G a7,
    f8 := f8,
    d8 := (PySem.W.fnOf "_law_some" "_law_some" (defArgs st__law_some) (defBody st__law_some) (defScope st__law_some) .none kV8 dc8 pm8 an8 cd8 ct8),
    F8 := fun_mk (st := st__law_some) l8 c8 k8,
    b8 := (fun_mk (st := st__law_some) l8 c8 k8).binds (ps := ["state", "names"]) fun _ _ _ _ _ _ us hl => match us, hl with | [_, _], _ => rfl,
    g8 := PySem.W.mg_of X G a8,
    f9 := f9,
    d9 := (PySem.W.fnOf "_law_levels" "_law_levels" (defArgs st__law_levels) (defBody st__law_levels) (defScope st__law_levels) .none kV9 dc9 pm9 an9 cd9 ct9),
    F9 := fun_mk (st := st__law_levels) l9 c9 k9,
    b9 := (fun_mk (st := st__law_levels) l9 c9 k9).binds (ps := ["pairs", "some"]) fun _ _ _ _ _ _ us hl => match us, hl with | [_, _], _ => rfl,
    g9 := PySem.W.mg_of X G a9,
    f10 := f10,
    d10 := (PySem.W.fnOf "names" "Rule.names" (defArgs st_Rule_names) (defBody st_Rule_names) (defScope st_Rule_names) .none kV10 dc10 pm10 an10 cd10 ct10),
    F10 := fun_mk (st := st_Rule_names) l10 c10 k10,
    b10 := (fun_mk (st := st_Rule_names) l10 c10 k10).binds (ps := ["self"]) fun _ _ _ _ _ _ us hl => match us, hl with | [_], _ => rfl,
    m_Rule_names := ⟨a10, i10, k10⟩,
    f11 := f11,
    d11 := (PySem.W.fnOf "names_of" "names_of" (defArgs st_names_of) (defBody st_names_of) (defScope st_names_of) .none kV11 dc11 pm11 an11 cd11 ct11),
    F11 := fun_mk (st := st_names_of) l11 c11 k11,
    b11 := (fun_mk (st := st_names_of) l11 c11 k11).binds (ps := ["rules"]) fun _ _ _ _ _ _ us hl => match us, hl with | [_], _ => rfl,
    g11 := PySem.W.mg_of X G a11,
    f12 := f12,
    d12 := (PySem.W.fnOf "is_base" "is_base" (defArgs st_is_base) (defBody st_is_base) (defScope st_is_base) .none kV12 dc12 pm12 an12 cd12 ct12),
    F12 := fun_mk (st := st_is_base) l12 c12 k12,
    b12 := (fun_mk (st := st_is_base) l12 c12 k12).binds (ps := ["thing"]) fun _ _ _ _ _ _ us hl => match us, hl with | [_], _ => rfl,
    g12 := PySem.W.mg_of X G a12,
    f13 := f13,
    d13 := (PySem.W.fnOf "need_base" "need_base" (defArgs st_need_base) (defBody st_need_base) (defScope st_need_base) .none kV13 dc13 pm13 an13 cd13 ct13),
    F13 := fun_mk (st := st_need_base) l13 c13 k13,
    b13 := (fun_mk (st := st_need_base) l13 c13 k13).binds (ps := ["thing"]) fun _ _ _ _ _ _ us hl => match us, hl with | [_], _ => rfl,
    g13 := PySem.W.mg_of X G a13,
    f14 := f14,
    d14 := (PySem.W.fnOf "need_plain" "need_plain" (defArgs st_need_plain) (defBody st_need_plain) (defScope st_need_plain) .none kV14 dc14 pm14 an14 cd14 ct14),
    F14 := fun_mk (st := st_need_plain) l14 c14 k14,
    b14 := (fun_mk (st := st_need_plain) l14 c14 k14).binds (ps := ["thing"]) fun _ _ _ _ _ _ us hl => match us, hl with | [_], _ => rfl,
    g14 := PySem.W.mg_of X G a14,
    f15 := f15,
    d15 := (PySem.W.fnOf "is_name" "is_name" (defArgs st_is_name) (defBody st_is_name) (defScope st_is_name) .none kV15 dc15 pm15 an15 cd15 ct15),
    F15 := fun_mk (st := st_is_name) l15 c15 k15,
    b15 := (fun_mk (st := st_is_name) l15 c15 k15).binds (ps := ["thing"]) fun _ _ _ _ _ _ us hl => match us, hl with | [_], _ => rfl,
    g15 := PySem.W.mg_of X G a15,
    f16 := f16,
    d16 := (PySem.W.fnOf "are_names" "are_names" (defArgs st_are_names) (defBody st_are_names) (defScope st_are_names) (.ref Td16) kV16 dc16 pm16 an16 cd16 ct16),
    F16 := F16,
    b16 := binds_full F16 (by simp) fun _ _ _ _ _ _ _ us its h1 h2 => match us, its, h1, h2 with | [_, _], [_], _, _ => ⟨_, rfl, rfl⟩,
    g16 := PySem.W.mg_of X G a16,
    f17 := f17,
    d17 := (PySem.W.fnOf "need_names" "need_names" (defArgs st_need_names) (defBody st_need_names) (defScope st_need_names) .none (.ref Dk17) dc17 pm17 an17 cd17 ct17),
    F17 := F17,
    kg17_0 := _,
    kb17_0 := K17_0,
    g17 := PySem.W.mg_of X G a17,
    f18 := f18,
    d18 := (PySem.W.fnOf "are_together" "are_together" (defArgs st_are_together) (defBody st_are_together) (defScope st_are_together) .none kV18 dc18 pm18 an18 cd18 ct18),
    F18 := fun_mk (st := st_are_together) l18 c18 k18,
    b18 := (fun_mk (st := st_are_together) l18 c18 k18).binds (ps := ["rules", "names"]) fun _ _ _ _ _ _ us hl => match us, hl with | [_, _], _ => rfl,
    g18 := PySem.W.mg_of X G a18,
    f19 := f19,
    d19 := (PySem.W.fnOf "need_grounds" "need_grounds" (defArgs st_need_grounds) (defBody st_need_grounds) (defScope st_need_grounds) .none (.ref Dk19) dc19 pm19 an19 cd19 ct19),
    F19 := F19,
    kg19_0 := _,
    kb19_0 := K19_0,
    g19 := PySem.W.mg_of X G a19,
    f20 := f20,
    d20 := (PySem.W.fnOf "stands" "stands" (defArgs st_stands) (defBody st_stands) (defScope st_stands) .none kV20 dc20 pm20 an20 cd20 ct20),
    F20 := fun_mk (st := st_stands) l20 c20 k20,
    b20 := (fun_mk (st := st_stands) l20 c20 k20).binds (ps := ["rule", "names"]) fun _ _ _ _ _ _ us hl => match us, hl with | [_, _], _ => rfl,
    g20 := PySem.W.mg_of X G a20,
    f21 := f21,
    d21 := (PySem.W.fnOf "rounds" "rounds" (defArgs st_rounds) (defBody st_rounds) (defScope st_rounds) .none kV21 dc21 pm21 an21 cd21 ct21),
    F21 := fun_mk (st := st_rounds) l21 c21 k21,
    b21 := (fun_mk (st := st_rounds) l21 c21 k21).binds (ps := ["rules", "grounds"]) fun _ _ _ _ _ _ us hl => match us, hl with | [_, _], _ => rfl,
    g21 := PySem.W.mg_of X G a21,
    f22 := f22,
    d22 := (PySem.W.fnOf "levels" "levels" (defArgs st_levels) (defBody st_levels) (defScope st_levels) .none kV22 dc22 pm22 an22 cd22 ct22),
    F22 := fun_mk (st := st_levels) l22 c22 k22,
    b22 := (fun_mk (st := st_levels) l22 c22 k22).binds (ps := ["rules", "grounds"]) fun _ _ _ _ _ _ us hl => match us, hl with | [_, _], _ => rfl,
    kg22_0 := _,
    kb22_0 := K22_0,
    g22 := PySem.W.mg_of X G a22,
    E23_0 := E23_0,
    p23_0 := rep_unit e23_0,
    E23_unless := E23_unless,
    p23_unless := rep_unit e23_unless,
    f23 := f23,
    d23 := (PySem.W.fnOf "__init__" "Rule.__init__" (defArgs st_Rule___init__) (defBody st_Rule___init__) (defScope st_Rule___init__) (.ref Td23) (.ref Dk23) dc23 pm23 an23 cd23 ct23),
    F23 := F23,
    kg23_0 := _,
    kb23_0 := K23_0,
    M_Rule := ⟨mk_Rule, a23, i23, kc_Rule⟩,
    f24 := f24,
    d24 := (PySem.W.fnOf "law" "law" (defArgs st_law) (defBody st_law) (defScope st_law) .none kV24 dc24 pm24 an24 cd24 ct24),
    F24 := fun_mk (st := st_law) l24 c24 k24,
    b24 := (fun_mk (st := st_law) l24 c24 k24).binds (ps := ["script"]) fun _ _ _ _ _ _ us hl => match us, hl with | [_], _ => rfl,
    g24 := PySem.W.mg_of X G a24,
    z_len := PySem.W.mg_none_of X G z_len,
    z_range := PySem.W.mg_none_of X G z_range,
    z_list := PySem.W.mg_none_of X G z_list,
    z_min := PySem.W.mg_none_of X G z_min,
    z_tuple := PySem.W.mg_none_of X G z_tuple,
    z_dict := PySem.W.mg_none_of X G z_dict,
    z_isinstance := PySem.W.mg_none_of X G z_isinstance,
    z_all := PySem.W.mg_none_of X G z_all,
    z_any := PySem.W.mg_none_of X G z_any,
    z_str := PySem.W.mg_none_of X G z_str,
    z_set := PySem.W.mg_none_of X G z_set,
    z_enumerate := PySem.W.mg_none_of X G z_enumerate,
    z_sorted := PySem.W.mg_none_of X G z_sorted,
    z_bool := PySem.W.mg_none_of X G z_bool,
    z_int := PySem.W.mg_none_of X G z_int,
    v_MOST_RULES := .int 40,
    u_MOST_RULES := (.int 40 t_MOST_RULES),
    g_MOST_RULES := PySem.W.mg_of X G g_MOST_RULES,
    r_MOST_RULES := ⟨_, rfl⟩,
    p_MOST_RULES := fun _ _ => .int _,
    v_MOST_NAMES := .int 24,
    u_MOST_NAMES := (.int 24 t_MOST_NAMES),
    g_MOST_NAMES := PySem.W.mg_of X G g_MOST_NAMES,
    r_MOST_NAMES := ⟨_, rfl⟩,
    p_MOST_NAMES := fun _ _ => .int _,
    v_LONGEST := .int 8,
    u_LONGEST := (.int 8 t_LONGEST),
    g_LONGEST := PySem.W.mg_of X G g_LONGEST,
    r_LONGEST := ⟨_, rfl⟩,
    p_LONGEST := fun _ _ => .int _,
    v_KEPT := .ref q_KEPT,
    u_KEPT := .ref q_KEPT,
    g_KEPT := PySem.W.mg_of X G g_KEPT,
    r_KEPT := rfl,
    p_KEPT := rep_tup (xs := [.str "not", .str "never", .str "may"]) q_KEPTl (show 3 ≤ sizeLine by decide) (.cons ⟨_, rfl⟩ (.cons ⟨_, rfl⟩ (.cons ⟨_, rfl⟩ .nil))) fun _ _ => (.cons (.str _) (.cons (.str _) (.cons (.str _) .nil))),
    v_MOST_BODY := .int 6,
    u_MOST_BODY := (.int 6 t_MOST_BODY),
    g_MOST_BODY := PySem.W.mg_of X G g_MOST_BODY,
    r_MOST_BODY := ⟨_, rfl⟩,
    p_MOST_BODY := fun _ _ => .int _,
    v_MOST_UNLESS := .int 4,
    u_MOST_UNLESS := (.int 4 t_MOST_UNLESS),
    g_MOST_UNLESS := PySem.W.mg_of X G g_MOST_UNLESS,
    r_MOST_UNLESS := ⟨_, rfl⟩,
    p_MOST_UNLESS := fun _ _ => .int _ }, rfl, rfl⟩
  have g := fun base => ok_law (base := base) T
  rw [e1, e2] at g
  exact ⟨(PySem.W.fnOf "law" "law" (defArgs st_law) (defBody st_law) (defScope st_law) .none kV24 dc24 pm24 an24 cd24 ct24), fun s v => .of_eq rfl, fun base _ _ => g base⟩
end Nk12

open PySem PySem.W PyProof.Rows
set_option maxRecDepth 100000 in
set_option maxHeartbeats 0 in
theorem PySem.Challenge.cw_groundlots_k12_levels_holds : PySem.Challenge.rw_groundlots_k12_levels.Holds := by
  w_on; o_law; k_head; (case hw => w_witness2)
  k_fill
  refine Gd.walk (l := PySem.Challenge.rw_groundlots_k12_levels) (n := 63) (k := 8) (m := Nk12.m_law) rfl (by decide) rfl ⟨rfl, by decide, by decide⟩ Nk12.law_true (fun w h Y => PySem.W.kIn_of Y) ?F
  case F =>
    intro w mg fa h KX G hmg
    refine' Nk12.all_mk KX G hmg ?a_Rule ?pg_Rule ?hd_Rule ?po_Rule ?sa_Rule ?nf_Rule_head ?nf_Rule_body ?nf_Rule_unless ?su_Rule_NoneType ?su_Rule_bool ?su_Rule_int ?su_Rule_str ?su_Rule_list ?su_Rule_tuple ?su_Rule_dict ?ik_Rule ?it_Rule ?ic_Rule ?im_Rule ?ocn ?oct ?a0 ?l0 ?c0 ?k0 ?a1 ?l1 ?c1 ?k1 ?a2 ?l2 ?c2 ?k2 ?a3 ?l3 ?c3 ?k3 ?a4 ?l4 ?c4 ?k4 ?a5 ?l5 ?c5 ?k5 ?a6 ?l6 ?c6 ?k6 ?a7 ?l7 ?c7 ?k7 ?a8 ?l8 ?c8 ?k8 ?a9 ?l9 ?c9 ?k9 ?a10 ?i10 ?l10 ?c10 ?k10 ?a11 ?l11 ?c11 ?k11 ?a12 ?l12 ?c12 ?k12 ?a13 ?l13 ?c13 ?k13 ?a14 ?l14 ?c14 ?k14 ?a15 ?l15 ?c15 ?k15 ?a16 ?l16 ?c16 ?k16 ?lt16 ?a17 ?l17 ?c17 ?k17 ?lk17_most ?a18 ?l18 ?c18 ?k18 ?a19 ?l19 ?c19 ?k19 ?lk19_most ?a20 ?l20 ?c20 ?k20 ?a21 ?l21 ?c21 ?k21 ?a22 ?l22 ?c22 ?k22 ?a23 ?i23 ?l23 ?c23 ?k23 ?lt23 ?lk23_unless ?e23_0 ?e23_unless ?mk_Rule ?kc_Rule ?a24 ?l24 ?c24 ?k24 ?z_len ?z_range ?z_list ?z_min ?z_tuple ?z_dict ?z_isinstance ?z_all ?z_any ?z_str ?z_set ?z_enumerate ?z_sorted ?z_bool ?z_int ?g_MOST_RULES ?g_MOST_NAMES ?g_LONGEST ?g_KEPT ?q_KEPTl ?g_MOST_BODY ?g_MOST_UNLESS
    (case a_Rule => k_is); (case pg_Rule => k_is); (case hd_Rule => k_is); (case po_Rule => k_is); (case sa_Rule => k_is)
    (case nf_Rule_head => k_is); (case nf_Rule_body => k_is); (case nf_Rule_unless => k_is); (case su_Rule_NoneType => k_is); (case su_Rule_bool => k_is)
    (case su_Rule_int => k_is); (case su_Rule_str => k_is); (case su_Rule_list => k_is); (case su_Rule_tuple => k_is); (case su_Rule_dict => k_is)
    (case ik_Rule => k_is); (case it_Rule => k_is); (case ic_Rule => k_is); (case im_Rule => k_is); (case ocn => k_is)
    (case oct => k_is); (case a0 => k_is); (case l0 => k_is); (case c0 => k_is); (case k0 => k_is)
    (case a1 => k_is); (case l1 => k_is); (case c1 => k_is); (case k1 => k_is); (case a2 => k_is)
    (case l2 => k_is); (case c2 => k_is); (case k2 => k_is); (case a3 => k_is); (case l3 => k_is)
    (case c3 => k_is); (case k3 => k_is); (case a4 => k_is); (case l4 => k_is); (case c4 => k_is)
    (case k4 => k_is); (case a5 => k_is); (case l5 => k_is); (case c5 => k_is); (case k5 => k_is)
    (case a6 => k_is); (case l6 => k_is); (case c6 => k_is); (case k6 => k_is); (case a7 => k_is)
    (case l7 => k_is); (case c7 => k_is); (case k7 => k_is); (case a8 => k_is); (case l8 => k_is)
    (case c8 => k_is); (case k8 => k_is); (case a9 => k_is); (case l9 => k_is); (case c9 => k_is)
    (case k9 => k_is); (case a10 => k_is); (case i10 => k_is); (case l10 => k_is); (case c10 => k_is)
    (case k10 => k_is); (case a11 => k_is); (case l11 => k_is); (case c11 => k_is); (case k11 => k_is)
    (case a12 => k_is); (case l12 => k_is); (case c12 => k_is); (case k12 => k_is); (case a13 => k_is)
    (case l13 => k_is); (case c13 => k_is); (case k13 => k_is); (case a14 => k_is); (case l14 => k_is)
    (case c14 => k_is); (case k14 => k_is); (case a15 => k_is); (case l15 => k_is); (case c15 => k_is)
    (case k15 => k_is); (case a16 => k_is); (case l16 => k_is); (case c16 => k_is); (case k16 => k_is)
    (case lt16 => k_is); (case a17 => k_is); (case l17 => k_is); (case c17 => k_is); (case k17 => k_is)
    (case lk17_most => k_is); (case a18 => k_is); (case l18 => k_is); (case c18 => k_is); (case k18 => k_is)
    (case a19 => k_is); (case l19 => k_is); (case c19 => k_is); (case k19 => k_is); (case lk19_most => k_is)
    (case a20 => k_is); (case l20 => k_is); (case c20 => k_is); (case k20 => k_is); (case a21 => k_is)
    (case l21 => k_is); (case c21 => k_is); (case k21 => k_is); (case a22 => k_is); (case l22 => k_is)
    (case c22 => k_is); (case k22 => k_is); (case a23 => k_is); (case i23 => k_is); (case l23 => k_is)
    (case c23 => k_is); (case k23 => k_is); (case lt23 => k_is); (case lk23_unless => k_is); (case e23_0 => k_is)
    (case e23_unless => k_is); (case mk_Rule => k_is); (case kc_Rule => k_is); (case a24 => k_is); (case l24 => k_is)
    (case c24 => k_is); (case k24 => k_is); (case z_len => k_is); (case z_range => k_is); (case z_list => k_is)
    (case z_min => k_is); (case z_tuple => k_is); (case z_dict => k_is); (case z_isinstance => k_is); (case z_all => k_is)
    (case z_any => k_is); (case z_str => k_is); (case z_set => k_is); (case z_enumerate => k_is); (case z_sorted => k_is)
    (case z_bool => k_is); (case z_int => k_is); (case g_MOST_RULES => k_is); (case g_MOST_NAMES => k_is); (case g_LONGEST => k_is)
    (case g_KEPT => k_is); (case q_KEPTl => k_is); (case g_MOST_BODY => k_is); (case g_MOST_UNLESS => k_is)
#print axioms PySem.Challenge.cw_groundlots_k12_levels_holds

