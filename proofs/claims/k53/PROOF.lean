import PyProof.Rows.All
import Wide.All
import OpenK.AllK
import Wide.FinOn
import HandS.ForMost
import HandS.IsInst
import HandS.TupAny
import HandS.FStr
import HandS.Wide
import HandS.Defaults
import HandS.Small
import HandS.Style
import HandS.WrittenGet
import HandS.HeadHook4
import HandS.EndBits
import HandS.HeadEnd
import HandS.Head0
import HandS.Head1
import HandS.Head2
import HandS.HeadHook1
import HandS.HeadHook2
import HandS.HeadHook3
import KE.GoesMore
import KE.GoesEnum
import HandS.Iter
import PySem.Challenge.RW_fourways_k53_fewest_trials_judged
set_option Elab.async false
set_option linter.all false
set_option maxRecDepth 100000
set_option maxHeartbeats 0
set_option autoImplicit false
namespace DL
open PySem PySem.Spec PyProof.Rows L2
/-! ## values as data -/
inductive D where
  | non | bl (b : Bool) | int (i : Int) | str (s : Str) | ref (a : Addr) | ty (n : String)
  | tup (xs : List D) | lst (xs : List D) | fzl (xs : List D) | ins (C : Addr) (fs : List (Str × D)) | dct (kvs : List (Key × D))
def okS (x : Str) : Bool := PyData.strOk x && decide (x.length ≤ 16777216)
def Ext (H H' : Hp) : Prop := ∀ a o, H a = some o → H' a = some o
theorem Ext.refl (H : Hp) : Ext H H := fun _ _ h => h
theorem Ext.trans {H H1 H2 : Hp} (a : Ext H H1) (b : Ext H1 H2) : Ext H H2 := fun x o h => b x o (a x o h)
theorem Ext.new {H : Hp} {p : Addr} {o : HO} (h : H p = none) : Ext H (upd H p o) := fun a u e => by
  rw [upd_ne (ne_of_none e h)]
  exact e
mutual
inductive Rep (K : PySem.W.Frag) (H : Hp) : V → D → Prop where
  | non : Rep K H .non .non
  | bl (b : Bool) : Rep K H (.bl b) (.bl b)
  | int (i : Int) : Rep K H (.int i) (.int i)
  | str (x : Str) (h : okS x = true) : Rep K H (.str x) (.str x)
  | ref (a : Addr) : Rep K H (.ref a) (.ref a)
  | ty (n : String) : Rep K H (.ty n) (.ty n)
  | tup {a : Addr} {vs : List V} {ds : List D} (h : SqT K H a vs) (l : vs.length ≤ 16777216) (r : Reps K H vs ds) : Rep K H (.ref a) (.tup ds)
  | lst {a : Addr} {vs : List V} {ds : List D} (h : H a = some (.lst vs)) (l : vs.length ≤ 16777216) (r : Reps K H vs ds) : Rep K H (.ref a) (.lst ds)
  | fzl {a : Addr} {vs : List V} {ds : List D} (h : SqL K H a vs) (l : vs.length ≤ 16777216) (r : Reps K H vs ds) : Rep K H (.ref a) (.fzl ds)
  | ins {a C dx : Addr} {fs : List (Str × V)} {ds : List (Str × D)} (h : H a = some (.ins C dx fs)) (h2 : H dx = some (.own a)) (r : RepF K H fs ds) : Rep K H (.ref a) (.ins C ds)
  | dct {a : Addr} {kvs : List (Key × V)} {ds : List (Key × D)} (h : H a = some (.dK kvs)) (r : RepK K H kvs ds) : Rep K H (.ref a) (.dct ds)
inductive Reps (K : PySem.W.Frag) (H : Hp) : List V → List D → Prop where
  | nil : Reps K H [] []
  | cons {v : V} {d : D} {vs : List V} {ds : List D} (h : Rep K H v d) (t : Reps K H vs ds) : Reps K H (v :: vs) (d :: ds)
inductive RepF (K : PySem.W.Frag) (H : Hp) : List (Str × V) → List (Str × D) → Prop where
  | nil : RepF K H [] []
  | cons {f : Str} {v : V} {d : D} {vs : List (Str × V)} {ds : List (Str × D)} (h : Rep K H v d) (t : RepF K H vs ds) : RepF K H ((f, v) :: vs) ((f, d) :: ds)
inductive RepK (K : PySem.W.Frag) (H : Hp) : List (Key × V) → List (Key × D) → Prop where
  | nil : RepK K H [] []
  | cons {f : Key} {v : V} {d : D} {vs : List (Key × V)} {ds : List (Key × D)} (h : Rep K H v d) (t : RepK K H vs ds) : RepK K H ((f, v) :: vs) ((f, d) :: ds)
end
theorem rd_ext {H H' : Hp} {a : Addr} {u : HO} (e : Ext H H') (h : Rd H a u) : Rd H' a u := by
  rcases h with h | ⟨o, h⟩
  · exact .inl (e a _ h)
  · exact .inr ⟨o, e a _ h⟩
theorem sqT_ext {K : PySem.W.Frag} {H H' : Hp} {a : Addr} {xs : List V} (e : Ext H H') (h : SqT K H a xs) : SqT K H' a xs := by
  rcases h with h | h
  · exact .inl (rd_ext e h)
  · exact .inr h
theorem sqL_ext {K : PySem.W.Frag} {H H' : Hp} {a : Addr} {xs : List V} (e : Ext H H') (h : SqL K H a xs) : SqL K H' a xs := by
  rcases h with h | h
  · exact .inl (rd_ext e h)
  · exact .inr h
section
variable {K : PySem.W.Frag} {H H' : Hp}
mutual
theorem Rep.mono (e : Ext H H') : ∀ {v : V} {d : D}, Rep K H v d → Rep K H' v d
  | _, _, .non => .non
  | _, _, .bl b => .bl b
  | _, _, .int i => .int i
  | _, _, .str x h => .str x h
  | _, _, .ref a => .ref a
  | _, _, .ty n => .ty n
  | _, _, .tup h l r => .tup (sqT_ext e h) l (Reps.mono e r)
  | _, _, .lst h l r => .lst (e _ _ h) l (Reps.mono e r)
  | _, _, .fzl h l r => .fzl (sqL_ext e h) l (Reps.mono e r)
  | _, _, .ins h h2 r => .ins (e _ _ h) (e _ _ h2) (RepF.mono e r)
  | _, _, .dct h r => .dct (e _ _ h) (RepK.mono e r)
theorem Reps.mono (e : Ext H H') : ∀ {v : List V} {d : List D}, Reps K H v d → Reps K H' v d
  | _, _, .nil => .nil
  | _, _, .cons h t => .cons (Rep.mono e h) (Reps.mono e t)
theorem RepF.mono (e : Ext H H') : ∀ {v : List (Str × V)} {d : List (Str × D)}, RepF K H v d → RepF K H' v d
  | _, _, .nil => .nil
  | _, _, .cons h t => .cons (Rep.mono e h) (RepF.mono e t)
theorem RepK.mono (e : Ext H H') : ∀ {v : List (Key × V)} {d : List (Key × D)}, RepK K H v d → RepK K H' v d
  | _, _, .nil => .nil
  | _, _, .cons h t => .cons (Rep.mono e h) (RepK.mono e t)
end
theorem Reps.length : ∀ {vs : List V} {ds : List D}, Reps K H vs ds → vs.length = ds.length
  | _, _, .nil => rfl
  | _, _, .cons _ t => by rw [List.length_cons, List.length_cons, Reps.length t]
theorem Reps.append : ∀ {vs ws : List V} {ds es : List D}, Reps K H vs ds → Reps K H ws es → Reps K H (vs ++ ws) (ds ++ es)
  | _, _, _, _, .nil, s => s
  | _, _, _, _, .cons h t, s => .cons h (Reps.append t s)
theorem Reps.get : ∀ {vs : List V} {ds : List D} {i : Nat} {d : D}, Reps K H vs ds → ds[i]? = some d → ∃ v, vs[i]? = some v ∧ Rep K H v d
  | _, _, _, _, .nil, e => by simp at e
  | _, _, 0, _, .cons h _, e => by simp at e; subst e; exact ⟨_, rfl, h⟩
  | _, _, i + 1, _, .cons _ t, e => by
    obtain ⟨v, h1, h2⟩ := Reps.get (i := i) t (by simpa using e)
    exact ⟨v, by simpa using h1, h2⟩
theorem Reps.get' : ∀ {vs : List V} {ds : List D} {i : Nat} {v : V}, Reps K H vs ds → vs[i]? = some v → ∃ d, ds[i]? = some d ∧ Rep K H v d
  | _, _, _, _, .nil, e => by simp at e
  | _, _, 0, _, .cons h _, e => by simp at e; subst e; exact ⟨_, rfl, h⟩
  | _, _, i + 1, _, .cons _ t, e => by
    obtain ⟨v, h1, h2⟩ := Reps.get' (i := i) t (by simpa using e)
    exact ⟨v, by simpa using h1, h2⟩
theorem Reps.take : ∀ {vs : List V} {ds : List D} (n : Nat), Reps K H vs ds → Reps K H (vs.take n) (ds.take n)
  | _, _, 0, _ => by simpa using Reps.nil
  | _, _, n + 1, .nil => by simpa using Reps.nil
  | _, _, n + 1, .cons h t => by simpa using Reps.cons h (Reps.take n t)
theorem Reps.drop : ∀ {vs : List V} {ds : List D} (n : Nat), Reps K H vs ds → Reps K H (vs.drop n) (ds.drop n)
  | _, _, 0, h => by simpa using h
  | _, _, n + 1, .nil => by simpa using Reps.nil
  | _, _, n + 1, .cons h t => by simpa using Reps.drop n t
theorem Reps.one {v : V} {d : D} (h : Rep K H v d) : Reps K H [v] [d] := .cons h .nil
theorem Reps.ints : ∀ (ns : List Int), Reps K H (ns.map V.int) (ns.map D.int)
  | [] => .nil
  | n :: r => .cons (.int n) (Reps.ints r)
end
/-! ## the state -/
inductive MO where
  | purse
  | lst (ds : List D)
abbrev Mem := Addr → Option MO
def purseB : Nat := 2 ^ 1100000
def MRep (K : PySem.W.Frag) (H Hs : Hp) (a : Addr) : MO → Prop
  | .purse => ∃ x y : Int, H a = some (.lst [.int x, .int y]) ∧ 0 ≤ x ∧ x.toNat < purseB ∧ 0 ≤ y ∧ y < 2305843009213693951
  | .lst ds => ∃ vs, H a = some (.lst vs) ∧ vs.length ≤ 16777216 ∧ Reps K Hs vs ds
inductive Sl where
  | no
  | val (d : D)
  | own (ds : List D)
/-- Hs: what is known and stays; F: what must stay; M: what changes by its own rules; an own slot: a list that no other has -/
structure Sta (K : PySem.W.Frag) (F Hs : Hp) (M : Mem) (σ : L2.St) (H : Hp) (ρ : List Sl) : Prop where
  hs : ∀ a o, Hs a = some o → H a = some o
  fr : ∀ a o, F a = some o → H a = some o
  dj : ∀ a o, F a = some o → Hs a = none
  me : ∀ a m, M a = some m → MRep K H Hs a m ∧ Hs a = none ∧ F a = none
  ln : σ.length = ρ.length
  vl : ∀ (i : Nat) (d : D), ρ[i]? = some (Sl.val d) → ∃ v, σ[i]? = some (some v) ∧ Rep K Hs v d
  ow : ∀ (i : Nat) (ds : List D), ρ[i]? = some (Sl.own ds) → ∃ a vs, σ[i]? = some (some (V.ref a)) ∧ H a = some (.lst vs) ∧ vs.length ≤ 16777216 ∧ Reps K Hs vs ds ∧ Hs a = none ∧ F a = none ∧ M a = none ∧ ∀ (j : Nat) (es : List D), j ≠ i → ρ[j]? = some (Sl.own es) → σ[j]? ≠ some (some (V.ref a))
section
variable {K : PySem.W.Frag} {F Hs Hs' : Hp} {M M' : Mem} {σ : L2.St} {H H' : Hp} {ρ : List Sl}
theorem MRep.mono {a : Addr} {m : MO} (e : Ext Hs Hs') (k : ∀ o, H a = some o → H' a = some o) (h : MRep K H Hs a m) : MRep K H' Hs' a m := by
  cases m with
  | purse =>
    obtain ⟨x, y, h1, h2⟩ := h
    exact ⟨x, y, k _ h1, h2⟩
  | lst ds =>
    obtain ⟨vs, h1, h2, h3⟩ := h
    exact ⟨vs, k _ h1, h2, h3.mono e⟩
theorem MRep.at {a : Addr} {m : MO} (h : MRep K H Hs a m) : ∃ o, H a = some o := by
  cases m with
  | purse => obtain ⟨x, y, h1, h2⟩ := h; exact ⟨_, h1⟩
  | lst ds => obtain ⟨vs, h1, h2, h3⟩ := h; exact ⟨_, h1⟩
theorem none_of_ext {A B : Hp} {a : Addr} (h : ∀ b o, A b = some o → B b = some o) (n : B a = none) : A a = none := by
  cases e : A a with
  | none => rfl
  | some o => rw [h a o e] at n; cases n
theorem Sta.fresh (S : Sta K F Hs M σ H ρ) {p : Addr} (n : H p = none) : Hs p = none ∧ F p = none ∧ M p = none := by
  refine ⟨none_of_ext S.hs n, none_of_ext S.fr n, ?_⟩
  cases e : M p with
  | none => rfl
  | some m =>
    obtain ⟨o, q⟩ := (S.me p m e).1.at
    rw [n] at q; cases q
/-- a new object, known from now on -/
theorem Sta.new (S : Sta K F Hs M σ H ρ) {p : Addr} (n : H p = none) (o : HO) : Sta K F (upd Hs p o) M σ (upd H p o) ρ ∧ Ext Hs (upd Hs p o) := by
  obtain ⟨n1, n2, n3⟩ := S.fresh n
  have x : Ext Hs (upd Hs p o) := Ext.new n1
  have neH : ∀ a u, H a = some u → a ≠ p := fun a u e z => by rw [z, n] at e; cases e
  refine ⟨⟨fun a u e => ?_, fun a u e => ?_, fun a u e => ?_, fun a m e => ?_, S.ln, fun i d e => ?_, fun i ds e => ?_⟩, x⟩
  · by_cases h : a = p
    · subst h; rw [upd_same] at e ⊢; exact e
    · rw [upd_ne h] at e ⊢; exact S.hs a u e
  · have := S.fr a u e
    rw [upd_ne (neH a u this)]; exact this
  · have q := S.fr a u e
    rw [upd_ne (neH a u q)]; exact S.dj a u e
  · obtain ⟨q1, q2, q3⟩ := S.me a m e
    obtain ⟨w, q4⟩ := q1.at
    refine ⟨q1.mono x fun w q => ?_, ?_, q3⟩
    · rw [upd_ne (neH a w q)]; exact q
    · rw [upd_ne (neH a w q4)]; exact q2
  · obtain ⟨v, q1, q2⟩ := S.vl i d e
    exact ⟨v, q1, q2.mono x⟩
  · obtain ⟨a, vs, q1, q2, q3, q4, q5, q6, q7, q8⟩ := S.ow i ds e
    have ne := neH a _ q2
    exact ⟨a, vs, q1, by rw [upd_ne ne]; exact q2, q3, q4.mono x, by rw [upd_ne ne]; exact q5, q6, q7, q8⟩
end
end DL

namespace DL
open PySem PySem.Spec PyProof.Rows L2
/-! ## the judgements over data -/
abbrev TEd := List Sl → Mem → (D → Mem → Prop) → Prop
abbrev TTd := List Sl → Mem → (Bool → Mem → Prop) → Prop
abbrev TAd := List Sl → Mem → (List D → Mem → Prop) → Prop
structure EndsD where
  nx : List Sl → Mem → Prop
  rt : D → Mem → Prop
  bk : List Sl → Mem → Prop := fun _ _ => False
  ct : List Sl → Mem → Prop := fun _ _ => False
abbrev TSd := EndsD → List Sl → Mem → Prop
section
variable (K : PySem.W.Frag)
def KE (F Hs : Hp) (σ : L2.St) (ρ : List Sl) (Q : VK) (Qd : D → Mem → Prop) : Prop :=
  ∀ (v : V) (H' Hs' : Hp) (d : D) (M' : Mem), Ext Hs Hs' → Sta K F Hs' M' σ H' ρ → Rep K Hs' v d → Qd d M' → Q v H'
def KT (F Hs : Hp) (σ : L2.St) (ρ : List Sl) (Q : Bool → Hp → Prop) (Qd : Bool → Mem → Prop) : Prop :=
  ∀ (b : Bool) (H' Hs' : Hp) (M' : Mem), Ext Hs Hs' → Sta K F Hs' M' σ H' ρ → Qd b M' → Q b H'
def KA (F Hs : Hp) (σ : L2.St) (ρ : List Sl) (Q : List V → Hp → Prop) (Qd : List D → Mem → Prop) : Prop :=
  ∀ (vs : List V) (H' Hs' : Hp) (ds : List D) (M' : Mem), Ext Hs Hs' → Sta K F Hs' M' σ H' ρ → Reps K Hs' vs ds → Qd ds M' → Q vs H'
structure KS (F Hs : Hp) (Dh : Ends) (Dd : EndsD) : Prop where
  nx : ∀ (σ' : L2.St) (H' Hs' : Hp) (ρ' : List Sl) (M' : Mem), Ext Hs Hs' → Sta K F Hs' M' σ' H' ρ' → Dd.nx ρ' M' → Dh.nx σ' H'
  rt : ∀ (v : V) (H' Hs' : Hp) (d : D) (M' : Mem), Ext Hs Hs' → Sta K F Hs' M' [] H' [] → Rep K Hs' v d → Dd.rt d M' → Dh.rt v H'
  bk : ∀ (σ' : L2.St) (H' Hs' : Hp) (ρ' : List Sl) (M' : Mem), Ext Hs Hs' → Sta K F Hs' M' σ' H' ρ' → Dd.bk ρ' M' → Dh.bk σ' H'
  ct : ∀ (σ' : L2.St) (H' Hs' : Hp) (ρ' : List Sl) (M' : Mem), Ext Hs Hs' → Sta K F Hs' M' σ' H' ρ' → Dd.ct ρ' M' → Dh.ct σ' H'
def SemE (t : TE) (T : TEd) : Prop := ∀ (F Hs : Hp) (M : Mem) (σ : L2.St) (H : Hp) (ρ : List Sl) (Q : VK) (Qd : D → Mem → Prop), Sta K F Hs M σ H ρ → KE K F Hs σ ρ Q Qd → T ρ M Qd → t σ H Q
def SemT (t : TT) (T : TTd) : Prop := ∀ (F Hs : Hp) (M : Mem) (σ : L2.St) (H : Hp) (ρ : List Sl) (Q : Bool → Hp → Prop) (Qd : Bool → Mem → Prop), Sta K F Hs M σ H ρ → KT K F Hs σ ρ Q Qd → T ρ M Qd → t σ H Q
def SemA (t : TA) (T : TAd) : Prop := ∀ (F Hs : Hp) (M : Mem) (σ : L2.St) (H : Hp) (ρ : List Sl) (Q : List V → Hp → Prop) (Qd : List D → Mem → Prop), Sta K F Hs M σ H ρ → KA K F Hs σ ρ Q Qd → T ρ M Qd → t σ H Q
def SemS (t : TS) (T : TSd) : Prop := ∀ (F Hs : Hp) (M : Mem) (σ : L2.St) (H : Hp) (ρ : List Sl) (Dh : Ends) (Dd : EndsD), Sta K F Hs M σ H ρ → KS K F Hs Dh Dd → T Dd ρ M → t Dh σ H
end
structure ED (X : Cx) (e : Expr) (t : TE) (T : TEd) : Prop where
  pe : PE X e t
  se : SemE X.K t T
structure TD (X : Cx) (e : Expr) (t : TT) (T : TTd) : Prop where
  pe : PT X e t
  se : SemT X.K t T
structure WD (X : Cx) (e : Expr) (t : TT) (T : TTd) : Prop where
  pe : PW X e t
  se : SemT X.K t T
structure AD (X : Cx) (es : List Expr) (t : TA) (T : TAd) : Prop where
  pe : PA X es t
  se : SemA X.K t T
structure SD (X : Cx) (st : Stmt) (t : TS) (T : TSd) : Prop where
  pe : PS X st t
  se : SemS X.K t T
structure BD (X : Cx) (sts : List Stmt) (t : TS) (T : TSd) : Prop where
  pe : PSs X sts t
  se : SemS X.K t T
section
variable {K : PySem.W.Frag} {F Hs Hs1 : Hp} {M M' : Mem} {σ : L2.St} {H H' : Hp} {ρ : List Sl}
theorem KE.mono {Q : VK} {Qd : D → Mem → Prop} (k : KE K F Hs σ ρ Q Qd) (x : Ext Hs Hs1) : KE K F Hs1 σ ρ Q Qd := fun v H' Hs' d M' e => k v H' Hs' d M' (x.trans e)
theorem KT.mono {Q : Bool → Hp → Prop} {Qd : Bool → Mem → Prop} (k : KT K F Hs σ ρ Q Qd) (x : Ext Hs Hs1) : KT K F Hs1 σ ρ Q Qd := fun v H' Hs' M' e => k v H' Hs' M' (x.trans e)
theorem KA.mono {Q : List V → Hp → Prop} {Qd : List D → Mem → Prop} (k : KA K F Hs σ ρ Q Qd) (x : Ext Hs Hs1) : KA K F Hs1 σ ρ Q Qd := fun v H' Hs' d M' e => k v H' Hs' d M' (x.trans e)
theorem KS.mono {Dh : Ends} {Dd : EndsD} (k : KS K F Hs Dh Dd) (x : Ext Hs Hs1) : KS K F Hs1 Dh Dd :=
  ⟨fun s h hs r m e => k.nx s h hs r m (x.trans e), fun v h hs d m e => k.rt v h hs d m (x.trans e), fun s h hs r m e => k.bk s h hs r m (x.trans e), fun s h hs r m e => k.ct s h hs r m (x.trans e)⟩
theorem Sta.drop (S : Sta K F Hs M σ H ρ) : Sta K F Hs M [] H [] := ⟨S.hs, S.fr, S.dj, S.me, rfl, fun i d e => by simp at e, fun i d e => by simp at e⟩
/-- a slot stored with a known value -/
theorem Sta.set (S : Sta K F Hs M σ H ρ) {v : V} {d : D} (i : Nat) (r : Rep K Hs v d) : Sta K F Hs M (σ.set i (some v)) H (ρ.set i (.val d)) := by
  have hl := S.ln
  refine ⟨S.hs, S.fr, S.dj, S.me, by simpa using S.ln, fun j e q => ?_, fun j ds q => ?_⟩
  · by_cases h : i = j
    · subst h
      by_cases hi : i < ρ.length
      · rw [List.getElem?_set_self hi] at q
        cases q
        exact ⟨v, List.getElem?_set_self (by omega), r⟩
      · rw [List.getElem?_eq_none (by simpa using hi)] at q; cases q
    · rw [List.getElem?_set_ne h] at q ⊢
      exact S.vl j e q
  · by_cases h : i = j
    · subst h
      by_cases hi : i < ρ.length
      · rw [List.getElem?_set_self hi] at q; cases q
      · rw [List.getElem?_eq_none (by simpa using hi)] at q; cases q
    · rw [List.getElem?_set_ne h] at q
      obtain ⟨a, vs, q1, q2, q3, q4, q5, q6, q7, q8⟩ := S.ow j ds q
      refine ⟨a, vs, by rw [List.getElem?_set_ne h]; exact q1, q2, q3, q4, q5, q6, q7, fun k es hk qk => ?_⟩
      by_cases hik : i = k
      · subst hik
        by_cases hi : i < ρ.length
        · rw [List.getElem?_set_self hi] at qk; cases qk
        · rw [List.getElem?_eq_none (by simpa using hi)] at qk; cases qk
      · rw [List.getElem?_set_ne hik] at qk ⊢
        exact q8 k es hk qk
/-- slots forgotten -/
theorem Sta.no (S : Sta K F Hs M σ H ρ) (i : Nat) (o : Option V) : Sta K F Hs M (σ.set i o) H (ρ.set i .no) := by
  have hl := S.ln
  refine ⟨S.hs, S.fr, S.dj, S.me, by simpa using S.ln, fun j e q => ?_, fun j ds q => ?_⟩
  · by_cases h : i = j
    · subst h
      by_cases hi : i < ρ.length
      · rw [List.getElem?_set_self hi] at q; cases q
      · rw [List.getElem?_eq_none (by simpa using hi)] at q; cases q
    · rw [List.getElem?_set_ne h] at q ⊢
      exact S.vl j e q
  · by_cases h : i = j
    · subst h
      by_cases hi : i < ρ.length
      · rw [List.getElem?_set_self hi] at q; cases q
      · rw [List.getElem?_eq_none (by simpa using hi)] at q; cases q
    · rw [List.getElem?_set_ne h] at q
      obtain ⟨a, vs, q1, q2, q3, q4, q5, q6, q7, q8⟩ := S.ow j ds q
      refine ⟨a, vs, by rw [List.getElem?_set_ne h]; exact q1, q2, q3, q4, q5, q6, q7, fun k es hk qk => ?_⟩
      by_cases hik : i = k
      · subst hik
        by_cases hi : i < ρ.length
        · rw [List.getElem?_set_self hi] at qk; cases qk
        · rw [List.getElem?_eq_none (by simpa using hi)] at qk; cases qk
      · rw [List.getElem?_set_ne hik] at qk ⊢
        exact q8 k es hk qk
end
/-! ## names, constants -/
section
variable {X : Cx} {pos : Pos} {ta tb te : TE} {Ta Tb Te : TEd} {tt tu : TT} {T U : TTd} {tr : TA} {R : TAd} {K : PySem.W.Frag}
def TVar (i : Nat) : TEd := fun ρ M Q => match ρ[i]? with
  | some (.val d) => Q d M
  | _ => False
def TC (d : D) : TEd := fun _ M Q => Q d M
theorem sem_var (K : PySem.W.Frag) (i : Nat) : SemE K (tVar i) (TVar i) := fun F Hs M σ H ρ Q Qd S k h => by
  unfold TVar at h
  split at h
  · rename_i d e
    obtain ⟨v, e1, r⟩ := S.vl i d e
    exact ⟨v, e1, k v H Hs d M (Ext.refl _) S r h⟩
  · exact h.elim
theorem ed_var {e : Expr} {i : Nat} (h : PE X e (tVar i)) : ED X e (tVar i) (TVar i) := ⟨h, sem_var _ i⟩
theorem sem_c {v : V} {d : D} (r : ∀ H, Rep K H v d) : SemE K (tC v) (TC d) := fun F Hs M σ H ρ Q Qd S k h => k v H Hs d M (Ext.refl _) S (r Hs) h
theorem ed_int {i : Int} {j : Nat} : ED X (.Constant (.int i) j pos) (tC (.int i)) (TC (.int i)) := ⟨pe_int, sem_c fun _ => .int i⟩
theorem ed_bl {b : Bool} {j : Nat} : ED X (.Constant (.bool b) j pos) (tC (.bl b)) (TC (.bl b)) := ⟨pe_bl, sem_c fun _ => .bl b⟩
theorem ed_non {j : Nat} : ED X (.Constant .none j pos) (tC .non) (TC .non) := ⟨pe_non, sem_c fun _ => .non⟩
theorem ed_str {x : Str} {j : Nat} (h : okS x = true := by decide +kernel) : ED X (.Constant (.str x) j pos) (tC (.str x)) (TC (.str x)) := ⟨pe_str, sem_c fun _ => .str x h⟩
theorem ed_glob {x : Str} {v : V} {u : Value} {d : D} (hg : Gl X x) (hm : X.mg x = some u) (r : RelV v u) (rd : ∀ H, Rep X.K H v d) (hd : (x == ("__debug__" : Str)) = false := by decide) : ED X (.Name x pos) (tC v) (TC d) := ⟨pe_glob hg hm r hd, sem_c rd⟩
theorem ed_blt {x : Str} {v : V} {u : Value} {d : D} (hg : Gl X x) (hm : X.mg x = none) (hv : bootBuiltins x = some u) (r : RelV v u) (rd : ∀ H, Rep X.K H v d) (hn : x ≠ "__name__" := by decide) (hd : (x == ("__debug__" : Str)) = false := by decide) : ED X (.Name x pos) (tC v) (TC d) := ⟨pe_bltn hg hm hv r hn hd, sem_c rd⟩
/-! ## operators -/
abbrev Op2 := D → D → (D → Prop) → Prop
def SemR (K : PySem.W.Frag) (r : R2) (op : Op2) : Prop := ∀ (F Hs : Hp) (M : Mem) (σ : L2.St) (H : Hp) (ρ : List Sl) (x y : V) (dx dy : D) (Q : VK) (Qd : D → Prop), Sta K F Hs M σ H ρ → Rep K Hs x dx → Rep K Hs y dy →
  (∀ (v : V) (H' Hs' : Hp) (d : D), Ext Hs Hs' → Sta K F Hs' M σ H' ρ → Rep K Hs' v d → Qd d → Q v H') → op dx dy Qd → r x y H Q
def TBin (op : Op2) (ta tb : TEd) : TEd := fun ρ M Q => ta ρ M fun x M1 => tb ρ M1 fun y M2 => op x y fun z => Q z M2
theorem sem_op {r : R2} {op : Op2} (hr : SemR K r op) (ha : SemE K ta Ta) (hb : SemE K tb Tb) : SemE K (tOp r ta tb) (TBin op Ta Tb) := fun F Hs M σ H ρ Q Qd S k h =>
  ha F Hs M σ H ρ _ _ S (fun x H1 Hs1 dx M1 e1 S1 r1 h1 => hb F Hs1 M1 σ H1 ρ _ _ S1 (fun y H2 Hs2 dy M2 e2 S2 r2 h2 =>
    hr F Hs2 M2 σ H2 ρ x y dx dy Q _ S2 (r1.mono e2) r2 (fun v H3 Hs3 d e3 S3 r3 h3 => k v H3 Hs3 d M2 ((e1.trans e2).trans e3) S3 r3 h3) h2) h1) h
theorem ed_bin {o : Operator} {r : R2} {op : Op2} {a b : Expr} (ho : OpR X (binaryOp o) r) (hr : SemR X.K r op) (ha : ED X a ta Ta) (hb : ED X b tb Tb) : ED X (.BinOp a o b pos) (tOp r ta tb) (TBin op Ta Tb) := ⟨pe_op ho ha.pe hb.pe, sem_op hr ha.se hb.se⟩
theorem ed_cmp {o : CmpOp} {r : R2} {op : Op2} {a b : Expr} (ho : OpR X (compareOp o) r) (hr : SemR X.K r op) (ha : ED X a ta Ta) (hb : ED X b tb Tb) (hm : behindInMarks o b = false) : ED X (.Compare a [o] [b] pos) (tOp r ta tb) (TBin op Ta Tb) := ⟨pe_cmpR ho ha.pe hb.pe hm, sem_op hr ha.se hb.se⟩
def TTst (te : TEd) : TTd := fun ρ M Q => te ρ M fun d M1 => match d with
  | .bl b => Q b M1
  | _ => False
theorem sem_tst (h : SemE K te Te) : SemT K (fun σ H Q => te σ H fun x H1 => ∃ k, x = V.bl k ∧ Q k H1) (TTst Te) := fun F Hs M σ H ρ Q Qd S k q =>
  h F Hs M σ H ρ _ _ S (fun v H1 Hs1 d M1 e1 S1 r1 h1 => by
    split at h1
    · rename_i b
      cases r1
      exact ⟨b, rfl, k b H1 Hs1 M1 e1 S1 h1⟩
    · exact h1.elim) q
theorem td_cmp {o : CmpOp} {r : R2} {op : Op2} {a b : Expr} (ho : OpR X (compareOp o) r) (hr : SemR X.K r op) (ha : ED X a ta Ta) (hb : ED X b tb Tb) (hm : behindInMarks o b = false) : TD X (.Compare a [o] [b] pos) (tTest (tOp r ta tb)) (TTst (TBin op Ta Tb)) := ⟨pt_cmpR ho ha.pe hb.pe hm, sem_tst (sem_op hr ha.se hb.se)⟩
theorem td_val {e : Expr} (h : ED X e te Te) (he : ∀ whole, isTrue e X.env whole = (do let v ← whole; standAt e.pos; holding [v] (truthy v)) := by intro _; rfl) : TD X e (tB te) (TTst Te) := ⟨pt_val h.pe he, sem_tst h.se⟩
/-- two comparisons in a chain -/
def TChain (op op' : Op2) (ta tb tc : TEd) : TEd := fun ρ M Q => ta ρ M fun x M1 => tb ρ M1 fun y M2 => op x y fun z => match z with
  | .bl true => tc ρ M2 fun u M3 => op' y u fun w => Q w M3
  | .bl false => Q (.bl false) M2
  | _ => False
theorem sem_chain {r r' : R2} {op op' : Op2} {tc : TE} {Tc : TEd} (hr : SemR K r op) (hr' : SemR K r' op') (ha : SemE K ta Ta) (hb : SemE K tb Tb) (hc : SemE K tc Tc) : SemE K (tChain r r' ta tb tc) (TChain op op' Ta Tb Tc) := fun F Hs M σ H ρ Q Qd S k h =>
  ha F Hs M σ H ρ _ _ S (fun x H1 Hs1 dx M1 e1 S1 r1 h1 => hb F Hs1 M1 σ H1 ρ _ _ S1 (fun y H2 Hs2 dy M2 e2 S2 r2 h2 =>
    hr F Hs2 M2 σ H2 ρ x y dx dy _ _ S2 (r1.mono e2) r2 (fun v H3 Hs3 d e3 S3 r3 h3 => by
      split at h3
      · cases r3
        refine ⟨true, rfl, ?_⟩
        rw [if_pos rfl]
        exact hc F Hs3 M2 σ H3 ρ _ _ S3 (fun u H4 Hs4 du M4 e4 S4 r4 h4 => hr' F Hs4 M4 σ H4 ρ y u dy du Q _ S4 (r2.mono (e3.trans e4)) r4 (fun w H5 Hs5 dw e5 S5 r5 h5 => k w H5 Hs5 dw M4 ((((e1.trans e2).trans e3).trans e4).trans e5) S5 r5 h5) h4) h3
      · cases r3
        refine ⟨false, rfl, ?_⟩
        rw [if_neg Bool.false_ne_true]
        exact k _ H3 Hs3 _ M2 ((e1.trans e2).trans e3) S3 (.bl false) h3
      · exact h3.elim) h2) h1) h
/-! ## tests: and, or, not -/
def TAnd (t u : TTd) : TTd := fun ρ M Q => t ρ M fun b M1 => match b with
  | true => u ρ M1 Q
  | false => Q false M1
def TOr (t u : TTd) : TTd := fun ρ M Q => t ρ M fun b M1 => match b with
  | true => Q true M1
  | false => u ρ M1 Q
def TNot (t : TTd) : TTd := fun ρ M Q => t ρ M fun b M1 => Q (!b) M1
theorem sem_and (h1 : SemT K tt T) (h2 : SemT K tu U) : SemT K (tAnd tt tu) (TAnd T U) := fun F Hs M σ H ρ Q Qd S k h =>
  h1 F Hs M σ H ρ _ _ S (fun b H1 Hs1 M1 e1 S1 q => by
    cases b with
    | true =>
      show (if true = true then tu σ H1 Q else Q false H1)
      rw [if_pos rfl]
      exact h2 F Hs1 M1 σ H1 ρ _ _ S1 (k.mono e1) q
    | false =>
      show (if false = true then tu σ H1 Q else Q false H1)
      rw [if_neg Bool.false_ne_true]
      exact k _ H1 Hs1 M1 e1 S1 q) h
theorem sem_or (h1 : SemT K tt T) (h2 : SemT K tu U) : SemT K (tOr tt tu) (TOr T U) := fun F Hs M σ H ρ Q Qd S k h =>
  h1 F Hs M σ H ρ _ _ S (fun b H1 Hs1 M1 e1 S1 q => by
    cases b with
    | true =>
      show (if true = true then Q true H1 else tu σ H1 Q)
      rw [if_pos rfl]
      exact k _ H1 Hs1 M1 e1 S1 q
    | false =>
      show (if false = true then Q true H1 else tu σ H1 Q)
      rw [if_neg Bool.false_ne_true]
      exact h2 F Hs1 M1 σ H1 ρ _ _ S1 (k.mono e1) q) h
theorem td_not {a : Expr} (h : TD X a tt T) : TD X (.UnaryOp .Not a pos) (tNot tt) (TNot T) :=
  ⟨pt_not h.pe, fun F Hs M σ H ρ Q Qd S k q => h.se F Hs M σ H ρ _ _ S (fun b H1 Hs1 M1 e1 S1 q => k _ H1 Hs1 M1 e1 S1 q) q⟩
theorem wd_and1 {a : Expr} (h : TD X a tt T) : WD X (.BoolOp .And [a] pos) tt T := ⟨pw_and1 h.pe, h.se⟩
theorem wd_or1 {a : Expr} (h : TD X a tt T) : WD X (.BoolOp .Or [a] pos) tt T := ⟨pw_or1 h.pe, h.se⟩
theorem wd_and {a b : Expr} {r : List Expr} (h : TD X a tt T) (h2 : WD X (.BoolOp .And (b :: r) pos) tu U) : WD X (.BoolOp .And (a :: b :: r) pos) (tAnd tt tu) (TAnd T U) := ⟨pw_and h.pe h2.pe, sem_and h.se h2.se⟩
theorem wd_or {a b : Expr} {r : List Expr} (h : TD X a tt T) (h2 : WD X (.BoolOp .Or (b :: r) pos) tu U) : WD X (.BoolOp .Or (a :: b :: r) pos) (tOr tt tu) (TOr T U) := ⟨pw_or h.pe h2.pe, sem_or h.se h2.se⟩
theorem td_w {a : Expr} (h : WD X a tt T) : TD X a tt T := ⟨h.pe.pt, h.se⟩
/-! ## and, or, not as values (bools) -/
def TAndV (ta tb : TEd) : TEd := fun ρ M Q => ta ρ M fun d M1 => match d with
  | .bl true => tb ρ M1 Q
  | .bl false => Q (.bl false) M1
  | _ => False
def TOrV (ta tb : TEd) : TEd := fun ρ M Q => ta ρ M fun d M1 => match d with
  | .bl true => Q (.bl true) M1
  | .bl false => tb ρ M1 Q
  | _ => False
def TNotV (ta : TEd) : TEd := fun ρ M Q => ta ρ M fun d M1 => match d with
  | .bl b => Q (.bl (!b)) M1
  | _ => False
theorem ed_one {o : BoolOp} {a : Expr} (h : ED X a ta Ta) : ED X (.BoolOp o [a] pos) ta Ta := ⟨pe_one h.pe, h.se⟩
theorem ed_and {a b : Expr} {r : List Expr} (h : ED X a ta Ta) (h2 : ED X (.BoolOp .And (b :: r) pos) tb Tb) : ED X (.BoolOp .And (a :: b :: r) pos) (tAndV ta tb) (TAndV Ta Tb) := by
  refine ⟨pe_and h.pe h2.pe, fun F Hs M σ H ρ Q Qd S k q => h.se F Hs M σ H ρ _ _ S (fun v H1 Hs1 d M1 e1 S1 r1 q1 => ?_) q⟩
  split at q1
  · cases r1
    refine ⟨true, rfl, ?_⟩
    rw [if_pos rfl]
    exact h2.se F Hs1 M1 σ H1 ρ _ _ S1 (k.mono e1) q1
  · cases r1
    refine ⟨false, rfl, ?_⟩
    rw [if_neg Bool.false_ne_true]
    exact k _ H1 Hs1 _ M1 e1 S1 (.bl false) q1
  · exact q1.elim
theorem ed_or {a b : Expr} {r : List Expr} (h : ED X a ta Ta) (h2 : ED X (.BoolOp .Or (b :: r) pos) tb Tb) : ED X (.BoolOp .Or (a :: b :: r) pos) (tOrV ta tb) (TOrV Ta Tb) := by
  refine ⟨pe_or h.pe h2.pe, fun F Hs M σ H ρ Q Qd S k q => h.se F Hs M σ H ρ _ _ S (fun v H1 Hs1 d M1 e1 S1 r1 q1 => ?_) q⟩
  split at q1
  · cases r1
    refine ⟨true, rfl, ?_⟩
    rw [if_pos rfl]
    exact k _ H1 Hs1 _ M1 e1 S1 (.bl true) q1
  · cases r1
    refine ⟨false, rfl, ?_⟩
    rw [if_neg Bool.false_ne_true]
    exact h2.se F Hs1 M1 σ H1 ρ _ _ S1 (k.mono e1) q1
  · exact q1.elim
theorem ed_not {a : Expr} (h : ED X a ta Ta) : ED X (.UnaryOp .Not a pos) (tNotV ta) (TNotV Ta) := by
  refine ⟨pe_not h.pe, fun F Hs M σ H ρ Q Qd S k q => h.se F Hs M σ H ρ _ _ S (fun v H1 Hs1 d M1 e1 S1 r1 q1 => ?_) q⟩
  split at q1
  · cases r1
    exact ⟨_, rfl, k _ H1 Hs1 _ M1 e1 S1 (.bl _) q1⟩
  · exact q1.elim
def TIfE (t : TTd) (ta tb : TEd) : TEd := fun ρ M Q => t ρ M fun b M1 => match b with
  | true => ta ρ M1 Q
  | false => tb ρ M1 Q
theorem ed_if {c a b : Expr} (hc : TD X c tt T) (ha : ED X a ta Ta) (hb : ED X b tb Tb) : ED X (.IfExp c a b pos) (tIf tt ta tb) (TIfE T Ta Tb) := by
  refine ⟨pe_ifExp hc.pe ha.pe hb.pe, fun F Hs M σ H ρ Q Qd S k q => hc.se F Hs M σ H ρ _ _ S (fun b H1 Hs1 M1 e1 S1 q1 => ?_) q⟩
  cases b with
  | true =>
    show (if true = true then ta σ H1 Q else tb σ H1 Q)
    rw [if_pos rfl]
    exact ha.se F Hs1 M1 σ H1 ρ _ _ S1 (k.mono e1) q1
  | false =>
    show (if false = true then ta σ H1 Q else tb σ H1 Q)
    rw [if_neg Bool.false_ne_true]
    exact hb.se F Hs1 M1 σ H1 ρ _ _ S1 (k.mono e1) q1
/-! ## argument lists, displays -/
def TNil : TAd := fun _ M Q => Q [] M
def TCons (t : TEd) (r : TAd) : TAd := fun ρ M Q => t ρ M fun d M1 => r ρ M1 fun ds M2 => Q (d :: ds) M2
theorem ad_nil : AD X [] tNil TNil := ⟨pa_nil, fun F Hs M σ H ρ Q Qd S k h => k [] H Hs [] M (Ext.refl _) S .nil h⟩
theorem sem_cons (h : SemE K te Te) (hr : SemA K tr R) : SemA K (tCons te tr) (TCons Te R) := fun F Hs M σ H ρ Q Qd S k q => h F Hs M σ H ρ _ _ S (fun v H1 Hs1 d M1 e1 S1 r1 q1 => hr F Hs1 M1 σ H1 ρ _ _ S1 (fun vs H2 Hs2 ds M2 e2 S2 r2 q2 => k (v :: vs) H2 Hs2 (d :: ds) M2 (e1.trans e2) S2 (.cons (r1.mono e2) r2) q2) q1) q
theorem ad_cons {e : Expr} {es : List Expr} (h : ED X e te Te) (hr : AD X es tr R) (hs : starEach (e :: es) X.env = (false, eval e X.env) :: starEach es X.env := by rfl) : AD X (e :: es) (tCons te tr) (TCons Te R) := ⟨pa_cons h.pe hr.pe hs, sem_cons h.se hr.se⟩
def TTup (t : TAd) : TEd := fun ρ M Q => t ρ M fun ds M1 => ds.length ≤ 16777216 ∧ Q (.tup ds) M1
def TLst (t : TAd) : TEd := fun ρ M Q => t ρ M fun ds M1 => ds.length ≤ 16777216 ∧ Q (.lst ds) M1
theorem line_eq : sizeLine = 16777216 := sizeLine_eq
theorem ed_tup {es : List Expr} {k : Nat} (hr : AD X es tr R) : ED X (.Tuple es k pos) (tTup tr) (TTup R) := by
  refine ⟨pe_tup hr.pe, fun F Hs M σ H ρ Q Qd S k q => hr.se F Hs M σ H ρ _ _ S (fun vs H1 Hs1 ds M1 e1 S1 r1 ⟨ql, q1⟩ => ?_) q⟩
  have hl := r1.length
  refine ⟨by rw [line_eq]; omega, fun p np => ?_⟩
  obtain ⟨S2, x2⟩ := S1.new np (.tup vs)
  exact k _ _ _ (.tup ds) M1 (e1.trans x2) S2 (.tup (SqT.of upd_same) (by omega) (r1.mono x2)) q1
theorem ed_lst {es : List Expr} (hr : AD X es tr R) : ED X (.List es pos) (tLst tr) (TLst R) := by
  refine ⟨pe_lst hr.pe, fun F Hs M σ H ρ Q Qd S k q => hr.se F Hs M σ H ρ _ _ S (fun vs H1 Hs1 ds M1 e1 S1 r1 ⟨ql, q1⟩ => ?_) q⟩
  have hl := r1.length
  refine ⟨by rw [line_eq]; omega, fun p np => ?_⟩
  obtain ⟨S2, x2⟩ := S1.new np (.lst vs)
  exact k _ _ _ (.lst ds) M1 (e1.trans x2) S2 (.lst upd_same (by omega) (r1.mono x2)) q1
/-! ## built-in calls, methods, items, slices -/
abbrev OpC := List D → (D → Prop) → Prop
def SemC (K : PySem.W.Frag) (r : List V → Hp → VK → Prop) (op : OpC) : Prop := ∀ (F Hs : Hp) (M : Mem) (σ : L2.St) (H : Hp) (ρ : List Sl) (xs : List V) (ds : List D) (Q : VK) (Qd : D → Prop), Sta K F Hs M σ H ρ → Reps K Hs xs ds →
  (∀ (v : V) (H' Hs' : Hp) (d : D), Ext Hs Hs' → Sta K F Hs' M σ H' ρ → Rep K Hs' v d → Qd d → Q v H') → op ds Qd → r xs H Q
def TCB (op : OpC) (t : TAd) : TEd := fun ρ M Q => t ρ M fun ds M1 => op ds fun z => Q z M1
theorem sem_cb {r : List V → Hp → VK → Prop} {op : OpC} (hr : SemC K r op) (h : SemA K tr R) : SemE K (tCB r tr) (TCB op R) := fun F Hs M σ H ρ Q Qd S k q =>
  h F Hs M σ H ρ _ _ S (fun vs H1 Hs1 ds M1 e1 S1 r1 q1 => hr F Hs1 M1 σ H1 ρ vs ds Q _ S1 r1 (fun v H2 Hs2 d e2 S2 r2 q2 => k v H2 Hs2 d M1 (e1.trans e2) S2 r2 q2) q1) q
theorem ed_cb {id : String} {x : Str} {p : Pos} {e : Expr} {es : List Expr} {r : List V → Hp → VK → Prop} {op : OpC} (hc : CallR X (.builtin id) r) (hr : SemC X.K r op) (hg : Gl X x) (hm : X.mg x = none) (hv : bootBuiltins x = some (.builtin id)) (ha : AD X (e :: es) tr R) (hn : x ≠ "__name__" := by decide) (hdb : (x == ("__debug__" : Str)) = false := by decide)
    (he : starEach (e :: es) X.env = (false, eval e X.env) :: starEach es X.env := by rfl) (hpl : (backTo pos (starEach es X.env)).any (·.1) = false := by rfl) : ED X (.Call (.Name x p) (e :: es) [] pos) (tCB r tr) (TCB op R) := ⟨pe_callB hc hg hm hv ha.pe hn hdb he hpl, sem_cb hr ha.se⟩
theorem ed_ct {T' : String} {x : Str} {p : Pos} {e : Expr} {es : List Expr} {r : List V → Hp → VK → Prop} {op : OpC} (hc : CallR X (.type T') r) (hr : SemC X.K r op) (hg : Gl X x) (hm : X.mg x = none) (hv : bootBuiltins x = some (.type T')) (ha : AD X (e :: es) tr R) (hn : x ≠ "__name__" := by decide) (hdb : (x == ("__debug__" : Str)) = false := by decide)
    (he : starEach (e :: es) X.env = (false, eval e X.env) :: starEach es X.env := by rfl) (hpl : (backTo pos (starEach es X.env)).any (·.1) = false := by rfl) : ED X (.Call (.Name x p) (e :: es) [] pos) (tCB r tr) (TCB op R) := ⟨pe_callTy hc hg hm hv ha.pe hn hdb he hpl, sem_cb hr ha.se⟩
/-- a built-in's method -/
abbrev OpM := D → List D → (D → Prop) → Prop
def SemM (K : PySem.W.Frag) (r : V → List V → Hp → VK → Prop) (op : OpM) : Prop := ∀ (F Hs : Hp) (M : Mem) (σ : L2.St) (H : Hp) (ρ : List Sl) (x : V) (dx : D) (xs : List V) (ds : List D) (Q : VK) (Qd : D → Prop), Sta K F Hs M σ H ρ → Rep K Hs x dx → Reps K Hs xs ds →
  (∀ (v : V) (H' Hs' : Hp) (d : D), Ext Hs Hs' → Sta K F Hs' M σ H' ρ → Rep K Hs' v d → Qd d → Q v H') → op dx ds Qd → r x xs H Q
def isD (T : String) : D → Bool
  | .str _ => T == "str"
  | .lst _ => T == "list"
  | .dct _ => T == "dict"
  | .int _ => T == "int"
  | _ => false
theorem tyV_of {F Hs : Hp} {M : Mem} {σ : L2.St} {H : Hp} {ρ : List Sl} {T : String} {x : V} {d : D} (S : Sta K F Hs M σ H ρ) (r : Rep K Hs x d) (h : isD T d = true) : tyV K T x H := by
  cases r with
  | str x _ => exact eq_of_beq h
  | int i => exact eq_of_beq h
  | lst h1 _ _ => exact .inl ⟨eq_of_beq h, _, SqL.of (S.hs _ _ h1)⟩
  | dct h1 _ => exact .inr (.inr (.inl ⟨eq_of_beq h, .inl ⟨_, S.hs _ _ h1⟩⟩))
  | _ => cases h
def TBM (T : String) (op : OpM) (to : TEd) (t : TAd) : TEd := fun ρ M Q => to ρ M fun x M1 => isD T x = true ∧ t ρ M1 fun ds M2 => op x ds fun z => Q z M2
def TBM0 (T : String) (op : OpM) (to : TEd) : TEd := fun ρ M Q => to ρ M fun x M1 => isD T x = true ∧ op x [] fun z => Q z M1
theorem sem_bm {T : String} {r : V → List V → Hp → VK → Prop} {op : OpM} (hm : SemM K r op) (ho : SemE K ta Ta) (ha : SemA K tr R) : SemE K (tBM K T r ta tr) (TBM T op Ta R) := fun F Hs M σ H ρ Q Qd S k q =>
  ho F Hs M σ H ρ _ _ S (fun x H1 Hs1 dx M1 e1 S1 r1 ⟨qt, q1⟩ => ⟨tyV_of S1 r1 qt, ha F Hs1 M1 σ H1 ρ _ _ S1 (fun xs H2 Hs2 ds M2 e2 S2 r2 q2 =>
    hm F Hs2 M2 σ H2 ρ x dx xs ds Q _ S2 (r1.mono e2) r2 (fun v H3 Hs3 d e3 S3 r3 q3 => k v H3 Hs3 d M2 ((e1.trans e2).trans e3) S3 r3 q3) q2) q1⟩) q
theorem sem_bm0 {T : String} {r : V → List V → Hp → VK → Prop} {op : OpM} (hm : SemM K r op) (ho : SemE K ta Ta) : SemE K (tBM0 K T r ta) (TBM0 T op Ta) := fun F Hs M σ H ρ Q Qd S k q =>
  ho F Hs M σ H ρ _ _ S (fun x H1 Hs1 dx M1 e1 S1 r1 ⟨qt, q1⟩ => ⟨tyV_of S1 r1 qt, 
    hm F Hs1 M1 σ H1 ρ x dx [] [] Q _ S1 r1 .nil (fun v H3 Hs3 d e3 S3 r3 q3 => k v H3 Hs3 d M1 (e1.trans e3) S3 r3 q3) q1⟩) q
theorem ed_bm {o e : Expr} {es : List Expr} {name : Str} {apos cpos : Pos} {T id : String} {r : V → List V → Hp → VK → Prop} {op : OpM} (pa : PlainAttrs T) (slot : Slot T name id) (hty : typeOf (.builtin id) = pure (.type "method_descriptor")) (hm : MtR X id r) (hr : SemM X.K r op) (ho : ED X o ta Ta) (ha : AD X (e :: es) tr R)
    (hbase : attributeBase o name X.env (eval o X.env) = eval o X.env := by rfl)
    (hfew : ((backTo cpos (starEach (e :: es) X.env)).all (fun x => !x.1) && (backToKw cpos (keywordEach [] X.env)).all (fun x => x.1.isSome)
      && decide ((e :: es).length + ([] : List Keyword).length + (if ([] : List Keyword).isEmpty then 0 else 1) < 30)) = true := by rfl)
    (hline : (apos.endLine == cpos.line) = true := by rfl) (hs : starEach (e :: es) X.env = (false, eval e X.env) :: starEach es X.env := by rfl) (hplain : (backTo cpos (starEach es X.env)).any (·.1) = false := by rfl) :
    ED X (.Call (.Attribute o name apos) (e :: es) [] cpos) (tBM X.K T r ta tr) (TBM T op Ta R) := ⟨pe_bm pa slot hty hm ho.pe ha.pe hbase hfew hline hs hplain, sem_bm hr ho.se ha.se⟩
theorem ed_bm0 {o : Expr} {name : Str} {apos cpos : Pos} {T id : String} {r : V → List V → Hp → VK → Prop} {op : OpM} (pa : PlainAttrs T) (slot : Slot T name id) (hty : typeOf (.builtin id) = pure (.type "method_descriptor")) (hm : MtR X id r) (hr : SemM X.K r op) (ho : ED X o ta Ta)
    (hbase : attributeBase o name X.env (eval o X.env) = eval o X.env := by rfl) (hline : (apos.endLine == cpos.line) = true := by rfl) : ED X (.Call (.Attribute o name apos) [] [] cpos) (tBM0 X.K T r ta) (TBM0 T op Ta) := ⟨pe_bm0 pa slot hty hm ho.pe hbase hline, sem_bm0 hr ho.se⟩
/-- items -/
theorem ed_ix {a b : Expr} {r : R2} {op : Op2} (hx : IxR X r) (hr : SemR X.K r op) (ha : ED X a ta Ta) (hb : ED X b tb Tb) (hs : PlainIx b := by intro _ _; rfl) : ED X (.Subscript a b pos) (tOp r ta tb) (TBin op Ta Tb) := ⟨pe_ix hx ha.pe hb.pe hs, sem_op hr ha.se hb.se⟩
/-- slices -/
abbrev TOd := List Sl → Mem → (Option Int → Mem → Prop) → Prop
def SemO (K : PySem.W.Frag) (t : TO) (T : TOd) : Prop := ∀ (F Hs : Hp) (M : Mem) (σ : L2.St) (H : Hp) (ρ : List Sl) (Q : Option Int → Hp → Prop) (Qd : Option Int → Mem → Prop), Sta K F Hs M σ H ρ → (∀ (o : Option Int) (H' Hs' : Hp) (M' : Mem), Ext Hs Hs' → Sta K F Hs' M' σ H' ρ → Qd o M' → Q o H') → T ρ M Qd → t σ H Q
structure OD (X : Cx) (e : Option Expr) (t : TO) (T : TOd) : Prop where
  pe : PO X e t
  se : SemO X.K t T
def TNoPart : TOd := fun _ M Q => Q none M
def TPart (t : TEd) : TOd := fun ρ M Q => t ρ M fun d M1 => match d with
  | .int i => Q (some i) M1
  | _ => False
theorem od_none : OD X none tNoPart TNoPart := ⟨po_none, fun F Hs M σ H ρ Q Qd S k q => k none H Hs M (Ext.refl _) S q⟩
theorem od_some {e : Expr} (h : ED X e te Te) : OD X (some e) (tPart te) (TPart Te) := ⟨po_some h.pe, fun F Hs M σ H ρ Q Qd S k q => h.se F Hs M σ H ρ _ _ S (fun v H1 Hs1 d M1 e1 S1 r1 q1 => by
  split at q1
  · cases r1
    exact ⟨_, rfl, k _ H1 Hs1 M1 e1 S1 q1⟩
  · exact q1.elim) q⟩
abbrev OpS := D → Option Int → Option Int → (D → Prop) → Prop
def SemSl (K : PySem.W.Frag) (r : V → Option Int → Option Int → Hp → VK → Prop) (op : OpS) : Prop := ∀ (F Hs : Hp) (M : Mem) (σ : L2.St) (H : Hp) (ρ : List Sl) (x : V) (dx : D) (lo hi : Option Int) (Q : VK) (Qd : D → Prop), Sta K F Hs M σ H ρ → Rep K Hs x dx →
  (∀ (v : V) (H' Hs' : Hp) (d : D), Ext Hs Hs' → Sta K F Hs' M σ H' ρ → Rep K Hs' v d → Qd d → Q v H') → op dx lo hi Qd → r x lo hi H Q
def TSl (op : OpS) (te : TEd) (tl th : TOd) : TEd := fun ρ M Q => te ρ M fun x M1 => tl ρ M1 fun l M2 => th ρ M2 fun h M3 => op x l h fun z => Q z M3
theorem ed_slice {e : Expr} {lo hi : Option Expr} {p2 : Pos} {r : V → Option Int → Option Int → Hp → VK → Prop} {op : OpS} {tl th : TO} {Tl Th : TOd} (hx : SlR X r) (hr : SemSl X.K r op) (h : ED X e te Te) (hl : OD X lo tl Tl) (hh : OD X hi th Th) : ED X (.Subscript e (.Slice lo hi none p2) pos) (tSl r te tl th) (TSl op Te Tl Th) :=
  ⟨pe_slice hx h.pe hl.pe hh.pe, fun F Hs M σ H ρ Q Qd S k q => h.se F Hs M σ H ρ _ _ S (fun x H1 Hs1 dx M1 e1 S1 r1 q1 => hl.se F Hs1 M1 σ H1 ρ _ _ S1 (fun l H2 Hs2 M2 e2 S2 q2 => hh.se F Hs2 M2 σ H2 ρ _ _ S2 (fun u H3 Hs3 M3 e3 S3 q3 =>
    hr F Hs3 M3 σ H3 ρ x dx l u Q _ S3 (r1.mono (e2.trans e3)) (fun v H4 Hs4 d e4 S4 r4 q4 => k v H4 Hs4 d M3 (((e1.trans e2).trans e3).trans e4) S4 r4 q4) q3) q2) q1) q⟩
end
end DL

namespace DL
open PySem PySem.Spec PyProof.Rows L2
/-! ## statements -/
section
variable {X : Cx} {pos : Pos} {ta tb te : TE} {Ta Tb Te : TEd} {tt tu : TT} {T U : TTd} {tr : TA} {R : TAd} {K : PySem.W.Frag} {ts tu' : TS} {Ts Us : TSd}
def TNext : TSd := fun Dd ρ M => Dd.nx ρ M
def TSeq (t u : TSd) : TSd := fun Dd ρ M => t { Dd with nx := fun ρ' M' => u Dd ρ' M' } ρ M
def TRet (t : TEd) : TSd := fun Dd ρ M => t ρ M Dd.rt
def TRetN : TSd := fun Dd _ M => Dd.rt .non M
def TSet (i : Nat) (t : TEd) : TSd := fun Dd ρ M => t ρ M fun d M1 => Dd.nx (ρ.set i (.val d)) M1
def TDrop (t : TEd) : TSd := fun Dd ρ M => t ρ M fun _ M1 => Dd.nx ρ M1
def TIf (c : TTd) (t u : TSd) : TSd := fun Dd ρ M => c ρ M fun b M1 => match b with
  | true => t Dd ρ M1
  | false => u Dd ρ M1
def TNever : TSd := fun _ _ _ => False
theorem bd_nil : BD X [] tNext TNext := ⟨pss_nil, fun F Hs M σ H ρ Dh Dd S k q => k.nx σ H Hs ρ M (Ext.refl _) S q⟩
theorem sem_seq (h : SemS K ts Ts) (h2 : SemS K tu' Us) : SemS K (tSeq ts tu') (TSeq Ts Us) := fun F Hs M σ H ρ Dh Dd S k q =>
  h F Hs M σ H ρ _ { Dd with nx := fun ρ' M' => Us Dd ρ' M' } S ⟨fun σ' H' Hs' ρ' M' e S' q' => h2 F Hs' M' σ' H' ρ' Dh Dd S' (k.mono e) q', k.rt, k.bk, k.ct⟩ q
theorem bd_cons {st : Stmt} {rest : List Stmt} (h : SD X st ts Ts) (h2 : BD X rest tu' Us) : BD X (st :: rest) (tSeq ts tu') (TSeq Ts Us) := ⟨pss_cons h.pe h2.pe, sem_seq h.se h2.se⟩
theorem bd_one {st : Stmt} (h : SD X st ts Ts) : BD X [st] ts Ts := ⟨pss_one h.pe, h.se⟩
theorem bd_never {sts : List Stmt} : BD X sts tNever TNever := ⟨pss_never, fun F Hs M σ H ρ Dh Dd S k q => q⟩
theorem sd_ret {e : Expr} (h : ED X e te Te) : SD X (.Return (some e) pos) (tRet te) (TRet Te) := ⟨ps_ret h.pe, fun F Hs M σ H ρ Dh Dd S k q => h.se F Hs M σ H ρ _ _ S (fun v H1 Hs1 d M1 e1 S1 r1 q1 => k.rt v H1 Hs1 d M1 e1 S1.drop r1 q1) q⟩
theorem sd_retN : SD X (.Return none pos) tRetN TRetN := ⟨ps_retN, fun F Hs M σ H ρ Dh Dd S k q => k.rt _ H Hs _ M (Ext.refl _) S.drop .non q⟩
theorem sem_set (i : Nat) (h : SemE K te Te) : SemS K (tAsg te (gName i)) (TSet i Te) := fun F Hs M σ H ρ Dh Dd S k q => h F Hs M σ H ρ _ _ S (fun v H1 Hs1 d M1 e1 S1 r1 q1 => k.nx _ H1 Hs1 _ M1 e1 (S1.set i r1) q1) q
theorem sd_set {i : Nat} {x : Str} {e : Expr} {pos' : Pos} (hN : X.N.Nodup) (hi : X.N[i]? = some x) (hx : Loc X.env.scope x) (he : ED X e te Te) (hs : swapsWith e (some (.Name x pos')) pos.line X.env = pure false := by rfl) (hf : X.fn x = true ∨ X.env.scope.names.lookup x = some .local := by first | exact .inl rfl | exact .inr rfl | assumption) : SD X (.Assign [.Name x pos'] e pos) (tAsg te (gName i)) (TSet i Te) := ⟨ps_set hN hi hx he.pe hs hf, sem_set i he.se⟩
theorem sd_expr {e : Expr} (h : ED X e te Te) (hs : swapsWith e none pos.line X.env = pure false := by rfl) : SD X (.Expr e pos) (tDrop te) (TDrop Te) := ⟨ps_expr h.pe hs, fun F Hs M σ H ρ Dh Dd S k q => h.se F Hs M σ H ρ _ _ S (fun v H1 Hs1 d M1 e1 S1 r1 q1 => k.nx _ H1 Hs1 _ M1 e1 S1 q1) q⟩
theorem sd_if {c : Expr} {a b : List Stmt} (hc : TD X c tt T) (ha : BD X a ts Ts) (hb : BD X b tu' Us) : SD X (.If c a b pos) (tIfS tt ts tu') (TIf T Ts Us) := by
  refine ⟨ps_if hc.pe ha.pe hb.pe, fun F Hs M σ H ρ Dh Dd S k q => hc.se F Hs M σ H ρ _ _ S (fun b H1 Hs1 M1 e1 S1 q1 => ?_) q⟩
  cases b with
  | true =>
    show (if true = true then ts Dh σ H1 else tu' Dh σ H1)
    rw [if_pos rfl]
    exact ha.se F Hs1 M1 σ H1 ρ _ _ S1 (k.mono e1) q1
  | false =>
    show (if false = true then ts Dh σ H1 else tu' Dh σ H1)
    rw [if_neg Bool.false_ne_true]
    exact hb.se F Hs1 M1 σ H1 ρ _ _ S1 (k.mono e1) q1
/-- a, b = x, y with plain local names -/
def TPar (i j : Nat) (t : TAd) : TSd := fun Dd ρ M => t ρ M fun ds M1 => match ds with
  | [a, b] => Dd.nx ((ρ.set i (.val a)).set j (.val b)) M1
  | _ => False
theorem sd_par {i j : Nat} {x y : Str} {a b : Expr} {px py pt : Pos} {kt k2 : Nat} {pt2 : Pos} (hc : X.calm = true) (hN : X.N.Nodup) (hi : X.N[i]? = some x) (hj : X.N[j]? = some y) (hij : i ≠ j)
    (hx : X.env.scope.names.lookup x = some .local) (hy : X.env.scope.names.lookup y = some .local) (ha : AD X [a, b] tr R)
    (hw : swappedStores [.Tuple [.Name x px, .Name y py] kt pt] (.Tuple [a, b] k2 pt2) X.env = pure (some [x, y]))
    (hs : swapsWithSole [.Tuple [.Name x px, .Name y py] kt pt] (.Tuple [a, b] k2 pt2) pos.line X.env = pure false := by rfl) :
    SD X (.Assign [.Tuple [.Name x px, .Name y py] kt pt] (.Tuple [a, b] k2 pt2) pos) (tPar i j tr) (TPar i j R) := by
  refine ⟨ps_par hc hN hi hj hij hx hy ha.pe hw hs, fun F Hs M σ H ρ Dh Dd S k q => ha.se F Hs M σ H ρ _ _ S (fun vs H1 Hs1 ds M1 e1 S1 r1 q1 => ?_) q⟩
  split at q1
  · rename_i a b
    cases r1 with
    | cons h1 t1 =>
      cases t1 with
      | cons h2 t2 =>
        cases t2
        exact ⟨_, _, rfl, k.nx _ H1 Hs1 _ M1 e1 ((S1.set i h1).set j h2) q1⟩
  · exact q1.elim
/-! ## targets -/
abbrev TGd := D → List Sl → Mem → (List Sl → Mem → Prop) → Prop
abbrev TGsd := List D → List Sl → Mem → (List Sl → Mem → Prop) → Prop
def SemG (K : PySem.W.Frag) (g : TG) (G : TGd) : Prop := ∀ (F Hs : Hp) (M : Mem) (σ : L2.St) (H : Hp) (ρ : List Sl) (v : V) (d : D) (Q : L2.St → Hp → Prop) (Qd : List Sl → Mem → Prop), Sta K F Hs M σ H ρ → Rep K Hs v d →
  (∀ (σ' : L2.St) (H' Hs' : Hp) (ρ' : List Sl) (M' : Mem), Ext Hs Hs' → Sta K F Hs' M' σ' H' ρ' → Qd ρ' M' → Q σ' H') → G d ρ M Qd → g v σ H Q
def SemGs (K : PySem.W.Frag) (g : TGs) (G : TGsd) : Prop := ∀ (F Hs : Hp) (M : Mem) (σ : L2.St) (H : Hp) (ρ : List Sl) (v : List V) (d : List D) (Q : L2.St → Hp → Prop) (Qd : List Sl → Mem → Prop), Sta K F Hs M σ H ρ → Reps K Hs v d →
  (∀ (σ' : L2.St) (H' Hs' : Hp) (ρ' : List Sl) (M' : Mem), Ext Hs Hs' → Sta K F Hs' M' σ' H' ρ' → Qd ρ' M' → Q σ' H') → G d ρ M Qd → g v σ H Q
structure GD (X : Cx) (tg : Expr) (g : TG) (G : TGd) : Prop where
  pe : PG X tg g
  se : SemG X.K g G
structure GsD (X : Cx) (tg : List Expr) (g : TGs) (G : TGsd) : Prop where
  pe : PGs X tg g
  se : SemGs X.K g G
def GName (i : Nat) : TGd := fun d ρ M Q => Q (ρ.set i (.val d)) M
def GNil : TGsd := fun ds ρ M Q => match ds with
  | [] => Q ρ M
  | _ => False
def GCons (g : TGd) (r : TGsd) : TGsd := fun ds ρ M Q => match ds with
  | d :: s => g d ρ M fun ρ' M' => r s ρ' M' Q
  | _ => False
def GTup (n : Nat) (g : TGsd) : TGd := fun d ρ M Q => match d with
  | .tup ds => ds.length = n ∧ g ds ρ M Q
  | _ => False
theorem gd_name {i : Nat} {x : Str} (hN : X.N.Nodup) (hi : X.N[i]? = some x) (hx : Loc X.env.scope x) (hf : X.fn x = true ∨ X.env.scope.names.lookup x = some .local := by first | exact .inl rfl | exact .inr rfl | assumption) : GD X (.Name x pos) (gName i) (GName i) :=
  ⟨pg_name hN hi hx hf, fun F Hs M σ H ρ v d Q Qd S r k q => k _ H Hs _ M (Ext.refl _) (S.set i r) q⟩
theorem gsd_nil : GsD X [] gNil GNil := ⟨pgs_nil, fun F Hs M σ H ρ v d Q Qd S r k q => by
  unfold GNil at q
  split at q
  · cases r
    exact ⟨rfl, k _ H Hs _ M (Ext.refl _) S q⟩
  · exact q.elim⟩
theorem gsd_cons {e : Expr} {es : List Expr} {g : TG} {G : TGd} {gs : TGs} {Gs : TGsd} (h : GD X e g G) (h2 : GsD X es gs Gs)
    (hs : (assignEach (e :: es) X.env).map (·.2) = assign e X.env :: (assignEach es X.env).map (·.2) := by rfl) : GsD X (e :: es) (gCons g gs) (GCons G Gs) := ⟨pgs_cons h.pe h2.pe hs, fun F Hs M σ H ρ v d Q Qd S r k q => by
  unfold GCons at q
  split at q
  · cases r with
    | cons r1 r2 => exact ⟨_, _, rfl, h.se F Hs M σ H ρ _ _ _ _ S r1 (fun σ' H' Hs' ρ' M' e S' q' => h2.se F Hs' M' σ' H' ρ' _ _ _ _ S' (r2.mono e) (fun σ2 H2 Hs2 ρ2 M2 e2 S2 q2 => k σ2 H2 Hs2 ρ2 M2 (e.trans e2) S2 q2) q') q⟩
  · exact q.elim⟩
theorem gd_tup {es : List Expr} {k n : Nat} {gs : TGs} {Gs : TGsd} (hc : X.calm = true) (h : GsD X es gs Gs) (hn : (assignEach es X.env).length = n := by rfl) (hst : (assignEach es X.env).findIdx? (·.1) = none := by rfl) : GD X (.Tuple es k pos) (gTup X.K n gs) (GTup n Gs) :=
  ⟨pg_tup hc h.pe hn hst, fun F Hs M σ H ρ v d Q Qd S r k q => by
  unfold GTup at q
  split at q
  · cases r with
    | tup h1 h2 h3 =>
      obtain ⟨ql, q⟩ := q
      refine ⟨_, _, rfl, sqT_ext S.hs h1, by rw [h3.length]; exact ql, h.se F Hs M σ H ρ _ _ _ _ S h3 k q⟩
  · exact q.elim⟩
def TAsg (t : TEd) (g : TGd) : TSd := fun Dd ρ M => t ρ M fun d M1 => g d ρ M1 Dd.nx
theorem sd_asg {tg e : Expr} {g : TG} {G : TGd} (he : ED X e te Te) (hg : GD X tg g G) (hs : swapsWithSole [tg] e pos.line X.env = pure false := by rfl) (hw : swappedStores [tg] e X.env = pure none := by rfl)
    (h1 : (assignEach [tg] X.env).map (·.2) = [assign tg X.env] := by rfl) : SD X (.Assign [tg] e pos) (tAsg te g) (TAsg Te G) := ⟨ps_asg he.pe hg.pe hs hw h1, fun F Hs M σ H ρ Dh Dd S k q =>
  he.se F Hs M σ H ρ _ _ S (fun v H1 Hs1 d M1 e1 S1 r1 q1 => hg.se F Hs1 M1 σ H1 ρ v d _ _ S1 r1 (fun σ' H' Hs' ρ' M' e S' q' => k.nx σ' H' Hs' ρ' M' (e1.trans e) S' q') q1) q⟩
/-! ## what is walked -/
def Yl (K : PySem.W.Frag) (J : It) (Hs : Hp) (ds : List D) : Prop := ∀ (F Hs1 : Hp) (M : Mem) (σ : L2.St) (H : Hp) (ρ : List Sl) (i : Nat), Ext Hs Hs1 → Sta K F Hs1 M σ H ρ →
  (∀ d, ds[i]? = some d → J.go i H ∧ ∀ (x : V) (H' : Hp), J.yld i H x H' → ∃ Hs2, Ext Hs1 Hs2 ∧ Sta K F Hs2 M σ H' ρ ∧ Rep K Hs2 x d) ∧ (ds.length ≤ i → J.stop i H)
abbrev TId := List Sl → Mem → (List D → Mem → Prop) → Prop
def SemI (K : PySem.W.Frag) (wi : TI) (T : TId) : Prop := ∀ (F Hs : Hp) (M : Mem) (σ : L2.St) (H : Hp) (ρ : List Sl) (R : It → Hp → Prop) (Qd : List D → Mem → Prop), Sta K F Hs M σ H ρ →
  (∀ (J : It) (H' Hs' : Hp) (ds : List D) (M' : Mem), Ext Hs Hs' → Sta K F Hs' M' σ H' ρ → Yl K J Hs' ds → Qd ds M' → R J H') → T ρ M Qd → wi σ H R
structure ID (X : Cx) (tg iter : Expr) (wi : TI) (T : TId) : Prop where
  pe : PI X tg iter wi
  se : SemI X.K wi T
def IList (t : TEd) : TId := fun ρ M Q => t ρ M fun d M1 => match d with
  | .lst ds => Q ds M1
  | _ => False
def ITup (t : TEd) : TId := fun ρ M Q => t ρ M fun d M1 => match d with
  | .tup ds => Q ds M1
  | _ => False
theorem yl_list {Hs : Hp} {a : Addr} {vs : List V} {ds : List D} (h : Hs a = some (.lst vs)) (r : Reps K Hs vs ds) : Yl K (Itl K a) Hs ds := fun F Hs1 M σ H ρ i e S => by
  have q := S.hs _ _ (e _ _ h)
  refine ⟨fun d hd => ?_, fun hi => ⟨vs, SqL.of q, by rw [r.length]; exact hi⟩⟩
  obtain ⟨v, hv, rv⟩ := r.get hd
  refine ⟨⟨vs, v, SqL.of q, hv⟩, fun x H' ⟨e1, y⟩ => ?_⟩
  subst e1
  have := y vs (SqL.of q)
  rw [hv] at this
  cases this
  exact ⟨Hs1, Ext.refl _, S, rv.mono e⟩
theorem yl_tup {Hs : Hp} {a : Addr} {vs : List V} {ds : List D} (h : SqT K Hs a vs) (r : Reps K Hs vs ds) : Yl K (Itt K a) Hs ds := fun F Hs1 M σ H ρ i e S => by
  have q := sqT_ext S.hs (sqT_ext e h)
  refine ⟨fun d hd => ?_, fun hi => ⟨vs, q, by rw [r.length]; exact hi⟩⟩
  obtain ⟨v, hv, rv⟩ := r.get hd
  refine ⟨⟨vs, v, q, hv⟩, fun x H' ⟨e1, y⟩ => ?_⟩
  subst e1
  have := y vs q
  rw [hv] at this
  cases this
  exact ⟨Hs1, Ext.refl _, S, rv.mono e⟩
theorem id_list {tg l : Expr} (h : ED X l te Te) : ID X tg l (iList X.K te) (IList Te) := ⟨pi_list h.pe, fun F Hs M σ H ρ R Qd S k q => h.se F Hs M σ H ρ _ _ S (fun v H1 Hs1 d M1 e1 S1 r1 q1 => by
  split at q1
  · cases r1 with
    | lst h1 h2 h3 => exact ⟨_, rfl, ⟨_, SqL.of (S1.hs _ _ h1)⟩, k _ H1 Hs1 _ M1 e1 S1 (yl_list h1 h3) q1⟩
  · exact q1.elim) q⟩
theorem id_tup {tg l : Expr} (h : ED X l te Te) : ID X tg l (iTup X.K te) (ITup Te) := ⟨pi_tup h.pe, fun F Hs M σ H ρ R Qd S k q => h.se F Hs M σ H ρ _ _ S (fun v H1 Hs1 d M1 e1 S1 r1 q1 => by
  split at q1
  · cases r1 with
    | tup h1 h2 h3 => exact ⟨_, rfl, ⟨_, sqT_ext S1.hs h1⟩, k _ H1 Hs1 _ M1 e1 S1 (yl_tup h1 h3) q1⟩
  · exact q1.elim) q⟩
def rangeD (lo hi : Int) : List D := (List.range (hi - lo).toNat).map fun (k : Nat) => D.int (lo + (k : Int))
def IRng1 (t : TAd) : TId := fun ρ M Q => t ρ M fun ds M1 => match ds with
  | [.int j] => (-(2 ^ 62) ≤ j ∧ j < 2 ^ 62) ∧ Q (rangeD 0 j) M1
  | _ => False
def IRng2 (t : TAd) : TId := fun ρ M Q => t ρ M fun ds M1 => match ds with
  | [.int i, .int j] => (-(2 ^ 62) ≤ i ∧ i < 2 ^ 62 ∧ -(2 ^ 62) ≤ j ∧ j < 2 ^ 62) ∧ Q (rangeD i j) M1
  | _ => False
theorem yl_range {Hs : Hp} (lo hi : Int) (n : Nat) (hn : n = (hi - lo).toNat) : Yl K (Itr lo n) Hs (rangeD lo hi) := fun F Hs1 M σ H ρ i e S => by
  have hl : (rangeD lo hi).length = n := by simp [rangeD, hn]
  refine ⟨fun d hd => ?_, fun hi => ?_⟩
  · have hlt : i < n := by
      rw [← hl]
      exact (List.getElem?_eq_some_iff.mp hd).1
    refine ⟨hlt, fun x H' ⟨e1, y⟩ => ?_⟩
    subst e1 y
    have : d = .int (lo + i) := by
      unfold rangeD at hd
      rw [List.getElem?_map, List.getElem?_range (by omega)] at hd
      exact (Option.some.inj hd).symm
    subst this
    exact ⟨Hs1, Ext.refl _, S, .int _⟩
  · rw [hl] at hi
    exact hi
theorem id_range1 {tg a : Expr} {p : Pos} (hg : Gl X "range") (hm : X.mg "range" = none) (ha : AD X [a] tr R) (hs : starEach [a] X.env = [(false, eval a X.env)] := by rfl) : ID X tg (.Call (.Name "range" p) [a] [] pos) (iRng1 tr) (IRng1 R) := ⟨pi_range1 hg hm ha.pe hs, fun F Hs M σ H ρ R Qd S k q => ha.se F Hs M σ H ρ _ _ S (fun vs H1 Hs1 ds M1 e1 S1 r1 q1 => by
  split at q1
  · rename_i j
    cases r1 with
    | cons h1 t1 =>
      cases t1
      cases h1
      exact ⟨j, rfl, q1.1.1, q1.1.2, k _ H1 Hs1 _ M1 e1 S1 (yl_range 0 j _ (by simp)) q1.2⟩
  · exact q1.elim) q⟩
theorem id_range2 {tg a b : Expr} {p : Pos} (hg : Gl X "range") (hm : X.mg "range" = none) (ha : AD X [a, b] tr R) (hs : starEach [a, b] X.env = [(false, eval a X.env), (false, eval b X.env)] := by rfl) (hs2 : starEach [b] X.env = [(false, eval b X.env)] := by rfl) : ID X tg (.Call (.Name "range" p) [a, b] [] pos) (iRng2 tr) (IRng2 R) := ⟨pi_range2 hg hm ha.pe hs hs2, fun F Hs M σ H ρ R Qd S k q => ha.se F Hs M σ H ρ _ _ S (fun vs H1 Hs1 ds M1 e1 S1 r1 q1 => by
  split at q1
  · rename_i i j
    cases r1 with
    | cons h1 t1 =>
      cases t1 with
      | cons h2 t2 =>
        cases t2
        cases h1
        cases h2
        exact ⟨i, j, rfl, q1.1, k _ H1 Hs1 _ M1 e1 S1 (yl_range i j _ rfl) q1.2⟩
  · exact q1.elim) q⟩
def charsD (x : Str) : List D := x.cps.toList.map fun c => .str ⟨#[c]⟩
def IStr (t : TEd) : TId := fun ρ M Q => t ρ M fun d M1 => match d with
  | .str x => Q (charsD x) M1
  | _ => False
theorem okS_char {x : Str} (h : okS x = true) {c : Nat} (hc : c ∈ x.cps.toList) : okS ⟨#[c]⟩ = true := by
  unfold okS PyData.strOk at *
  simp only [Bool.and_eq_true, decide_eq_true_eq] at *
  refine ⟨?_, by show (1 : Nat) ≤ 16777216; decide⟩
  have := Array.all_eq_true'.mp h.1 c (by simpa using hc)
  simpa using this
theorem id_str {tg l : Expr} (h : ED X l te Te) : ID X tg l (iStr te) (IStr Te) := ⟨pi_str h.pe, fun F Hs M σ H ρ R Qd S k q => h.se F Hs M σ H ρ _ _ S (fun v H1 Hs1 d M1 e1 S1 r1 q1 => by
  split at q1
  · rename_i x
    cases r1 with
    | str x hx =>
      refine ⟨x, rfl, k _ H1 Hs1 _ M1 e1 S1 (fun F' Hs2 M2 σ2 H2 ρ2 i e2 S2 => ?_) q1⟩
      have hl : (charsD x).length = x.cps.size := by simp [charsD]
      refine ⟨fun d hd => ?_, fun hi => by rw [hl] at hi; exact hi⟩
      have hlt : i < x.cps.size := by
        rw [← hl]
        exact (List.getElem?_eq_some_iff.mp hd).1
      refine ⟨hlt, fun y H' ⟨e3, c, hc, y3⟩ => ?_⟩
      subst e3 y3
      unfold charsD at hd
      rw [List.getElem?_map, show x.cps.toList[i]? = some c by simpa using hc] at hd
      cases hd
      exact ⟨Hs2, Ext.refl _, S2, .str _ (okS_char hx (List.mem_of_getElem? (by simpa using hc)))⟩
  · exact q1.elim) q⟩
/-! ## for -/
def forD (g : TGd) (b : TSd) : List D → TSd
  | [], Dd, ρ, M => Dd.nx ρ M
  | d :: r, Dd, ρ, M => g d ρ M fun ρ1 M1 => b ⟨fun ρ' M' => forD g b r Dd ρ' M', Dd.rt, Dd.nx, fun ρ' M' => forD g b r Dd ρ' M'⟩ ρ1 M1
def TFor (it : TId) (g : TGd) (b : TSd) : TSd := fun Dd ρ M => it ρ M fun ds M1 => forD g b ds Dd ρ M1
theorem sem_for {wi : TI} {T : TId} {g : TG} {G : TGd} {tb : TS} {B : TSd} (hi : SemI K wi T) (hg : SemG K g G) (hb : SemS K tb B) : SemS K (tFor wi g tb) (TFor T G B) := fun F Hs M σ H ρ Dh Dd S k q =>
  hi F Hs M σ H ρ _ _ S (fun J H1 Hs1 ds M1 e1 S1 y1 q1 => by
    have k1 := k.mono e1
    refine ⟨fun i m σ H => m = ds.length - i ∧ i ≤ ds.length ∧ ∃ Hs' ρ' M', Ext Hs1 Hs' ∧ Sta K F Hs' M' σ H ρ' ∧ forD G B (ds.drop i) Dd ρ' M', ⟨ds.length, by omega, Nat.zero_le _, Hs1, ρ, M1, Ext.refl _, S1, by simpa using q1⟩, ?_⟩
    rintro i m σ2 H2 ⟨rfl, hi, Hs2, ρ2, M2, e2, S2, q2⟩
    obtain ⟨y2, y3⟩ := y1 F Hs2 M2 σ2 H2 ρ2 i e2 S2
    by_cases hlt : i < ds.length
    · have hd : ds[i]? = some ds[i] := List.getElem?_eq_getElem hlt
      obtain ⟨go, yl⟩ := y2 _ hd
      rw [List.drop_eq_getElem_cons hlt] at q2
      refine .inr ⟨go, fun σ H => ∃ Hs' ρ' M', Ext Hs1 Hs' ∧ Sta K F Hs' M' σ H ρ' ∧ forD G B (ds.drop (i + 1)) Dd ρ' M', fun σ' H' h => ⟨ds.length - (i + 1), by omega, rfl, hlt, h⟩, fun x H3 hy => ?_⟩
      obtain ⟨Hs3, e3, S3, r3⟩ := yl x H3 hy
      refine hg F Hs3 M2 σ2 H3 ρ2 x _ _ _ S3 r3 (fun σ4 H4 Hs4 ρ4 M4 e4 S4 q4 => ?_) q2
      refine hb F Hs4 M4 σ4 H4 ρ4 _ _ S4 ?_ q4
      have e14 := (e2.trans e3).trans e4
      exact ⟨fun σ5 H5 Hs5 ρ5 M5 e5 S5 q5 => ⟨Hs5, ρ5, M5, e14.trans e5, S5, q5⟩, fun v H5 Hs5 d M5 e5 S5 r5 q5 => k1.rt v H5 Hs5 d M5 (e14.trans e5) S5 r5 q5, fun σ5 H5 Hs5 ρ5 M5 e5 S5 q5 => k1.nx σ5 H5 Hs5 ρ5 M5 (e14.trans e5) S5 q5, fun σ5 H5 Hs5 ρ5 M5 e5 S5 q5 => ⟨Hs5, ρ5, M5, e14.trans e5, S5, q5⟩⟩
    · have e : i = ds.length := by omega
      subst e
      rw [List.drop_length] at q2
      exact .inl ⟨y3 (Nat.le_refl _), k1.nx σ2 H2 Hs2 ρ2 M2 e2 S2 q2⟩) q
theorem sd_for {tg iter : Expr} {body : List Stmt} {wi : TI} {T : TId} {g : TG} {G : TGd} {tb : TS} {B : TSd} (hp : PassesOwn (model X.prog X.w) X.A X.env X.xe) (hc : X.calm = true) (hi : ID X tg iter wi T) (hg : GD X tg g G) (hb : BD X body tb B)
    (hs : ∀ x, foldedSetIterable iter X.env x = pure x := by intro _; rfl) : SD X (.For tg iter body [] pos) (tFor wi g tb) (TFor T G B) := ⟨ps_for hp hc hi.pe hg.pe hb.pe hs, sem_for hi.se hg.se hb.se⟩
theorem sd_break : SD X (.Break pos) tBreak (fun Dd ρ M => Dd.bk ρ M) := ⟨ps_break, fun F Hs M σ H ρ Dh Dd S k q => k.bk σ H Hs ρ M (Ext.refl _) S q⟩
theorem sd_pass : SD X (.Pass pos) tNext TNext := ⟨ps_pass, fun F Hs M σ H ρ Dh Dd S k q => k.nx σ H Hs ρ M (Ext.refl _) S q⟩
end
end DL

namespace DL
open PySem PySem.Spec PyProof.Rows L2
section
variable {K : PySem.W.Frag} {F Hs Hs1 : Hp} {M M' : Mem} {σ : L2.St} {H H' : Hp} {ρ : List Sl}
/-- a new object that no one knows yet -/
theorem Sta.alloc (S : Sta K F Hs M σ H ρ) {p : Addr} (n : H p = none) (o : HO) : Sta K F Hs M σ (upd H p o) ρ := by
  have neH : ∀ a u, H a = some u → a ≠ p := fun a u e z => by rw [z, n] at e; cases e
  refine ⟨fun a u e => ?_, fun a u e => ?_, S.dj, fun a m e => ?_, S.ln, S.vl, fun i ds e => ?_⟩
  · have q := S.hs a u e
    rw [upd_ne (neH a u q)]; exact q
  · have q := S.fr a u e
    rw [upd_ne (neH a u q)]; exact q
  · obtain ⟨q1, q2, q3⟩ := S.me a m e
    exact ⟨q1.mono (Ext.refl _) fun w q => by rw [upd_ne (neH a w q)]; exact q, q2, q3⟩
  · obtain ⟨a, vs, q1, q2, q3, q4, q5, q6, q7, q8⟩ := S.ow i ds e
    exact ⟨a, vs, q1, by rw [upd_ne (neH a _ q2)]; exact q2, q3, q4, q5, q6, q7, q8⟩
/-- an own list stored into a slot -/
theorem Sta.setOwn (S : Sta K F Hs M σ H ρ) {a : Addr} {vs : List V} {ds : List D} (i : Nat) (h : H a = some (.lst vs)) (hl : vs.length ≤ 16777216) (r : Reps K Hs vs ds) (n1 : Hs a = none) (n2 : F a = none) (n3 : M a = none)
    (un : ∀ (j : Nat) (es : List D), j ≠ i → ρ[j]? = some (Sl.own es) → σ[j]? ≠ some (some (V.ref a))) : Sta K F Hs M (σ.set i (some (.ref a))) H (ρ.set i (.own ds)) := by
  have hln := S.ln
  refine ⟨S.hs, S.fr, S.dj, S.me, by simpa using S.ln, fun j e q => ?_, fun j es q => ?_⟩
  · by_cases h : i = j
    · subst h
      by_cases hi : i < ρ.length
      · rw [List.getElem?_set_self hi] at q; cases q
      · rw [List.getElem?_eq_none (by simpa using hi)] at q; cases q
    · rw [List.getElem?_set_ne h] at q ⊢
      exact S.vl j e q
  · by_cases h2 : i = j
    · subst h2
      by_cases hi : i < ρ.length
      · rw [List.getElem?_set_self hi] at q
        cases q
        refine ⟨a, vs, List.getElem?_set_self (by omega), h, hl, r, n1, n2, n3, fun k es hk qk => ?_⟩
        rw [List.getElem?_set_ne (Ne.symm hk)] at qk ⊢
        exact un k es hk qk
      · rw [List.getElem?_eq_none (by simpa using hi)] at q; cases q
    · rw [List.getElem?_set_ne h2] at q
      obtain ⟨b, ws, q1, q2, q3, q4, q5, q6, q7, q8⟩ := S.ow j es q
      refine ⟨b, ws, by rw [List.getElem?_set_ne h2]; exact q1, q2, q3, q4, q5, q6, q7, fun k es' hk qk => ?_⟩
      by_cases hik : i = k
      · subst hik
        by_cases hi : i < ρ.length
        · rw [List.getElem?_set_self (by omega)]
          intro z
          cases z
          exact un j es (Ne.symm h2) q q1
        · rw [List.getElem?_eq_none (by simpa using hi)] at qk; cases qk
      · rw [List.getElem?_set_ne hik] at qk ⊢
        exact q8 k es' hk qk
/-- an own list changed -/
theorem Sta.mutOwn (S : Sta K F Hs M σ H ρ) {i : Nat} {ds es : List D} (e : ρ[i]? = some (Sl.own ds)) {a : Addr} {vs ws : List V} (ha : σ[i]? = some (some (V.ref a))) (h : H a = some (.lst vs)) (hl : ws.length ≤ 16777216) (r : Reps K Hs ws es) :
    Sta K F Hs M σ (upd H a (.lst ws)) (ρ.set i (.own es)) := by
  have hln := S.ln
  obtain ⟨a', vs', q1, q2, q3, q4, q5, q6, q7, q8⟩ := S.ow i ds e
  have ea : a' = a := by rw [ha] at q1; cases q1; rfl
  subst ea
  have hi : i < ρ.length := (List.getElem?_eq_some_iff.mp e).1
  refine ⟨fun b u eb => ?_, fun b u eb => ?_, S.dj, fun b m eb => ?_, by simpa using S.ln, fun j d q => ?_, fun j fs q => ?_⟩
  · rw [upd_ne (fun z => by rw [z, q5] at eb; cases eb)]; exact S.hs b u eb
  · rw [upd_ne (fun z => by rw [z, q6] at eb; cases eb)]; exact S.fr b u eb
  · obtain ⟨m1, m2, m3⟩ := S.me b m eb
    refine ⟨m1.mono (Ext.refl _) fun w q => ?_, m2, m3⟩
    rw [upd_ne (fun z => by rw [z, q7] at eb; cases eb)]; exact q
  · by_cases h2 : i = j
    · subst h2
      rw [List.getElem?_set_self hi] at q; cases q
    · rw [List.getElem?_set_ne h2] at q
      exact S.vl j d q
  · by_cases h2 : i = j
    · subst h2
      rw [List.getElem?_set_self hi] at q
      cases q
      refine ⟨a', ws, ha, upd_same, hl, r, q5, q6, q7, fun k es' hk qk => ?_⟩
      rw [List.getElem?_set_ne (Ne.symm hk)] at qk
      exact q8 k es' hk qk
    · rw [List.getElem?_set_ne h2] at q
      obtain ⟨b, xs, p1, p2, p3, p4, p5, p6, p7, p8⟩ := S.ow j fs q
      have ne : b ≠ a' := fun z => by
        subst z
        exact q8 j fs (Ne.symm h2) q p1
      refine ⟨b, xs, p1, by rw [upd_ne ne]; exact p2, p3, p4, p5, p6, p7, fun k es' hk qk => ?_⟩
      by_cases hik : i = k
      · subst hik
        rw [ha]
        intro z
        cases z
        exact ne rfl
      · rw [List.getElem?_set_ne hik] at qk
        exact p8 k es' hk qk
/-- an own list is known from now on -/
def frz (i : Nat) (ρ : List Sl) : List Sl := match ρ[i]? with
  | some (.own ds) => ρ.set i (.val (.lst ds))
  | _ => ρ
theorem Sta.frz (S : Sta K F Hs M σ H ρ) (i : Nat) : ∃ Hs', Ext Hs Hs' ∧ Sta K F Hs' M σ H (frz i ρ) := by
  unfold DL.frz
  split
  · rename_i ds e
    have hln := S.ln
    have hi : i < ρ.length := (List.getElem?_eq_some_iff.mp e).1
    obtain ⟨a, vs, q1, q2, q3, q4, q5, q6, q7, q8⟩ := S.ow i ds e
    have x : Ext Hs (upd Hs a (.lst vs)) := Ext.new q5
    refine ⟨_, x, ⟨fun b u eb => ?_, S.fr, fun b u eb => ?_, fun b m eb => ?_, by simpa using S.ln, fun j d q => ?_, fun j fs q => ?_⟩⟩
    · by_cases h : b = a
      · subst h; rw [upd_same] at eb; rw [q2]; exact eb
      · rw [upd_ne h] at eb; exact S.hs b u eb
    · rw [upd_ne (fun z => by rw [z, q6] at eb; cases eb)]; exact S.dj b u eb
    · obtain ⟨m1, m2, m3⟩ := S.me b m eb
      refine ⟨m1.mono x fun w q => q, ?_, m3⟩
      rw [upd_ne (fun z => by rw [z, q7] at eb; cases eb)]; exact m2
    · by_cases h2 : i = j
      · subst h2
        rw [List.getElem?_set_self hi] at q
        cases q
        exact ⟨_, q1, .lst upd_same q3 (q4.mono x)⟩
      · rw [List.getElem?_set_ne h2] at q
        obtain ⟨v, p1, p2⟩ := S.vl j d q
        exact ⟨v, p1, p2.mono x⟩
    · by_cases h2 : i = j
      · subst h2
        rw [List.getElem?_set_self hi] at q; cases q
      · rw [List.getElem?_set_ne h2] at q
        obtain ⟨b, xs, p1, p2, p3, p4, p5, p6, p7, p8⟩ := S.ow j fs q
        have ne : b ≠ a := fun z => by
          subst z
          exact q8 j fs (Ne.symm h2) q p1
        refine ⟨b, xs, p1, p2, p3, p4.mono x, by rw [upd_ne ne]; exact p5, p6, p7, fun k es' hk qk => ?_⟩
        by_cases hik : i = k
        · subst hik
          rw [List.getElem?_set_self hi] at qk; cases qk
        · rw [List.getElem?_set_ne hik] at qk
          exact p8 k es' hk qk
  · exact ⟨Hs, Ext.refl _, S⟩
end
section
variable {X : Cx} {pos : Pos} {ta tb te : TE} {Ta Tb Te : TEd} {tt tu : TT} {T U : TTd} {tr : TA} {R : TAd} {K : PySem.W.Frag} {ts tu' : TS} {Ts Us : TSd}
/-- the own list in slot i is known from here on -/
def TFrz (i : Nat) (t : TSd) : TSd := fun Dd ρ M => t Dd (frz i ρ) M
theorem bd_frz {sts : List Stmt} (i : Nat) (h : BD X sts ts Ts) : BD X sts ts (TFrz i Ts) := ⟨h.pe, fun F Hs M σ H ρ Dh Dd S k q => by
  obtain ⟨Hs', e, S'⟩ := S.frz i
  exact h.se F Hs' M σ H _ Dh Dd S' (k.mono e) q⟩
/-! ## an expression that gives a new list -/
def KF (K : PySem.W.Frag) (F Hs : Hp) (σ : L2.St) (ρ : List Sl) (Q : VK) (Qd : List D → Mem → Prop) : Prop :=
  ∀ (a : Addr) (vs : List V) (H' Hs' : Hp) (ds : List D) (M' : Mem), Ext Hs Hs' → Sta K F Hs' M' σ H' ρ → H' a = some (.lst vs) → vs.length ≤ 16777216 → Reps K Hs' vs ds → Hs' a = none → F a = none → M' a = none → (∀ (j : Nat) (es : List D), ρ[j]? = some (Sl.own es) → σ[j]? ≠ some (some (V.ref a))) → Qd ds M' → Q (.ref a) H'
def SemF (K : PySem.W.Frag) (t : TE) (T : TAd) : Prop := ∀ (F Hs : Hp) (M : Mem) (σ : L2.St) (H : Hp) (ρ : List Sl) (Q : VK) (Qd : List D → Mem → Prop), Sta K F Hs M σ H ρ → KF K F Hs σ ρ Q Qd → T ρ M Qd → t σ H Q
structure FD (X : Cx) (e : Expr) (t : TE) (T : TAd) : Prop where
  pe : PE X e t
  se : SemF X.K t T
theorem own_ne {F Hs : Hp} {M : Mem} {σ : L2.St} {H : Hp} {ρ : List Sl} (S : Sta K F Hs M σ H ρ) {p : Addr} (n : H p = none) : ∀ (j : Nat) (es : List D), ρ[j]? = some (Sl.own es) → σ[j]? ≠ some (some (V.ref p)) := fun j es e z => by
  obtain ⟨a, vs, q1, q2, _⟩ := S.ow j es e
  rw [z] at q1
  cases q1
  rw [n] at q2; cases q2
def TLstF (t : TAd) : TAd := fun ρ M Q => t ρ M fun ds M1 => ds.length ≤ 16777216 ∧ Q ds M1
theorem fd_lst {es : List Expr} (hr : AD X es tr R) : FD X (.List es pos) (tLst tr) (TLstF R) := by
  refine ⟨pe_lst hr.pe, fun F Hs M σ H ρ Q Qd S k q => hr.se F Hs M σ H ρ _ _ S (fun vs H1 Hs1 ds M1 e1 S1 r1 ⟨ql, q1⟩ => ?_) q⟩
  have hl := r1.length
  refine ⟨by rw [line_eq]; omega, fun p np => ?_⟩
  obtain ⟨n1, n2, n3⟩ := S1.fresh np
  exact k p vs _ Hs1 ds M1 e1 (S1.alloc np _) upd_same (by omega) r1 n1 n2 n3 (own_ne S1 np) q1
def TSetOwn (i : Nat) (t : TAd) : TSd := fun Dd ρ M => t ρ M fun ds M1 => Dd.nx (ρ.set i (.own ds)) M1
theorem sem_setOwn (i : Nat) (h : SemF K te R) : SemS K (tAsg te (gName i)) (TSetOwn i R) := fun F Hs M σ H ρ Dh Dd S k q => h F Hs M σ H ρ _ _ S (fun a vs H1 Hs1 ds M1 e1 S1 h1 hl r1 n1 n2 n3 un q1 => k.nx _ H1 Hs1 _ M1 e1 (S1.setOwn i h1 hl r1 n1 n2 n3 fun j es _ => un j es) q1) q
theorem sd_setOwn {i : Nat} {x : Str} {e : Expr} {pos' : Pos} (hN : X.N.Nodup) (hi : X.N[i]? = some x) (hx : Loc X.env.scope x) (he : FD X e te R) (hs : swapsWith e (some (.Name x pos')) pos.line X.env = pure false := by rfl) (hf : X.fn x = true ∨ X.env.scope.names.lookup x = some .local := by first | exact .inl rfl | exact .inr rfl | assumption) : SD X (.Assign [.Name x pos'] e pos) (tAsg te (gName i)) (TSetOwn i R) := ⟨ps_set hN hi hx he.pe hs hf, sem_setOwn i he.se⟩
/-! ## append, extend on an own list -/
def TApp (i : Nat) (t : TEd) : TSd := fun Dd ρ M => match ρ[i]? with
  | some (.own ds) => t ρ M fun d M1 => ds.length < 16777216 ∧ Dd.nx (ρ.set i (.own (ds ++ [d]))) M1
  | _ => False
def TExt (i : Nat) (t : TEd) : TSd := fun Dd ρ M => match ρ[i]? with
  | some (.own ds) => t ρ M fun d M1 => match d with
    | .lst es => ds.length + es.length ≤ 16777216 ∧ Dd.nx (ρ.set i (.own (ds ++ es))) M1
    | _ => False
  | _ => False
theorem sem_app (i : Nat) (h : SemE K te Te) : SemS K (tDrop (tBM K "list" rAppend (tVar i) (tCons te tNil))) (TApp i Te) := fun F Hs M σ H ρ Dh Dd S k q => by
  unfold TApp at q
  split at q
  · rename_i ds e
    obtain ⟨a, vs, q1, q2, q3, q4, q5, q6, q7, q8⟩ := S.ow i ds e
    refine ⟨_, q1, .inl ⟨rfl, vs, SqL.of q2⟩, h F Hs M σ H ρ _ _ S (fun v H1 Hs1 d M1 e1 S1 r1 ⟨ql, p1⟩ => ?_) q⟩
    obtain ⟨a', vs', p2, p3, p4, p5, _⟩ := S1.ow i ds e
    have ea : a' = a := by rw [q1] at p2; cases p2; rfl
    subst ea
    have hl := p5.length
    refine ⟨a', vs', v, rfl, rfl, p3, by rw [line_eq]; omega, ?_⟩
    exact k.nx _ _ Hs1 _ M1 e1 (S1.mutOwn e q1 p3 (by simp; omega) (p5.append (.one r1))) p1
  · exact q.elim
theorem sem_ext (i : Nat) (h : SemE K te Te) : SemS K (tDrop (tBM K "list" rExtend (tVar i) (tCons te tNil))) (TExt i Te) := fun F Hs M σ H ρ Dh Dd S k q => by
  unfold TExt at q
  split at q
  · rename_i ds e
    obtain ⟨a, vs, q1, q2, q3, q4, q5, q6, q7, q8⟩ := S.ow i ds e
    refine ⟨_, q1, .inl ⟨rfl, vs, SqL.of q2⟩, h F Hs M σ H ρ _ _ S (fun v H1 Hs1 d M1 e1 S1 r1 p1 => ?_) q⟩
    split at p1
    · rename_i es
      obtain ⟨ql, p1⟩ := p1
      obtain ⟨a', vs', p2, p3, p4, p5, _⟩ := S1.ow i ds e
      have ea : a' = a := by rw [q1] at p2; cases p2; rfl
      subst ea
      have hl := p5.length
      cases r1 with
      | lst h1 h2 h3 =>
        have hl2 := h3.length
        refine ⟨a', _, vs', _, rfl, rfl, p3, S1.hs _ _ h1, by rw [line_eq]; omega, ?_⟩
        exact k.nx _ _ Hs1 _ M1 e1 (S1.mutOwn e q1 p3 (by simp; omega) (p5.append h3)) p1
    · exact p1.elim
  · exact q.elim
theorem sd_app {i : Nat} {o e : Expr} {apos cpos : Pos} (ho : PE X o (tVar i)) (he : ED X e te Te)
    (hbase : attributeBase o "append" X.env (eval o X.env) = eval o X.env := by rfl)
    (hfew : ((backTo cpos (starEach [e] X.env)).all (fun x => !x.1) && (backToKw cpos (keywordEach [] X.env)).all (fun x => x.1.isSome)
      && decide (([e] : List Expr).length + ([] : List Keyword).length + (if ([] : List Keyword).isEmpty then 0 else 1) < 30)) = true := by rfl)
    (hline : (apos.endLine == cpos.line) = true := by rfl) (hs : starEach [e] X.env = (false, eval e X.env) :: starEach [] X.env := by rfl) (hplain : (backTo cpos (starEach [] X.env)).any (·.1) = false := by rfl) (hsw : swapsWith (.Call (.Attribute o "append" apos) [e] [] cpos) none pos.line X.env = pure false := by rfl) :
    SD X (.Expr (.Call (.Attribute o "append" apos) [e] [] cpos) pos) (tDrop (tBM X.K "list" rAppend (tVar i) (tCons te tNil))) (TApp i Te) :=
  ⟨ps_expr (pe_bm PySem.F.plainAttrs_list PySem.F.slot_list_append PySem.F.type_list_append mt_append ho (pa_cons he.pe pa_nil hs) hbase hfew hline hs hplain) hsw, sem_app i he.se⟩
theorem sd_ext {i : Nat} {o e : Expr} {apos cpos : Pos} (ho : PE X o (tVar i)) (he : ED X e te Te)
    (hbase : attributeBase o "extend" X.env (eval o X.env) = eval o X.env := by rfl)
    (hfew : ((backTo cpos (starEach [e] X.env)).all (fun x => !x.1) && (backToKw cpos (keywordEach [] X.env)).all (fun x => x.1.isSome)
      && decide (([e] : List Expr).length + ([] : List Keyword).length + (if ([] : List Keyword).isEmpty then 0 else 1) < 30)) = true := by rfl)
    (hline : (apos.endLine == cpos.line) = true := by rfl) (hs : starEach [e] X.env = (false, eval e X.env) :: starEach [] X.env := by rfl) (hplain : (backTo cpos (starEach [] X.env)).any (·.1) = false := by rfl) (hsw : swapsWith (.Call (.Attribute o "extend" apos) [e] [] cpos) none pos.line X.env = pure false := by rfl) :
    SD X (.Expr (.Call (.Attribute o "extend" apos) [e] [] cpos) pos) (tDrop (tBM X.K "list" rExtend (tVar i) (tCons te tNil))) (TExt i Te) :=
  ⟨ps_expr (pe_bm PySem.F.plainAttrs_list PySem.F.slot_list_extend PySem.F.type_list_extend mt_extend ho (pa_cons he.pe pa_nil hs) hbase hfew hline hs hplain) hsw, sem_ext i he.se⟩
end
end DL

namespace DL
open PySem PySem.Spec PyProof.Rows L2
/-! ## frames: a call, a block -/
def cfr (Hs : Hp) (M : Mem) (H : Hp) : Hp := fun a => if (Hs a).isNone = true ∧ (M a).isNone = true then H a else none
def unown : List Sl → List Sl
  | [] => []
  | .own _ :: r => .no :: unown r
  | x :: r => x :: unown r
theorem unown_len : ∀ ρ : List Sl, (unown ρ).length = ρ.length
  | [] => rfl
  | .own _ :: r => by show (unown r).length + 1 = r.length + 1; rw [unown_len r]
  | .no :: r => by show (unown r).length + 1 = r.length + 1; rw [unown_len r]
  | .val _ :: r => by show (unown r).length + 1 = r.length + 1; rw [unown_len r]
theorem unown_val : ∀ {ρ : List Sl} {i : Nat} {d : D}, (unown ρ)[i]? = some (Sl.val d) → ρ[i]? = some (Sl.val d)
  | [], i, d, h => by simp [unown] at h
  | .own _ :: r, 0, d, h => by simp [unown] at h
  | .no :: r, 0, d, h => by simp [unown] at h
  | .val _ :: r, 0, d, h => by simpa [unown] using h
  | .own _ :: r, i + 1, d, h => by simpa using unown_val (ρ := r) (by simpa [unown] using h)
  | .no :: r, i + 1, d, h => by simpa using unown_val (ρ := r) (by simpa [unown] using h)
  | .val _ :: r, i + 1, d, h => by simpa using unown_val (ρ := r) (by simpa [unown] using h)
theorem unown_own : ∀ {ρ : List Sl} {i : Nat} {d : List D}, (unown ρ)[i]? = some (Sl.own d) → False
  | [], i, d, h => by simp [unown] at h
  | .own _ :: r, 0, d, h => by simp [unown] at h
  | .no :: r, 0, d, h => by simp [unown] at h
  | .val _ :: r, 0, d, h => by simp [unown] at h
  | .own _ :: r, i + 1, d, h => unown_own (ρ := r) (i := i) (by simpa [unown] using h)
  | .no :: r, i + 1, d, h => unown_own (ρ := r) (i := i) (by simpa [unown] using h)
  | .val _ :: r, i + 1, d, h => unown_own (ρ := r) (i := i) (by simpa [unown] using h)
section
variable {K : PySem.W.Frag} {F Hs Hs' F' : Hp} {M M' : Mem} {σ σ' : L2.St} {H H' : Hp} {ρ ρ' : List Sl}
theorem cfr_some {a : Addr} {o : HO} (h : cfr Hs M H a = some o) : Hs a = none ∧ M a = none ∧ H a = some o := by
  unfold cfr at h
  split at h
  · rename_i q
    exact ⟨Option.isNone_iff_eq_none.mp q.1, Option.isNone_iff_eq_none.mp q.2, h⟩
  · cases h
theorem cfr_of {a : Addr} (h1 : Hs a = none) (h2 : M a = none) : cfr Hs M H a = H a := by
  unfold cfr
  rw [if_pos ⟨by rw [h1]; rfl, by rw [h2]; rfl⟩]
theorem cfr_none {a : Addr} {m : MO} (h : M a = some m) : cfr Hs M H a = none := by
  unfold cfr
  rw [if_neg]
  rw [h]
  rintro ⟨_, q⟩
  cases q
theorem Sta.enframe (S : Sta K F Hs M σ H ρ) : Sta K (cfr Hs M H) Hs M σ H (unown ρ) :=
  ⟨S.hs, fun a o e => (cfr_some e).2.2, fun a o e => (cfr_some e).1, fun a m e => ⟨(S.me a m e).1, (S.me a m e).2.1, cfr_none e⟩, by rw [unown_len]; exact S.ln, fun i d e => S.vl i d (unown_val e), fun i d e => (unown_own e).elim⟩
theorem Sta.unframe (S : Sta K F Hs M σ H ρ) (S' : Sta K (cfr Hs M H) Hs' M' σ' H' ρ') (x : Ext Hs Hs') : Sta K F Hs' M' σ H' ρ := by
  have inF : ∀ a o, F a = some o → cfr Hs M H a = some o := fun a o e => by
    have h1 := S.dj a o e
    have h2 : M a = none := by
      cases q : M a with
      | none => rfl
      | some m =>
        have := (S.me a m q).2.2
        rw [e] at this; cases this
    rw [cfr_of h1 h2]; exact S.fr a o e
  refine ⟨S'.hs, fun a o e => S'.fr a o (inF a o e), fun a o e => S'.dj a o (inF a o e), fun a m e => ?_, S.ln, fun i d e => ?_, fun i ds e => ?_⟩
  · obtain ⟨m1, m2, m3⟩ := S'.me a m e
    refine ⟨m1, m2, ?_⟩
    cases q : F a with
    | none => rfl
    | some o => rw [inF a o q] at m3; cases m3
  · obtain ⟨v, q1, q2⟩ := S.vl i d e
    exact ⟨v, q1, q2.mono x⟩
  · obtain ⟨a, vs, q1, q2, q3, q4, q5, q6, q7, q8⟩ := S.ow i ds e
    have c : cfr Hs M H a = some (.lst vs) := by rw [cfr_of q5 q7]; exact q2
    refine ⟨a, vs, q1, S'.fr _ _ c, q3, q4.mono x, S'.dj _ _ c, q6, ?_, q8⟩
    cases q : M' a with
    | none => rfl
    | some m =>
      have := (S'.me a m q).2.2
      rw [c] at this; cases this
/-- a framed object changed -/
theorem Sta.mutF (S : Sta K F Hs M σ H ρ) {p : Addr} {o o' : HO} (h : F p = some o) : Sta K (upd F p o') Hs M σ (upd H p o') ρ := by
  have hp := S.fr p o h
  have n1 := S.dj p o h
  have n2 : M p = none := by
    cases q : M p with
    | none => rfl
    | some m =>
      have := (S.me p m q).2.2
      rw [h] at this; cases this
  refine ⟨fun a u e => ?_, fun a u e => ?_, fun a u e => ?_, fun a m e => ?_, S.ln, S.vl, fun i ds e => ?_⟩
  · rw [upd_ne (fun z => by rw [z, n1] at e; cases e)]; exact S.hs a u e
  · by_cases q : a = p
    · subst q; rw [upd_same] at e ⊢; exact e
    · rw [upd_ne q] at e ⊢; exact S.fr a u e
  · by_cases q : a = p
    · subst q; exact n1
    · rw [upd_ne q] at e; exact S.dj a u e
  · obtain ⟨m1, m2, m3⟩ := S.me a m e
    have ne : a ≠ p := fun z => by rw [z, n2] at e; cases e
    exact ⟨m1.mono (Ext.refl _) fun w q => by rw [upd_ne ne]; exact q, m2, by rw [upd_ne ne]; exact m3⟩
  · obtain ⟨a, vs, q1, q2, q3, q4, q5, q6, q7, q8⟩ := S.ow i ds e
    have ne : a ≠ p := fun z => by rw [z, h] at q6; cases q6
    exact ⟨a, vs, q1, by rw [upd_ne ne]; exact q2, q3, q4, q5, by rw [upd_ne ne]; exact q6, q7, q8⟩
/-- a new object, framed -/
theorem Sta.allocF (S : Sta K F Hs M σ H ρ) {p : Addr} (n : H p = none) (o : HO) : Sta K (upd F p o) Hs M σ (upd H p o) ρ := by
  obtain ⟨n1, n2, n3⟩ := S.fresh n
  have S1 := S.alloc n o
  have neH : ∀ a u, H a = some u → a ≠ p := fun a u e z => by rw [z, n] at e; cases e
  refine ⟨S1.hs, fun a u e => ?_, fun a u e => ?_, fun a m e => ?_, S1.ln, S1.vl, fun i ds e => ?_⟩
  · by_cases q : a = p
    · subst q; rw [upd_same] at e ⊢; exact e
    · rw [upd_ne q] at e ⊢; exact S.fr a u e
  · by_cases q : a = p
    · subst q; exact n1
    · rw [upd_ne q] at e; exact S.dj a u e
  · obtain ⟨m1, m2, m3⟩ := S1.me a m e
    have ne : a ≠ p := fun z => by rw [z, n3] at e; cases e
    exact ⟨m1, m2, by rw [upd_ne ne]; exact m3⟩
  · obtain ⟨a, vs, q1, q2, q3, q4, q5, q6, q7, q8⟩ := S.ow i ds e
    have ne := neH a _ q2
    exact ⟨a, vs, q1, by rw [upd_ne ne]; exact q2, q3, q4, q5, by rw [upd_ne ne]; exact q6, q7, q8⟩
/-- a list that no one knows is known from now on -/
theorem Sta.know (S : Sta K F Hs M σ H ρ) {a : Addr} {vs : List V} (h : H a = some (.lst vs)) (n1 : Hs a = none) (n2 : F a = none) (n3 : M a = none)
    (un : ∀ (j : Nat) (es : List D), ρ[j]? = some (Sl.own es) → σ[j]? ≠ some (some (V.ref a))) : Sta K F (upd Hs a (.lst vs)) M σ H ρ ∧ Ext Hs (upd Hs a (.lst vs)) := by
  have x : Ext Hs (upd Hs a (.lst vs)) := Ext.new n1
  refine ⟨⟨fun b u e => ?_, S.fr, fun b u e => ?_, fun b m e => ?_, S.ln, fun i d e => ?_, fun i ds e => ?_⟩, x⟩
  · by_cases q : b = a
    · subst q; rw [upd_same] at e; rw [h]; exact e
    · rw [upd_ne q] at e; exact S.hs b u e
  · rw [upd_ne (fun z => by rw [z, n2] at e; cases e)]; exact S.dj b u e
  · obtain ⟨m1, m2, m3⟩ := S.me b m e
    exact ⟨m1.mono x fun w q => q, by rw [upd_ne (fun z => by rw [z, n3] at e; cases e)]; exact m2, m3⟩
  · obtain ⟨v, q1, q2⟩ := S.vl i d e
    exact ⟨v, q1, q2.mono x⟩
  · obtain ⟨b, ws, q1, q2, q3, q4, q5, q6, q7, q8⟩ := S.ow i ds e
    have ne : b ≠ a := fun z => by subst z; exact un i ds e q1
    exact ⟨b, ws, q1, q2, q3, q4.mono x, by rw [upd_ne ne]; exact q5, q6, q7, q8⟩
end
theorem sem_of_F {K : PySem.W.Frag} {t : TE} {T : TAd} (h : SemF K t T) : SemE K t (fun ρ M Q => T ρ M fun ds M1 => Q (.lst ds) M1) := fun F Hs M σ H ρ Q Qd S k q =>
  h F Hs M σ H ρ _ _ S (fun a vs H' Hs' ds M' e S' h' hl r n1 n2 n3 un q' => by
    obtain ⟨S2, x2⟩ := S'.know h' n1 n2 n3 un
    exact k _ H' _ _ M' (e.trans x2) S2 (.lst upd_same hl (r.mono x2)) q') q
/-! ## comprehensions -/
theorem wipe_get (σ : L2.St) : ∀ (vs : List Nat) (j : Nat), (wipe σ vs)[j]? = if j ∈ vs then (σ[j]?).map (fun _ => none) else σ[j]?
  | [], j => by simp [wipe]
  | v :: vs, j => by
    unfold wipe
    by_cases h : v = j
    · subst h
      rw [List.getElem?_set]
      simp only [if_true, List.mem_cons, true_or, wipe_length]
      by_cases hl : v < σ.length
      · rw [if_pos hl, List.getElem?_eq_getElem hl]; rfl
      · rw [if_neg hl, List.getElem?_eq_none (by omega)]; rfl
    · rw [List.getElem?_set_ne h, wipe_get σ vs j]
      simp [Ne.symm h]
theorem wipe_set {σ : L2.St} {i : Nat} {vs : List Nat} (o : Option V) (h : i ∈ vs) : wipe (σ.set i o) vs = wipe σ vs := by
  apply List.ext_getElem?
  intro j
  rw [wipe_get, wipe_get]
  by_cases hj : i = j
  · subst hj
    rw [if_pos h, if_pos h, List.getElem?_set]
    simp only [if_true]
    by_cases hl : i < σ.length
    · rw [if_pos hl, List.getElem?_eq_getElem hl]; rfl
    · rw [if_neg hl, List.getElem?_eq_none (by omega)]
  · rw [List.getElem?_set_ne hj]
theorem wipe_wipe (σ : L2.St) (vs : List Nat) : wipe (wipe σ vs) vs = wipe σ vs := by
  apply List.ext_getElem?
  intro j
  rw [wipe_get, wipe_get]
  by_cases hj : j ∈ vs
  · rw [if_pos hj, if_pos hj]; cases σ[j]? <;> rfl
  · rw [if_neg hj, if_neg hj]
def wipeD (ρ : List Sl) : List Nat → List Sl
  | [] => ρ
  | v :: vs => (wipeD ρ vs).set v .no
theorem Sta.wipe {K : PySem.W.Frag} {F Hs : Hp} {M : Mem} {σ : L2.St} {H : Hp} {ρ : List Sl} (S : Sta K F Hs M σ H ρ) : ∀ vs : List Nat, Sta K F Hs M (L2.wipe σ vs) H (wipeD ρ vs)
  | [] => S
  | v :: vs => (Sta.wipe S vs).no v none
/-- a target stores into these slots alone -/
def GW (g : TG) (vs : List Nat) : Prop := ∀ (x : V) (σ : L2.St) (H : Hp) (Q : L2.St → Hp → Prop), g x σ H Q → g x σ H fun σ2 H2 => wipe σ2 vs = wipe σ vs ∧ Q σ2 H2
def GsW (g : TGs) (vs : List Nat) : Prop := ∀ (x : List V) (σ : L2.St) (H : Hp) (Q : L2.St → Hp → Prop), g x σ H Q → g x σ H fun σ2 H2 => wipe σ2 vs = wipe σ vs ∧ Q σ2 H2
theorem gw_name {i : Nat} {vs : List Nat} (h : i ∈ vs := by decide) : GW (gName i) vs := fun x σ H Q q => ⟨wipe_set _ h, q⟩
theorem gsw_nil {vs : List Nat} : GsW gNil vs := fun x σ H Q q => ⟨q.1, rfl, q.2⟩
theorem SemG.monoH {g : TG} : True := trivial
/-- readings of targets are monotone -/
def GM (g : TG) : Prop := ∀ (x : V) (σ : L2.St) (H : Hp) (Q Q' : L2.St → Hp → Prop), (∀ σ H, Q σ H → Q' σ H) → g x σ H Q → g x σ H Q'
def GsM (g : TGs) : Prop := ∀ (x : List V) (σ : L2.St) (H : Hp) (Q Q' : L2.St → Hp → Prop), (∀ σ H, Q σ H → Q' σ H) → g x σ H Q → g x σ H Q'
structure GO (g : TG) (vs : List Nat) : Prop where
  w : GW g vs
  m : GM g
structure GsO (g : TGs) (vs : List Nat) : Prop where
  w : GsW g vs
  m : GsM g
theorem go_name {i : Nat} {vs : List Nat} (h : i ∈ vs := by decide) : GO (gName i) vs := ⟨gw_name h, fun x σ H Q Q' k q => k _ _ q⟩
theorem gso_nil {vs : List Nat} : GsO gNil vs := ⟨gsw_nil, fun x σ H Q Q' k q => ⟨q.1, k _ _ q.2⟩⟩
theorem gso_cons {g : TG} {gs : TGs} {vs : List Nat} (h : GO g vs) (h2 : GsO gs vs) : GsO (gCons g gs) vs :=
  ⟨fun x σ H Q q => by
    obtain ⟨v, r, e, q⟩ := q
    exact ⟨v, r, e, h.m _ _ _ _ _ (fun σ1 H1 ⟨e1, q1⟩ => h2.m _ _ _ _ _ (fun σ2 H2 ⟨e2, q2⟩ => ⟨e2.trans e1, q2⟩) (h2.w _ _ _ _ q1)) (h.w _ _ _ _ q)⟩,
   fun x σ H Q Q' k q => by
    obtain ⟨v, r, e, q⟩ := q
    exact ⟨v, r, e, h.m _ _ _ _ _ (fun σ1 H1 q1 => h2.m _ _ _ _ _ k q1) q⟩⟩
theorem go_tup {K : PySem.W.Frag} {n : Nat} {gs : TGs} {vs : List Nat} (h : GsO gs vs) : GO (gTup K n gs) vs :=
  ⟨fun x σ H Q q => by
    obtain ⟨a, xs, e, hs, hl, q⟩ := q
    exact ⟨a, xs, e, hs, hl, h.w _ _ _ _ q⟩,
   fun x σ H Q Q' k q => by
    obtain ⟨a, xs, e, hs, hl, q⟩ := q
    exact ⟨a, xs, e, hs, hl, h.m _ _ _ _ _ k q⟩⟩
def lcD (g : TGd) (c : TTd) (e : TEd) : List D → List Sl → Mem → (List D → Mem → Prop) → Prop
  | [], _, M, Q => Q [] M
  | d :: r, ρ, M, Q => g d ρ M fun ρ2 M2 => c ρ2 M2 fun b M3 => match b with
    | true => e ρ2 M3 fun y M4 => lcD g c e r ρ M4 fun ys M5 => Q (y :: ys) M5
    | false => lcD g c e r ρ M3 Q
def TLcF (it : TId) (g : TGd) (c : TTd) (e : TEd) (vs : List Nat) : TAd := fun ρ M Q => it ρ M fun ds M1 => ds.length ≤ 16777215 ∧ lcD g c e ds (wipeD (unown ρ) vs) M1 Q
def TLc (it : TId) (g : TGd) (c : TTd) (e : TEd) (vs : List Nat) : TEd := fun ρ M Q => TLcF it g c e vs ρ M fun ds M1 => Q (.lst ds) M1
def TYes : TTd := fun _ M Q => Q true M
theorem sem_yes (K : PySem.W.Frag) : SemT K tYes TYes := fun F Hs M σ H ρ Q Qd S k q => k true H Hs M (Ext.refl _) S q
theorem sem_lcF {K : PySem.W.Frag} {wi : TI} {T : TId} {g : TG} {G : TGd} {tt : TT} {Tt : TTd} {te : TE} {Te : TEd} {vs : List Nat} (hi : SemI K wi T) (hg : SemG K g G) (go : GO g vs) (ht : SemT K tt Tt) (he : SemE K te Te) : SemF K (tLc wi g tt te vs) (TLcF T G Tt Te vs) := fun F Hs M σ H ρ Q Qd S k q =>
  hi F Hs M σ H ρ _ _ S (fun J H1 Hs1 ds M1 e1 S1 y1 ⟨hlen, q1⟩ => by
    intro p np
    obtain ⟨np1, np2, np3⟩ := S1.fresh np
    have U := own_ne S1 np
    -- the block's frame
    have S1' := S1.enframe
    have SA := (S1'.allocF np (.lst [])).wipe vs
    refine ⟨fun i m H => m = ds.length - i ∧ i ≤ ds.length ∧ ∃ Hs' M' acc done, Ext Hs1 Hs' ∧ Sta K (upd (cfr Hs1 M1 H1) p (.lst acc)) Hs' M' (wipe σ vs) H (wipeD (unown ρ) vs) ∧ Reps K Hs' acc done ∧ done.length ≤ i ∧
      lcD G Tt Te (ds.drop i) (wipeD (unown ρ) vs) M' (fun ys M5 => Qd (done ++ ys) M5), ⟨ds.length, by omega, Nat.zero_le _, Hs1, M1, [], [], Ext.refl _, SA, .nil, by simp, by simpa using q1⟩, ?_⟩
    rintro i m H2 ⟨rfl, hi, Hs2, M2, acc, done, e2, S2, r2, hd2, q2⟩
    obtain ⟨y2, y3⟩ := y1 _ Hs2 M2 _ H2 _ i e2 S2
    by_cases hlt : i < ds.length
    · have hd : ds[i]? = some ds[i] := List.getElem?_eq_getElem hlt
      obtain ⟨go', yl⟩ := y2 _ hd
      rw [List.drop_eq_getElem_cons hlt] at q2
      refine .inr ⟨go', fun H => ∃ Hs' M' acc done, Ext Hs1 Hs' ∧ Sta K (upd (cfr Hs1 M1 H1) p (.lst acc)) Hs' M' (wipe σ vs) H (wipeD (unown ρ) vs) ∧ Reps K Hs' acc done ∧ done.length ≤ i + 1 ∧
        lcD G Tt Te (ds.drop (i + 1)) (wipeD (unown ρ) vs) M' (fun ys M5 => Qd (done ++ ys) M5), fun H' h => ⟨ds.length - (i + 1), by omega, rfl, hlt, h⟩, fun x H3 hy => ?_⟩
      obtain ⟨Hs3, e3, S3, r3⟩ := yl x H3 hy
      have base := hg _ Hs3 M2 _ H3 _ x _ (fun σ4 H4 => tt σ4 H4 fun b H5 => if b = true then te σ4 H5 fun y H6 => ∃ acc, H6 p = some (.lst acc) ∧ acc.length < sizeLine ∧ (∃ Hs' M' acc' done, Ext Hs1 Hs' ∧ Sta K (upd (cfr Hs1 M1 H1) p (.lst acc')) Hs' M' (wipe σ vs) (upd H6 p (.lst (acc ++ [y]))) (wipeD (unown ρ) vs) ∧ Reps K Hs' acc' done ∧ done.length ≤ i + 1 ∧
        lcD G Tt Te (ds.drop (i + 1)) (wipeD (unown ρ) vs) M' (fun ys M5 => Qd (done ++ ys) M5)) else (∃ Hs' M' acc' done, Ext Hs1 Hs' ∧ Sta K (upd (cfr Hs1 M1 H1) p (.lst acc')) Hs' M' (wipe σ vs) H5 (wipeD (unown ρ) vs) ∧ Reps K Hs' acc' done ∧ done.length ≤ i + 1 ∧
        lcD G Tt Te (ds.drop (i + 1)) (wipeD (unown ρ) vs) M' (fun ys M5 => Qd (done ++ ys) M5))) _ S3 r3 (fun σ4 H4 Hs4 ρ4 M4 e4 S4 q4 => ?_) q2
      · refine go.m _ _ _ _ _ (fun σ4 H4 ⟨ew, q⟩ => ⟨ew.trans (wipe_wipe σ vs), q⟩) (go.w _ _ _ _ base)
      · refine ht _ Hs4 M4 σ4 H4 ρ4 _ _ S4 (fun b H5 Hs5 M5 e5 S5 q5 => ?_) q4
        -- the state with the old slots
        have back : ∀ {Hs6 : Hp} {M6 : Mem} {H6 : Hp}, Sta K (upd (cfr Hs1 M1 H1) p (.lst acc)) Hs6 M6 σ4 H6 ρ4 → Ext Hs3 Hs6 → Sta K (upd (cfr Hs1 M1 H1) p (.lst acc)) Hs6 M6 (wipe σ vs) H6 (wipeD (unown ρ) vs) := fun {Hs6 M6 H6} S6 x6 => by
          refine ⟨S6.hs, S6.fr, S6.dj, S6.me, S2.ln, fun j d e => ?_, fun j d e => ?_⟩
          · obtain ⟨v, p1, p2⟩ := S3.vl j d e
            exact ⟨v, p1, p2.mono x6⟩
          · exfalso
            have : ∀ (vs : List Nat), (wipeD (unown ρ) vs)[j]? = some (Sl.own d) → False := by
              intro vs
              induction vs with
              | nil => intro h; exact unown_own h
              | cons v vs ih =>
                intro h
                unfold wipeD at h
                by_cases hv : v = j
                · subst hv
                  rw [List.getElem?_set] at h
                  simp only [if_true] at h
                  split at h <;> cases h
                · rw [List.getElem?_set_ne hv] at h
                  exact ih h
            exact this vs e
        cases b with
        | true =>
          rw [if_pos rfl]
          refine he _ Hs5 M5 σ4 H5 ρ4 _ _ S5 (fun y H6 Hs6 d M6 e6 S6 r6 q6 => ?_) q5
          have hD : H6 p = some (.lst acc) := S6.fr p _ upd_same
          have hl := r2.length
          have x36 := (e4.trans e5).trans e6
          have S7 := (back S6 x36).mutF (o' := .lst (acc ++ [y])) (p := p) upd_same
          rw [upd_upd] at S7
          refine ⟨acc, hD, by rw [line_eq]; omega, Hs6, M6, acc ++ [y], done ++ [d], (e2.trans e3).trans x36, S7, (r2.mono (e3.trans x36)).append (.one r6), by simp; omega, ?_⟩
          simpa [List.append_assoc] using q6
        | false =>
          rw [if_neg Bool.false_ne_true]
          have x35 := e4.trans e5
          exact ⟨Hs5, M5, acc, done, (e2.trans e3).trans x35, back S5 x35, r2.mono (e3.trans x35), by omega, q5⟩
    · have e : i = ds.length := by omega
      subst e
      rw [List.drop_length] at q2
      refine .inl ⟨y3 (Nat.le_refl _), ?_⟩
      have hp : H2 p = some (.lst acc) := S2.fr p _ upd_same
      have n1 : Hs2 p = none := S2.dj p _ upd_same
      have n3 : M2 p = none := by
        cases q : M2 p with
        | none => rfl
        | some m =>
          have := (S2.me p m q).2.2
          rw [upd_same] at this; cases this
      -- back to the caller's frame
      have c0 : cfr Hs1 M1 H1 p = none := by rw [cfr_of np1 np3]; exact np
      have S3 : Sta K (cfr Hs1 M1 H1) Hs2 M2 (wipe σ vs) H2 (wipeD (unown ρ) vs) := by
        have ne : ∀ a o, cfr Hs1 M1 H1 a = some o → a ≠ p := fun a o e z => by rw [z, c0] at e; cases e
        refine ⟨S2.hs, fun a o e => S2.fr a o (by rw [upd_ne (ne a o e)]; exact e), fun a o e => S2.dj a o (by rw [upd_ne (ne a o e)]; exact e), fun a m e => ?_, S2.ln, S2.vl, fun j d e => ?_⟩
        · obtain ⟨m1, m2, m3⟩ := S2.me a m e
          refine ⟨m1, m2, ?_⟩
          by_cases z : a = p
          · subst z; exact c0
          · rw [upd_ne z] at m3; exact m3
        · obtain ⟨a, ws, p1, p2, p3, p4, p5, p6, p7, p8⟩ := S2.ow j d e
          refine ⟨a, ws, p1, p2, p3, p4, p5, ?_, p7, p8⟩
          by_cases z : a = p
          · subst z; exact c0
          · rw [upd_ne z] at p6; exact p6
      have S4 := S1.unframe S3 e2
      have hl := r2.length
      exact k p acc H2 Hs2 _ M2 (e1.trans e2) S4 hp (by omega) r2 n1 np2 n3 U (by have q3 : Qd (done ++ []) M2 := q2; simpa using q3)) q
end DL

namespace DL
open PySem PySem.Spec PyProof.Rows L2
section
variable {X : Cx} {pos : Pos} {ta tb te : TE} {Ta Tb Te : TEd} {tt tu : TT} {T U : TTd} {tr : TA} {R : TAd} {K : PySem.W.Frag} {ts tu' : TS} {Ts Us : TSd}
structure PTD (X : Cx) (ifs : List Expr) (t : TT) (T : TTd) : Prop where
  pe : PTs X ifs t
  se : SemT X.K t T
theorem ptd_nil : PTD X [] tYes TYes := ⟨pts_nil, sem_yes _⟩
theorem ptd_one {c : Expr} (h : TD X c tt T) : PTD X [c] tt T := ⟨pts_one h.pe, h.se⟩
/-- some block's context -/
def aShared : Shared := ⟨⟨#[], {}⟩, #[], {}, 0, (PySem.start (default : Program)).1.os⟩
abbrev Blk (X : Cx) (scope : Scope) (P : Cx → Prop) : Prop := ∀ (s : Shared) (H : Hp) (C : Addr) (cl : List (Str × Addr)) (fp : List Addr), P (X.blk s H scope (compEnvC scope cl C X.env) fp)
variable {elt tg iter : Expr} {ifs : List Expr} {scope : Scope} {own : List (Str × Nat)} {wi : TI} {Ti : TId} {g : TG} {G : TGd}
theorem fd_lc (hc : X.calm = true) (hN : X.N.Nodup) (hi : ID X tg iter wi Ti) (ok : BlkOk X.N X.env.scope scope own) (go : GO g (own.map (·.2)))
    (hg : Blk X scope fun Y => GD Y tg g G) (ht : Blk X scope fun Y => PTD Y ifs tt T) (he : Blk X scope fun Y => ED Y elt te Te) (hs : ∀ x, foldedSetIterable iter X.env x = pure x := by intro _; rfl) :
    FD X (.ListComp elt [⟨tg, iter, ifs, 0⟩] scope pos) (tLc wi g tt te (own.map (·.2))) (TLcF Ti G T Te (own.map (·.2))) :=
  ⟨pe_lc hc hN hi.pe ok (fun s H C cl fp => (hg s H C cl fp).pe) (fun s H C cl fp => (ht s H C cl fp).pe) (fun s H C cl fp => (he s H C cl fp).pe) hs, sem_lcF hi.se (hg aShared (fun _ => none) 0 [] []).se go (ht aShared (fun _ => none) 0 [] []).se (he aShared (fun _ => none) 0 [] []).se⟩
theorem ed_lc (hc : X.calm = true) (hN : X.N.Nodup) (hi : ID X tg iter wi Ti) (ok : BlkOk X.N X.env.scope scope own) (go : GO g (own.map (·.2)))
    (hg : Blk X scope fun Y => GD Y tg g G) (ht : Blk X scope fun Y => PTD Y ifs tt T) (he : Blk X scope fun Y => ED Y elt te Te) (hs : ∀ x, foldedSetIterable iter X.env x = pure x := by intro _; rfl) :
    ED X (.ListComp elt [⟨tg, iter, ifs, 0⟩] scope pos) (tLc wi g tt te (own.map (·.2))) (TLc Ti G T Te (own.map (·.2))) :=
  ⟨(fd_lc hc hN hi ok go hg ht he hs).pe, sem_of_F (fd_lc (pos := pos) hc hN hi ok go hg ht he hs).se⟩
theorem sd_setLcF {i : Nat} {y : Str} {py spos : Pos} (hc : X.calm = true) (hN : X.N.Nodup) (hy : X.N[i]? = some y) (hyl : X.env.scope.names.lookup y = some .local) (hsw : swapsWith (.ListComp elt [⟨tg, iter, ifs, 0⟩] scope pos) (some (.Name y py)) spos.line X.env = pure true) (hi : ID X tg iter wi Ti) (ok : BlkOk X.N X.env.scope scope own) (go : GO g (own.map (·.2)))
    (hg : Blk X scope fun Y => GD Y tg g G) (ht : Blk X scope fun Y => PTD Y ifs tt T) (he : Blk X scope fun Y => ED Y elt te Te) (hs : ∀ x, foldedSetIterable iter X.env x = pure x := by intro _; rfl) :
    SD X (.Assign [.Name y py] (.ListComp elt [⟨tg, iter, ifs, 0⟩] scope pos) spos) (tAsg (tLc wi g tt te (own.map (·.2))) (gName i)) (TSetOwn i (TLcF Ti G T Te (own.map (·.2)))) :=
  ⟨ps_setLc hc hN hy hyl hsw hi.pe ok (fun s H C cl fp => (hg s H C cl fp).pe) (fun s H C cl fp => (ht s H C cl fp).pe) (fun s H C cl fp => (he s H C cl fp).pe) hs, sem_setOwn i (fd_lc (pos := pos) hc hN hi ok go hg ht he hs).se⟩
theorem sd_setLc {i : Nat} {y : Str} {py spos : Pos} (hc : X.calm = true) (hN : X.N.Nodup) (hy : X.N[i]? = some y) (hyl : X.env.scope.names.lookup y = some .local) (hsw : swapsWith (.ListComp elt [⟨tg, iter, ifs, 0⟩] scope pos) (some (.Name y py)) spos.line X.env = pure true) (hi : ID X tg iter wi Ti) (ok : BlkOk X.N X.env.scope scope own) (go : GO g (own.map (·.2)))
    (hg : Blk X scope fun Y => GD Y tg g G) (ht : Blk X scope fun Y => PTD Y ifs tt T) (he : Blk X scope fun Y => ED Y elt te Te) (hs : ∀ x, foldedSetIterable iter X.env x = pure x := by intro _; rfl) :
    SD X (.Assign [.Name y py] (.ListComp elt [⟨tg, iter, ifs, 0⟩] scope pos) spos) (tAsg (tLc wi g tt te (own.map (·.2))) (gName i)) (TSet i (TLc Ti G T Te (own.map (·.2)))) :=
  ⟨ps_setLc hc hN hy hyl hsw hi.pe ok (fun s H C cl fp => (hg s H C cl fp).pe) (fun s H C cl fp => (ht s H C cl fp).pe) (fun s H C cl fp => (he s H C cl fp).pe) hs, sem_set i (ed_lc (pos := pos) hc hN hi ok go hg ht he hs).se⟩
/-! ## defs -/
abbrev SpD := List D → Mem → (D → Mem → Prop) → Prop
def spOf (K : PySem.W.Frag) (fsp : SpD) : Sp := fun vs H Q _ => ∃ (F Hs : Hp) (M : Mem) (ds : List D) (Qd : D → Mem → Prop), Sta K F Hs M [] H [] ∧ Reps K Hs vs ds ∧ fsp ds M Qd ∧
  ∀ (v : V) (H' Hs' : Hp) (d : D) (M' : Mem), Ext Hs Hs' → Sta K F Hs' M' [] H' [] → Rep K Hs' v d → Qd d M' → Q v H'
def TCall (fsp : SpD) (t : TAd) : TEd := fun ρ M Q => t ρ M fun ds M1 => fsp ds M1 Q
theorem sem_call {fsp : SpD} {E : XK} (h : SemA K tr R) : SemE K (tCall (spOf K fsp) [] E tr) (TCall fsp R) := fun F Hs M σ H ρ Q Qd S k q =>
  h F Hs M σ H ρ _ _ S (fun vs H1 Hs1 ds M1 e1 S1 r1 q1 => by
    rw [List.append_nil]
    exact ⟨cfr Hs1 M1 H1, Hs1, M1, ds, Qd, S1.enframe.drop, r1, q1, fun v H' Hs' d M' e S' r' q' => k v H' Hs' d M' (e1.trans e) (S1.unframe S' e) r' q'⟩) q
theorem ed_call {CX : CXT} {k : Nat} {f : Addr} {fd : FuncData} {ps : List Str} {fsp : SpD} {x : Str} {p : Pos} {e : Expr} {es : List Expr} {E : XK} (G : FnOk X.prog X.w X.K X.mg X.base CX k f fd ps (spOf X.K fsp)) (hr : Room k X.A) (hg : Gl X x) (hm : X.mg x = some (.ref f)) (hk : PySem.W.keepIn X.K (.ref f) = true) (hb : Binds X.K fd ps []) (hx : Passes CX X E)
    (ha : AD X (e :: es) tr R) (hdb : (x == ("__debug__" : Str)) = false := by decide) (he : starEach (e :: es) X.env = (false, eval e X.env) :: starEach es X.env := by rfl) (hpl : (backTo pos (starEach es X.env)).any (·.1) = false := by rfl) :
    ED X (.Call (.Name x p) (e :: es) [] pos) (tCall (spOf X.K fsp) [] E tr) (TCall fsp R) := ⟨pe_call G hr hg hm hk hb .nil hx ha.pe hdb he hpl, sem_call ha.se⟩
def startD (N : List Str) (ds : List D) : List Sl := ds.map Sl.val ++ List.replicate (N.length - ds.length) Sl.no
theorem Reps.startD {Hs : Hp} {vs : List V} {ds : List D} (r : Reps K Hs vs ds) (N : List Str) : ∀ (i : Nat) (d : D), (startD N ds)[i]? = some (Sl.val d) → ∃ v, (L2.start N vs)[i]? = some (some v) ∧ Rep K Hs v d := fun i d e => by
  have hl := r.length
  unfold DL.startD at e
  unfold L2.start
  by_cases hi : i < ds.length
  · rw [List.getElem?_append_left (by simpa using hi), List.getElem?_map] at e
    rw [List.getElem?_append_left (by simp; omega), List.getElem?_map]
    cases q : ds[i]? with
    | none => rw [q] at e; cases e
    | some d' =>
      rw [q] at e
      cases e
      obtain ⟨v, h1, h2⟩ := r.get q
      exact ⟨v, by rw [h1]; rfl, h2⟩
  · rw [List.getElem?_append_right (by simp; omega), List.getElem?_replicate] at e
    split at e <;> cases e
theorem startD_own {N : List Str} {ds : List D} {i : Nat} {es : List D} (e : (startD N ds)[i]? = some (Sl.own es)) : False := by
  unfold startD at e
  by_cases hi : i < ds.length
  · rw [List.getElem?_append_left (by simpa using hi), List.getElem?_map] at e
    cases q : ds[i]? <;> rw [q] at e <;> cases e
  · rw [List.getElem?_append_right (by simp; omega), List.getElem?_replicate] at e
    split at e <;> cases e
theorem Sta.begin {F Hs H : Hp} {M : Mem} {vs : List V} {ds : List D} (S : Sta K F Hs M [] H []) (r : Reps K Hs vs ds) (N : List Str) : Sta K F Hs M (L2.start N vs) H (startD N ds) :=
  ⟨S.hs, S.fr, S.dj, S.me, by simp [L2.start, startD, r.length], r.startD N, fun i es e => (startD_own e).elim⟩
/-- a def that lets no exception out -/
theorem fn_ok {P : Program} {w : World} {mg : Str → Option Value} {base : Heap} {x qual : Str} {params : Arguments} {body : List Stmt} {scope : Scope} {dvs : List V} {kws : List (Str × V)} {f : Addr} {fd : FuncData} {N ps : List Str} {k : Nat} {fsp : SpD} (F : FunD K x qual params body scope dvs kws f fd) (S : FnScope N ps scope) (len : ∀ ds M Q, fsp ds M Q → ds.length = ps.length)
    (hbody : ∀ (cdv : Value) (A : Around) (outer : List Env) (s : Shared) (H : Hp) (E : XK), Room k (A.deeper (envOfC qual scope s.heap.objs.size f cdv)) →
      ∃ t T, BD (cxOf CX0 P w K mg base N qual scope f cdv A outer s H E).nox body t T ∧ ∀ (ds : List D) (M : Mem) (Q : D → Mem → Prop), fsp ds M Q → T ⟨fun _ M' => Q .non M', Q, fun _ _ => False, fun _ _ => False⟩ (startD N ds) M) : FnOk P w K mg base CX0 (k + 1) f fd ps (spOf K fsp) := by
  refine F.ok S (fun vs H Q E h => ?_) (fun cdv A outer s H vs Q E hr h => ?_)
  · obtain ⟨F', Hs, M, ds, Qd, S0, r, q, _⟩ := h
    rw [r.length]
    exact len ds M Qd q
  · obtain ⟨F', Hs, M, ds, Qd, S0, r, q, kk⟩ := h
    obtain ⟨t, T, b, hb⟩ := hbody cdv A outer s H E hr
    refine ⟨t, PSs.nox b.pe, b.se F' Hs M _ H _ _ _ (S0.begin r N) ?_ (hb ds M Qd q)⟩
    exact ⟨fun σ' H' Hs' ρ' M' e S' q' => kk .non H' Hs' .non M' e S'.drop .non q', fun v H' Hs' d M' e S' r' q' => kk v H' Hs' d M' e S' r' q', fun _ _ _ _ _ _ _ z => z, fun _ _ _ _ _ _ _ z => z⟩
end
end DL

namespace DL
open PySem PySem.Spec PyProof.Rows L2 TL
/-! ## texts -/
def strOkL (l : List Nat) : Bool := l.all (· < 0x110000)
theorem okS_iff {x : Str} : okS x = true ↔ strOkL (tl x) = true ∧ x.length ≤ 16777216 := by
  unfold okS PyData.strOk strOkL tl
  simp only [Bool.and_eq_true, decide_eq_true_eq]
  constructor
  · rintro ⟨h1, h2⟩
    refine ⟨?_, h2⟩
    rw [List.all_eq_true]
    intro c hc
    exact Array.all_eq_true'.mp h1 c (by simpa using hc)
  · rintro ⟨h1, h2⟩
    refine ⟨?_, h2⟩
    rw [Array.all_eq_true']
    intro c hc
    exact List.all_eq_true.mp h1 c (by simpa using hc)
theorem okS_append {x y : Str} (hx : okS x = true) (hy : okS y = true) (h : x.length + y.length ≤ 16777216) : okS (x ++ y) = true := by
  rw [okS_iff] at *
  refine ⟨?_, ?_⟩
  · rw [tl_append]
    unfold strOkL at *
    rw [List.all_append, hx.1, hy.1]
    rfl
  · rw [len_tl, tl_append, List.length_append, ← len_tl, ← len_tl]
    exact h
theorem okS_sub {x y : Str} (hx : okS x = true) (h : ∀ c ∈ tl y, c ∈ tl x) (hl : y.length ≤ 16777216) : okS y = true := by
  rw [okS_iff] at *
  refine ⟨?_, hl⟩
  unfold strOkL at *
  rw [List.all_eq_true] at *
  exact fun c hc => hx.1 c (h c hc)
theorem okS_one {c : Nat} (h : c < 0x110000) : okS ⟨#[c]⟩ = true := by
  rw [okS_iff]
  refine ⟨?_, by show (1 : Nat) ≤ _; decide⟩
  show strOkL [c] = true
  unfold strOkL
  simp [h]
theorem okS_len {x : Str} (h : okS x = true) : x.length ≤ 16777216 := (okS_iff.mp h).2
/-! ## data as the library's data -/
mutual
def pyOf : D → PyData
  | .non => .none
  | .bl b => .bool b
  | .int i => .int i
  | .str s => .str s
  | .tup ds => .tuple (pysOf ds)
  | .lst ds => .list (pysOf ds)
  | .ref _ | .ty _ | .fzl _ | .ins _ _ | .dct _ => .none
def pysOf : List D → List PyData
  | [] => []
  | d :: r => pyOf d :: pysOf r
end
mutual
def isPy : D → Bool
  | .non | .bl _ | .int _ | .str _ => true
  | .tup ds => isPys ds
  | .lst ds => isPys ds
  | .ref _ | .ty _ | .fzl _ | .ins _ _ | .dct _ => false
def isPys : List D → Bool
  | [] => true
  | d :: r => isPy d && isPys r
end
mutual
def dep : D → Nat
  | .tup ds => deps ds + 1
  | .lst ds => deps ds + 1
  | .non | .bl _ | .int _ | .str _ | .ref _ | .ty _ | .fzl _ | .ins _ _ | .dct _ => 0
def deps : List D → Nat
  | [] => 0
  | d :: r => max (dep d) (deps r)
end
section
variable {K : PySem.W.Frag} {H : Hp}
mutual
theorem Rep.dp : ∀ {v : V} {d : D}, Rep K H v d → isPy d = true → Dp K H v (pyOf d) ∧ (pyOf d).canLay0 = true ∧ (pyOf d).depth = dep d
  | _, _, .non, _ => ⟨.non, rfl, rfl⟩
  | _, _, .bl b, _ => ⟨.bl b, rfl, rfl⟩
  | _, _, .int i, _ => ⟨.int i, rfl, rfl⟩
  | _, _, .str x h, _ => ⟨.str x, (Bool.and_eq_true_iff.mp h).1, rfl⟩
  | _, _, .tup h l r, p => by
    obtain ⟨h1, h2, h3⟩ := Reps.dp r (by simpa [isPy] using p)
    refine ⟨.tup h h1, h2, ?_⟩
    show PyData.depthAll _ + 1 = deps _ + 1
    rw [h3]
  | _, _, .lst h l r, p => by
    obtain ⟨h1, h2, h3⟩ := Reps.dp r (by simpa [isPy] using p)
    refine ⟨.lst (SqL.of h) h1, h2, ?_⟩
    show PyData.depthAll _ + 1 = deps _ + 1
    rw [h3]
  | _, _, .ref a, p => by cases p
  | _, _, .ty a, p => by cases p
  | _, _, .fzl _ _ _, p => by cases p
  | _, _, .ins _ _ _, p => by cases p
  | _, _, .dct _ _, p => by cases p
theorem Reps.dp : ∀ {vs : List V} {ds : List D}, Reps K H vs ds → isPys ds = true → DpAll K H vs (pysOf ds) ∧ PyData.canLayAll0 (pysOf ds) = true ∧ PyData.depthAll (pysOf ds) = deps ds
  | _, _, .nil, _ => ⟨.nil, rfl, rfl⟩
  | _, _, .cons h t, p => by
    unfold isPys at p
    obtain ⟨p1, p2⟩ := Bool.and_eq_true_iff.mp p
    obtain ⟨h1, h2, h3⟩ := Rep.dp h p1
    obtain ⟨t1, t2, t3⟩ := Reps.dp t p2
    refine ⟨.cons h1 t1, ?_, ?_⟩
    · show (PyData.canLay0 _ && PyData.canLayAll0 _) = true
      rw [h2, t2]; rfl
    · show max (PyData.depth _) (PyData.depthAll _) = max (dep _) (deps _)
      rw [h3, t3]
end
end
/-- == of data -/
def eqvD (x y : D) : Bool := PyData.eqv (pyOf x) (pyOf y)
def eqvs (x y : List D) : Bool := PyData.eqvAll (pysOf x) (pysOf y)
def eqOp : Op2 := fun x y k => (isPy x = true ∧ isPy y = true ∧ dep x ≤ 64 ∧ dep y ≤ 64) ∧ k (.bl (eqvD x y))
def neOp : Op2 := fun x y k => (isPy x = true ∧ isPy y = true ∧ dep x ≤ 64 ∧ dep y ≤ 64) ∧ k (.bl (!eqvD x y))
section
variable {K : PySem.W.Frag}
theorem sr_eq : SemR K (rEqD K) eqOp := fun F Hs M σ H ρ x y dx dy Q Qd S rx ry k ⟨⟨p1, p2, p3, p4⟩, q⟩ => by
  obtain ⟨a1, a2, a3⟩ := (rx.mono S.hs).dp p1
  obtain ⟨b1, b2, b3⟩ := (ry.mono S.hs).dp p2
  refine ⟨_, _, a1, b1, ?_, ?_, k _ H Hs _ (Ext.refl _) S (.bl _) q⟩
  · exact Bool.and_eq_true_iff.mpr ⟨a2, decide_eq_true (by rw [a3]; exact p3)⟩
  · exact Bool.and_eq_true_iff.mpr ⟨b2, decide_eq_true (by rw [b3]; exact p4)⟩
theorem sr_ne : SemR K (rNeD K) neOp := fun F Hs M σ H ρ x y dx dy Q Qd S rx ry k ⟨⟨p1, p2, p3, p4⟩, q⟩ => by
  obtain ⟨a1, a2, a3⟩ := (rx.mono S.hs).dp p1
  obtain ⟨b1, b2, b3⟩ := (ry.mono S.hs).dp p2
  refine ⟨_, _, a1, b1, ?_, ?_, k _ H Hs _ (Ext.refl _) S (.bl _) q⟩
  · exact Bool.and_eq_true_iff.mpr ⟨a2, decide_eq_true (by rw [a3]; exact p3)⟩
  · exact Bool.and_eq_true_iff.mpr ⟨b2, decide_eq_true (by rw [b3]; exact p4)⟩
/-! ## int operators -/
def i2 (C : Int → Int → Prop) (g : Int → Int → D) : Op2 := fun x y k => match x, y with
  | .int i, .int j => C i j ∧ k (g i j)
  | _, _ => False
def i20 (g : Int → Int → D) : Op2 := fun x y k => match x, y with
  | .int i, .int j => k (g i j)
  | _, _ => False
theorem sr_i2 {C : Int → Int → Prop} {gv : Int → Int → V} {g : Int → Int → D} (hg : ∀ H i j, Rep K H (gv i j) (g i j)) : SemR K (rI C gv) (i2 C g) := fun F Hs M σ H ρ x y dx dy Q Qd S rx ry k q => by
  unfold i2 at q
  split at q
  · cases rx; cases ry
    exact ⟨_, _, rfl, rfl, q.1, k _ H Hs _ (Ext.refl _) S (hg Hs _ _) q.2⟩
  · exact q.elim
theorem sr_i20 {gv : Int → Int → V} {g : Int → Int → D} (hg : ∀ H i j, Rep K H (gv i j) (g i j)) : SemR K (rI0 gv) (i20 g) := fun F Hs M σ H ρ x y dx dy Q Qd S rx ry k q => by
  unfold i20 at q
  split at q
  · cases rx; cases ry
    exact ⟨_, _, rfl, rfl, k _ H Hs _ (Ext.refl _) S (hg Hs _ _) q⟩
  · exact q.elim
def subO : Op2 := i20 fun i j => .int (i - j)
def mulO : Op2 := i2 CMul fun i j => .int (i * j)
def fdivO : Op2 := i2 CDiv fun i j => .int (i / j)
def fdivWO : Op2 := i2 CDivW fun i j => .int (i / j)
def mulWO : Op2 := i2 CMulW fun i j => .int (i * j)
def modO : Op2 := i2 (fun _ j => 0 < j) fun i j => .int (i % j)
def powO : Op2 := i2 CPow fun i j => .int (i ^ j.toNat)
def ltO : Op2 := i20 fun i j => .bl (decide (i < j))
def leO : Op2 := i20 fun i j => .bl (decide (i ≤ j))
def gtO : Op2 := i20 fun i j => .bl (decide (j < i))
def geO : Op2 := i20 fun i j => .bl (decide (j ≤ i))
theorem sr_sub : SemR K (rI0 fun i j => .int (i - j)) subO := sr_i20 fun _ _ _ => .int _
theorem sr_mul : SemR K (rI CMul fun i j => .int (i * j)) mulO := sr_i2 fun _ _ _ => .int _
theorem sr_mulW : SemR K (rI CMulW fun i j => .int (i * j)) mulWO := sr_i2 fun _ _ _ => .int _
theorem sr_fdiv : SemR K (rI CDiv fun i j => .int (i / j)) fdivO := sr_i2 fun _ _ _ => .int _
theorem sr_fdivW : SemR K (rI CDivW fun i j => .int (i / j)) fdivWO := sr_i2 fun _ _ _ => .int _
theorem sr_mod : SemR K (rI (fun _ j => 0 < j) fun i j => .int (i % j)) modO := sr_i2 fun _ _ _ => .int _
theorem sr_pow : SemR K (rI CPow fun i j => .int (i ^ j.toNat)) powO := sr_i2 fun _ _ _ => .int _
theorem sr_lt : SemR K (rI0 fun i j => .bl (decide (i < j))) ltO := sr_i20 fun _ _ _ => .bl _
theorem sr_le : SemR K (rI0 fun i j => .bl (decide (i ≤ j))) leO := sr_i20 fun _ _ _ => .bl _
theorem sr_gt : SemR K (rI0 fun i j => .bl (decide (j < i))) gtO := sr_i20 fun _ _ _ => .bl _
theorem sr_ge : SemR K (rI0 fun i j => .bl (decide (j ≤ i))) geO := sr_i20 fun _ _ _ => .bl _
/-! ## + -/
def rStrAdd : R2 := fun x y H Q => ∃ i j, x = .str i ∧ y = .str j ∧ i.length + j.length ≤ sizeLine ∧ Q (.str (i ++ j)) H
def rAddAll (K : PySem.W.Frag) : R2 := fun x y H Q => rI0 (fun i j => .int (i + j)) x y H Q ∨ (rStrAdd x y H Q ∨ (rCat x y H Q ∨ rCatA K x y H Q))
theorem op_addAll {X : Cx} : OpR X (binaryOp .Add) (rAddAll X.K) := op_add.or (op_add_str.or (op_cat.or op_catA))
def addO : Op2 := fun x y k => match x, y with
  | .int i, .int j => k (.int (i + j))
  | .str s, .str t => s.length + t.length ≤ 16777216 ∧ k (.str (s ++ t))
  | .lst a, .lst b => a.length + b.length ≤ 16777216 ∧ k (.lst (a ++ b))
  | .tup a, .tup b => a.length + b.length ≤ 16777216 ∧ k (.tup (a ++ b))
  | _, _ => False
theorem sr_add : SemR K (rAddAll K) addO := fun F Hs M σ H ρ x y dx dy Q Qd S rx ry k q => by
  unfold addO at q
  split at q
  · cases rx; cases ry
    exact .inl ⟨_, _, rfl, rfl, k _ H Hs _ (Ext.refl _) S (.int _) q⟩
  · cases rx with
    | str s hs =>
      cases ry with
      | str t ht => exact .inr (.inl ⟨_, _, rfl, rfl, by rw [line_eq]; exact q.1, k _ H Hs _ (Ext.refl _) S (.str _ (okS_append hs ht q.1)) q.2⟩)
  · cases rx with
    | lst h1 l1 r1 =>
      cases ry with
      | lst h2 l2 r2 =>
        have e1 := r1.length
        have e2 := r2.length
        refine .inr (.inr (.inl ⟨_, _, _, _, rfl, rfl, S.hs _ _ h1, S.hs _ _ h2, by rw [line_eq]; omega, fun p np => ?_⟩))
        obtain ⟨S2, x2⟩ := S.new np (.lst _)
        exact k _ _ _ _ x2 S2 (.lst upd_same (by rw [List.length_append]; omega) ((r1.mono x2).append (r2.mono x2))) q.2
  · cases rx with
    | tup h1 l1 r1 =>
      cases ry with
      | tup h2 l2 r2 =>
        rename_i a vs b ws
        have e1 := r1.length
        have e2 := r2.length
        refine .inr (.inr (.inr ⟨_, _, _, _, rfl, rfl, sqT_ext S.hs h1, sqT_ext S.hs h2, by rw [line_eq]; omega, fun c1 => ?_, fun c1 c2 => ?_, fun c1 c2 p np => ?_⟩))
        · subst c1
          cases r1
          exact k _ H Hs _ (Ext.refl _) S (.tup h2 l2 (by simpa using r2)) q.2
        · subst c2
          cases r2
          exact k _ H Hs _ (Ext.refl _) S (.tup h1 l1 (by simpa using r1)) (by simpa using q.2)
        · obtain ⟨S2, x2⟩ := S.new np (.tup (vs ++ ws))
          exact k _ _ _ _ x2 S2 (.tup (SqT.of upd_same) (by rw [List.length_append]; omega) ((r1.mono x2).append (r2.mono x2))) q.2
  · exact q.elim
end
end DL

namespace DL
open PySem PySem.Spec PyProof.Rows L2 TL
section
variable {K : PySem.W.Frag}
/-! ## is None -/
def isNon : D → Bool
  | .non => true
  | _ => false
def rIsNone : R2 := fun x y H Q => y = .non ∧ Q (.bl (decide (x = .non))) H
def rNotNone : R2 := fun x y H Q => y = .non ∧ Q (.bl (!decide (x = .non))) H
theorem op_isNone {X : Cx} : OpR X (compareOp .Is) rIsNone := op_isN
theorem op_notNone {X : Cx} : OpR X (compareOp .IsNot) rNotNone := op_notN
def isNO : Op2 := fun x y k => match y with
  | .non => k (.bl (isNon x))
  | _ => False
def notNO : Op2 := fun x y k => match y with
  | .non => k (.bl (!isNon x))
  | _ => False
theorem rep_non {H : Hp} {v : V} {d : D} (r : Rep K H v d) : decide (v = .non) = isNon d := by
  cases r <;> rfl
theorem sr_isN : SemR K rIsNone isNO := fun F Hs M σ H ρ x y dx dy Q Qd S rx ry k q => by
  unfold isNO at q
  split at q
  · cases ry
    refine ⟨rfl, ?_⟩
    rw [rep_non rx]
    exact k _ H Hs _ (Ext.refl _) S (.bl _) q
  · exact q.elim
theorem sr_notN : SemR K rNotNone notNO := fun F Hs M σ H ρ x y dx dy Q Qd S rx ry k q => by
  unfold notNO at q
  split at q
  · cases ry
    refine ⟨rfl, ?_⟩
    rw [rep_non rx]
    exact k _ H Hs _ (Ext.refl _) S (.bl _) q
  · exact q.elim
/-! ## in -/
def flatD : D → Bool
  | .non | .bl _ | .int _ | .str _ => true
  | _ => false
theorem flat_rep {H : Hp} {v : V} {d : D} (r : Rep K H v d) (f : flatD d = true) : flatV v = true := by
  cases r <;> first | rfl | cases f
theorem flat_reps {H : Hp} : ∀ {vs : List V} {ds : List D}, Reps K H vs ds → ds.all flatD = true → vs.all flatV = true
  | _, _, .nil, _ => rfl
  | _, _, .cons h t, f => by
    rw [List.all_cons, Bool.and_eq_true] at f ⊢
    exact ⟨flat_rep h f.1, flat_reps t f.2⟩
theorem eqv_rep {H : Hp} {v w : V} {d e : D} (r : Rep K H v d) (r2 : Rep K H w e) (f : flatD d = true) (f2 : flatD e = true) : eqV v w = eqvD d e := by
  cases r <;> cases r2 <;> first | (exfalso; exact Bool.false_ne_true f) | (exfalso; exact Bool.false_ne_true f2) | rfl
def inD (x : D) (ds : List D) : Bool := ds.any fun y => eqvD y x
theorem in_reps {H : Hp} {v : V} {d : D} (r : Rep K H v d) (f : flatD d = true) : ∀ {vs : List V} {ds : List D}, Reps K H vs ds → ds.all flatD = true → inV v vs = inD d ds
  | _, _, .nil, _ => rfl
  | _, _, .cons h t, f2 => by
    rw [List.all_cons, Bool.and_eq_true] at f2
    have := in_reps r f t f2.2
    unfold inV inD at *
    rw [List.any_cons, List.any_cons, eqv_rep h r f2.1 f, this]
def inO (neg : Bool) : Op2 := fun x y k => match y with
  | .tup ds => (flatD x = true ∧ ds.all flatD = true) ∧ k (.bl (if neg then !inD x ds else inD x ds))
  | .lst ds => (flatD x = true ∧ ds.all flatD = true) ∧ k (.bl (if neg then !inD x ds else inD x ds))
  | _ => False
theorem sr_in (neg : Bool) : SemR K (rIn K neg) (inO neg) := fun F Hs M σ H ρ x y dx dy Q Qd S rx ry k q => by
  unfold inO at q
  split at q
  · obtain ⟨⟨f1, f2⟩, q⟩ := q
    cases ry with
    | tup h l r =>
      refine ⟨_, _, rfl, .inr (sqT_ext S.hs h), flat_rep rx f1, flat_reps r f2, ?_⟩
      rw [in_reps rx f1 r f2]
      exact k _ H Hs _ (Ext.refl _) S (.bl _) q
  · obtain ⟨⟨f1, f2⟩, q⟩ := q
    cases ry with
    | lst h l r =>
      refine ⟨_, _, rfl, .inl (SqL.of (S.hs _ _ h)), flat_rep rx f1, flat_reps r f2, ?_⟩
      rw [in_reps rx f1 r f2]
      exact k _ H Hs _ (Ext.refl _) S (.bl _) q
  · exact q.elim
/-- one sign in a text -/
def rInSign (neg : Bool) : R2 := fun x y H Q => ∃ (c : Nat) (z : Str), x = .str ⟨#[c]⟩ ∧ y = .str z ∧ Q (.bl (if neg then !decide (c ∈ z.cps.toList) else decide (c ∈ z.cps.toList))) H
theorem op_inSign {X : Cx} : OpR X (compareOp .In) (rInSign false) := op_in_sign
theorem op_ninSign {X : Cx} : OpR X (compareOp .NotIn) (rInSign true) := op_notIn_sign
def inSO (neg : Bool) : Op2 := fun x y k => match x, y with
  | .str s, .str z => match s.cps.toList with
    | [c] => k (.bl (if neg then !decide (c ∈ tl z) else decide (c ∈ tl z)))
    | _ => False
  | _, _ => False
theorem sr_inS (neg : Bool) : SemR K (rInSign neg) (inSO neg) := fun F Hs M σ H ρ x y dx dy Q Qd S rx ry k q => by
  unfold inSO at q
  split at q
  · split at q
    · rename_i s z _ c e
      cases rx
      cases ry
      refine ⟨c, z, ?_, rfl, k _ H Hs _ (Ext.refl _) S (.bl _) q⟩
      rw [show s = ⟨#[c]⟩ from ext_tl e]
    · exact q.elim
  · exact q.elim
/-! ## items -/
def ixO : Op2 := fun x y k => match x, y with
  | .lst ds, .int i => match atI ds i with
    | some d => k d
    | none => False
  | .tup ds, .int i => match atI ds i with
    | some d => k d
    | none => False
  | .fzl ds, .int i => match atI ds i with
    | some d => k d
    | none => False
  | .str z, .int i => match atI (tl z) i with
    | some c => k (.str ⟨#[c]⟩)
    | none => False
  | _, _ => False
theorem atI_reps {H : Hp} {vs : List V} {ds : List D} {i : Int} {d : D} (r : Reps K H vs ds) (h : atI ds i = some d) : ∃ v, atI vs i = some v ∧ Rep K H v d := by
  unfold atI at *
  rw [r.length]
  cases e : ixN ds.length i with
  | none => rw [e] at h; cases h
  | some j =>
    rw [e] at h
    exact r.get h
theorem sr_ix : SemR K (rIx K) ixO := fun F Hs M σ H ρ x y dx dy Q Qd S rx ry k q => by
  unfold ixO at q
  split at q
  · split at q
    · rename_i d e
      cases ry
      cases rx with
      | lst h l r =>
        obtain ⟨v, e1, e2⟩ := atI_reps r e
        exact .inl ⟨_, _, _, v, rfl, rfl, SqL.of (S.hs _ _ h), e1, k _ H Hs _ (Ext.refl _) S e2 q⟩
    · exact q.elim
  · split at q
    · rename_i d e
      cases ry
      cases rx with
      | tup h l r =>
        obtain ⟨v, e1, e2⟩ := atI_reps r e
        exact .inr (.inl ⟨_, _, _, v, rfl, rfl, sqT_ext S.hs h, e1, k _ H Hs _ (Ext.refl _) S e2 q⟩)
    · exact q.elim
  · split at q
    · rename_i d e
      cases ry
      cases rx with
      | fzl h l r =>
        obtain ⟨v, e1, e2⟩ := atI_reps r e
        exact .inl ⟨_, _, _, v, rfl, rfl, sqL_ext S.hs h, e1, k _ H Hs _ (Ext.refl _) S e2 q⟩
    · exact q.elim
  · split at q
    · rename_i z i _ c e
      cases ry
      cases rx with
      | str _ hz =>
        have hc : c ∈ tl z := by
          unfold atI at e
          cases e2 : ixN (tl z).length i with
          | none => rw [e2] at e; cases e
          | some j => rw [e2] at e; exact List.mem_of_getElem? e
        have hb : c < 0x110000 := by
          have := (okS_iff.mp hz).1
          unfold strOkL at this
          simpa using List.all_eq_true.mp this c hc
        exact .inr (.inr ⟨z, _, c, rfl, rfl, by rw [line_eq]; exact okS_len hz, e, k _ H Hs _ (Ext.refl _) S (.str _ (okS_one hb)) q⟩)
    · exact q.elim
  · exact q.elim
/-! ## slices -/
def cutD {α : Type} (xs : List α) (lo hi : Option Int) : List α := (xs.drop (HT.sIx xs.length 0 lo)).take (HT.sIx xs.length xs.length hi - HT.sIx xs.length 0 lo)
theorem cut_reps {H : Hp} {vs : List V} {ds : List D} (lo hi : Option Int) (r : Reps K H vs ds) : Reps K H (cutV vs lo hi) (cutD ds lo hi) := by
  unfold cutV cutD
  rw [r.length]
  exact (r.drop _).take _
theorem cutD_len {α : Type} (xs : List α) (lo hi : Option Int) : (cutD xs lo hi).length ≤ xs.length := by
  unfold cutD
  rw [List.length_take, List.length_drop]
  omega
def slLO : OpS := fun x lo hi k => match x with
  | .lst ds => k (.lst (cutD ds lo hi))
  | .fzl ds => k (.lst (cutD ds lo hi))
  | _ => False
def slTO : OpS := fun x lo hi k => match x with
  | .tup ds => k (.tup (cutD ds lo hi))
  | _ => False
theorem ss_l : SemSl K (rSlL K) slLO := fun F Hs M σ H ρ x dx lo hi Q Qd S rx k q => by
  unfold slLO at q
  split at q
  · cases rx with
    | lst h l r =>
      have e := r.length
      refine ⟨_, _, rfl, SqL.of (S.hs _ _ h), fun p np => ?_⟩
      obtain ⟨S2, x2⟩ := S.new np (.lst _)
      exact k _ _ _ _ x2 S2 (.lst upd_same (Nat.le_trans (cutV_length _ _ _) l) ((cut_reps lo hi r).mono x2)) q
  · cases rx with
    | fzl h l r =>
      refine ⟨_, _, rfl, sqL_ext S.hs h, fun p np => ?_⟩
      obtain ⟨S2, x2⟩ := S.new np (.lst _)
      exact k _ _ _ _ x2 S2 (.lst upd_same (Nat.le_trans (cutV_length _ _ _) l) ((cut_reps lo hi r).mono x2)) q
  · exact q.elim
theorem ss_t : SemSl K (rSlA K) slTO := fun F Hs M σ H ρ x dx lo hi Q Qd S rx k q => by
  unfold slTO at q
  split at q
  · cases rx with
    | tup h l r =>
      have e := r.length
      have hc := cut_reps lo hi r
      refine ⟨_, _, rfl, sqT_ext S.hs h, fun hw => ?_, fun hw p np => ?_⟩
      · refine k _ H Hs _ (Ext.refl _) S (.tup h l ?_) q
        unfold cutV at hc
        rw [hw.1, hw.2, List.drop_zero, Nat.sub_zero, List.take_length] at hc
        exact hc
      · obtain ⟨S2, x2⟩ := S.new np (.tup _)
        exact k _ _ _ _ x2 S2 (.tup (SqT.of upd_same) (Nat.le_trans (cutV_length _ _ _) l) (hc.mono x2)) q
  · exact q.elim
/-! ## len -/
def lenD : D → Option Nat
  | .lst ds => some ds.length
  | .fzl ds => some ds.length
  | .tup ds => some ds.length
  | .str s => some s.length
  | _ => none
def lenO : OpC := fun ds k => match ds with
  | [x] => match lenD x with
    | some n => k (.int n)
    | none => False
  | _ => False
def rLenAll (K : PySem.W.Frag) : List V → Hp → VK → Prop := fun xs H Q => (∃ p ys, xs = [.ref p] ∧ (SqL K H p ys ∨ SqT K H p ys) ∧ Q (.int ys.length) H) ∨ (∃ z, xs = [.str z] ∧ z.length ≤ sizeLine ∧ Q (.int z.length) H)
theorem call_lenAll {X : Cx} : CallR X (.builtin "len") (rLenAll X.K) := call_len_seq.or call_len_str
theorem sc_len : SemC K (rLenAll K) lenO := fun F Hs M σ H ρ xs ds Q Qd S r k q => by
  unfold lenO at q
  split at q
  · cases r with
    | cons h t =>
      cases t
      split at q
      · rename_i n e
        cases h with
        | lst h l r =>
          cases e
          refine .inl ⟨_, _, rfl, .inl (SqL.of (S.hs _ _ h)), ?_⟩
          rw [r.length]
          exact k _ H Hs _ (Ext.refl _) S (.int _) q
        | fzl h l r =>
          cases e
          refine .inl ⟨_, _, rfl, .inl (sqL_ext S.hs h), ?_⟩
          rw [r.length]
          exact k _ H Hs _ (Ext.refl _) S (.int _) q
        | tup h l r =>
          cases e
          refine .inl ⟨_, _, rfl, .inr (sqT_ext S.hs h), ?_⟩
          rw [r.length]
          exact k _ H Hs _ (Ext.refl _) S (.int _) q
        | str z hz =>
          cases e
          exact .inr ⟨_, rfl, by rw [line_eq]; exact okS_len hz, k _ H Hs _ (Ext.refl _) S (.int _) q⟩
        | _ => cases e
      · exact q.elim
  · exact q.elim
/-! ## isinstance with a built-in class -/
def tyName : D → Option String
  | .non => some "NoneType"
  | .bl _ => some "bool"
  | .int _ => some "int"
  | .str _ => some "str"
  | .tup _ => some "tuple"
  | .lst _ => some "list"
  | .dct _ => some "dict"
  | _ => none
theorem tyx_of {F Hs : Hp} {M : Mem} {σ : L2.St} {H : Hp} {ρ : List Sl} {x : V} {d : D} {n : String} (S : Sta K F Hs M σ H ρ) (r : Rep K Hs x d) (h : tyName d = some n) : TyX K H x (.type n) := by
  cases r with
  | non => cases h; exact .base .non
  | bl b => cases h; exact .base (.bl b)
  | int b => cases h; exact .base (.int b)
  | str b _ => cases h; exact .base (.str b)
  | tup h1 _ _ =>
    cases h
    rcases sqT_ext S.hs h1 with (h2 | ⟨o, h2⟩) | ⟨o, its, m, h2, h3, _⟩
    · exact .base (.tup h2)
    · exact .fTuple h2
    · exact .kTuple h2 h3
  | lst h1 _ _ => cases h; exact .base (.lst (S.hs _ _ h1))
  | dct h1 _ => cases h; exact .base (.dK (S.hs _ _ h1))
  | _ => cases h
def isiD (x : D) (n : String) : Option Bool := match tyName x with
  | some a => kitB a n
  | none => none
def isiO : OpC := fun ds k => match ds with
  | [x, .ty n] => match isiD x n with
    | some b => k (.bl b)
    | none => False
  | _ => False
theorem sc_isi : SemC K (rIsi K) isiO := fun F Hs M σ H ρ xs ds Q Qd S r k q => by
  unfold isiO at q
  split at q
  · rename_i x n
    cases r with
    | cons h t =>
      cases t with
      | cons h2 t =>
        cases t
        cases h2
        split at q
        · rename_i b e
          unfold isiD at e
          cases e2 : tyName x with
          | none => rw [e2] at e; cases e
          | some a =>
            rw [e2] at e
            exact ⟨_, _, _, _, b, rfl, .ty n, tyx_of S h e2, kit_ty e, k _ H Hs _ (Ext.refl _) S (.bl _) q⟩
        · exact q.elim
  · exact q.elim
/-! ## int, str, bool, abs, min, max -/
def intO : OpC := fun ds k => match ds with
  | [.int i] => k (.int i)
  | [.bl b] => k (.int (if b then 1 else 0))
  | _ => False
def rInt1 : List V → Hp → VK → Prop := fun xs H Q => (∃ i, xs = [.int i] ∧ Q (.int i) H) ∨ ∃ k, xs = [.bl k] ∧ Q (.int (if k then 1 else 0)) H
theorem call_intI {X : Cx} : CallR X (.type "int") rInt1 := call_int1
theorem sc_int : SemC K rInt1 intO := fun F Hs M σ H ρ xs ds Q Qd S r k q => by
  unfold intO at q
  split at q
  · cases r with
    | cons h t => cases t; cases h; exact .inl ⟨_, rfl, k _ H Hs _ (Ext.refl _) S (.int _) q⟩
  · cases r with
    | cons h t => cases t; cases h; exact .inr ⟨_, rfl, k _ H Hs _ (Ext.refl _) S (.int _) q⟩
  · exact q.elim
def absO : OpC := fun ds k => match ds with
  | [.int i] => k (.int (if i < 0 then -i else i))
  | _ => False
def rAbs : List V → Hp → VK → Prop := fun xs H Q => ∃ i, xs = [.int i] ∧ Q (.int (if i < 0 then -i else i)) H
theorem call_absI {X : Cx} : CallR X (.builtin "abs") rAbs := call_abs
theorem sc_abs : SemC K rAbs absO := fun F Hs M σ H ρ xs ds Q Qd S r k q => by
  unfold absO at q
  split at q
  · cases r with
    | cons h t => cases t; cases h; exact ⟨_, rfl, k _ H Hs _ (Ext.refl _) S (.int _) q⟩
  · exact q.elim
def maxO : OpC := fun ds k => match ds with
  | [.int i, .int j] => k (.int (max i j))
  | _ => False
def minO : OpC := fun ds k => match ds with
  | [.int i, .int j] => k (.int (min i j))
  | _ => False
def rMax2 : List V → Hp → VK → Prop := fun xs H Q => ∃ i j, xs = [.int i, .int j] ∧ Q (.int (if j > i then j else i)) H
def rMin2 : List V → Hp → VK → Prop := fun xs H Q => ∃ i j, xs = [.int i, .int j] ∧ Q (.int (if j < i then j else i)) H
theorem call_maxI {X : Cx} (hc : X.calm = true) : CallR X (.builtin "max") rMax2 := call_max2 hc
theorem call_minI {X : Cx} (hc : X.calm = true) : CallR X (.builtin "min") rMin2 := call_min2 hc
theorem sc_max : SemC K rMax2 maxO := fun F Hs M σ H ρ xs ds Q Qd S r k q => by
  unfold maxO at q
  split at q
  · cases r with
    | cons h t =>
      cases t with
      | cons h2 t =>
        cases t; cases h; cases h2
        refine ⟨_, _, rfl, ?_⟩
        rw [show ∀ i j : Int, (if j > i then j else i) = max i j from fun i j => by split <;> omega]
        exact k _ H Hs _ (Ext.refl _) S (.int _) q
  · exact q.elim
theorem sc_min : SemC K rMin2 minO := fun F Hs M σ H ρ xs ds Q Qd S r k q => by
  unfold minO at q
  split at q
  · cases r with
    | cons h t =>
      cases t with
      | cons h2 t =>
        cases t; cases h; cases h2
        refine ⟨_, _, rfl, ?_⟩
        rw [show ∀ i j : Int, (if j < i then j else i) = min i j from fun i j => by split <;> omega]
        exact k _ H Hs _ (Ext.refl _) S (.int _) q
  · exact q.elim
/-! ## str of an int -/
theorem strOkL_digits : ∀ (l : List Nat), NumText.AllDigits l → strOkL l = true := fun l h => by
  unfold strOkL
  rw [List.all_eq_true]
  intro c hc
  have := h c hc
  simp
  omega
def numS (n : Nat) : Str := toString ((n : Nat) : Int)
theorem tl_numS (n : Nat) : tl (numS n) = numL n := tl_num n
theorem okS_num {n : Nat} (h : n < 10 ^ 600) : okS (numS n) = true := by
  rw [okS_iff]
  refine ⟨by rw [tl_numS]; exact strOkL_digits _ (numL_digits n), ?_⟩
  rw [len_tl, tl_numS]
  have := numL_len (k := 600) (by decide) h
  omega
def strO : OpC := fun ds k => match ds with
  | [.int i] => (0 ≤ i ∧ i < 1000000000000) ∧ k (.str (numS i.toNat))
  | _ => False
def rStrI : List V → Hp → VK → Prop := fun xs H Q => ∃ i, xs = [.int i] ∧ i.natAbs.log2 < 1920 ∧ Q (.str (toString i)) H
theorem call_strI {X : Cx} : CallR X (.type "str") rStrI := call_str_int
theorem log2_small {i : Int} (h0 : 0 ≤ i) (h : i < 1000000000000) : i.natAbs.log2 < 1920 := by
  have : i.natAbs < 2 ^ 1920 := Nat.lt_of_lt_of_le (show i.natAbs < 2 ^ 40 by omega) (Nat.pow_le_pow_right (by decide) (by decide))
  by_cases z : i.natAbs = 0
  · rw [z]; decide
  · exact (Nat.log2_lt z).mpr this
theorem sc_str : SemC K rStrI strO := fun F Hs M σ H ρ xs ds Q Qd S r k q => by
  unfold strO at q
  split at q
  · rename_i i
    obtain ⟨⟨h0, h1⟩, q⟩ := q
    cases r with
    | cons h t =>
      cases t; cases h
      refine ⟨_, rfl, log2_small h0 h1, ?_⟩
      have e : (toString i : Str) = numS i.toNat := by
        unfold numS
        rw [Int.toNat_of_nonneg h0]
      rw [e]
      exact k _ H Hs _ (Ext.refl _) S (.str _ (okS_num (Nat.lt_of_lt_of_le (show i.toNat < 10 ^ 12 by omega) (Nat.pow_le_pow_right (by decide) (by decide))))) q
  · exact q.elim
/-! ## tuple, list -/
def tupO : OpC := fun ds k => match ds with
  | [.lst xs] => k (.tup xs)
  | [.tup xs] => k (.tup xs)
  | _ => False
def rTupOf (K : PySem.W.Frag) : List V → Hp → VK → Prop := fun xs H Q => ∃ p ys, xs = [.ref p] ∧ ((SqL K H p ys ∧ ∀ l, H l = none → Q (.ref l) (upd H l (.tup ys))) ∨ (SqT K H p ys ∧ Q (.ref p) H))
theorem call_tupOf {X : Cx} : CallR X (.type "tuple") (rTupOf X.K) := call_tuple_of
theorem sc_tup : SemC K (rTupOf K) tupO := fun F Hs M σ H ρ xs ds Q Qd S r k q => by
  unfold tupO at q
  split at q
  · cases r with
    | cons h t =>
      cases t
      cases h with
      | lst h l r =>
        refine ⟨_, _, rfl, .inl ⟨SqL.of (S.hs _ _ h), fun p np => ?_⟩⟩
        obtain ⟨S2, x2⟩ := S.new np (.tup _)
        exact k _ _ _ _ x2 S2 (.tup (SqT.of upd_same) l (r.mono x2)) q
  · cases r with
    | cons h t =>
      cases t
      cases h with
      | tup h l r => exact ⟨_, _, rfl, .inr ⟨sqT_ext S.hs h, k _ H Hs _ (Ext.refl _) S (.tup h l r) q⟩⟩
  · exact q.elim
def lstO : OpC := fun ds k => match ds with
  | [.lst xs] => k (.lst xs)
  | [.tup xs] => k (.lst xs)
  | _ => False
def rLstOf (K : PySem.W.Frag) : List V → Hp → VK → Prop := fun xs H Q => ∃ p ys, xs = [.ref p] ∧ (SqL K H p ys ∨ SqT K H p ys) ∧ ∀ l, H l = none → Q (.ref l) (upd H l (.lst ys))
theorem call_lstOf {X : Cx} : CallR X (.type "list") (rLstOf X.K) := call_list_of
theorem sc_lst : SemC K (rLstOf K) lstO := fun F Hs M σ H ρ xs ds Q Qd S r k q => by
  unfold lstO at q
  split at q
  · cases r with
    | cons h t =>
      cases t
      cases h with
      | lst h l r =>
        refine ⟨_, _, rfl, .inl (SqL.of (S.hs _ _ h)), fun p np => ?_⟩
        obtain ⟨S2, x2⟩ := S.new np (.lst _)
        exact k _ _ _ _ x2 S2 (.lst upd_same l (r.mono x2)) q
  · cases r with
    | cons h t =>
      cases t
      cases h with
      | tup h l r =>
        refine ⟨_, _, rfl, .inr (sqT_ext S.hs h), fun p np => ?_⟩
        obtain ⟨S2, x2⟩ := S.new np (.lst _)
        exact k _ _ _ _ x2 S2 (.lst upd_same l (r.mono x2)) q
  · exact q.elim
/-! ## all, any, sum -/
def blsOf : List D → Option (List Bool)
  | [] => some []
  | .bl b :: r => (blsOf r).map (b :: ·)
  | _ => none
theorem bls_rep {H : Hp} : ∀ {vs : List V} {ds : List D} {bs : List Bool}, Reps K H vs ds → blsOf ds = some bs → vs = bs.map V.bl
  | _, _, _, .nil, e => by cases e; rfl
  | _, _, bs, .cons (d := d) h t, e => by
    cases h with
    | bl b =>
      rename_i vs ds
      unfold blsOf at e
      cases e2 : blsOf ds with
      | none => rw [e2] at e; cases e
      | some cs =>
        rw [e2] at e
        cases e
        rw [bls_rep t e2]
        rfl
    | _ => cases e
def allO : OpC := fun ds k => match ds with
  | [.lst xs] => match blsOf xs with
    | some bs => k (.bl (bs.all id))
    | none => False
  | _ => False
def anyO : OpC := fun ds k => match ds with
  | [.lst xs] => match blsOf xs with
    | some bs => k (.bl (bs.any id))
    | none => False
  | _ => False
theorem sc_all : SemC K (rAll K) allO := fun F Hs M σ H ρ xs ds Q Qd S r k q => by
  unfold allO at q
  split at q
  · split at q
    · rename_i bs e
      cases r with
      | cons h t =>
        cases t
        cases h with
        | lst h l r =>
          have e2 := bls_rep r e
          subst e2
          exact ⟨_, bs, rfl, SqL.of (S.hs _ _ h), k _ H Hs _ (Ext.refl _) S (.bl _) q⟩
    · exact q.elim
  · exact q.elim
theorem sc_any : SemC K (rAny K) anyO := fun F Hs M σ H ρ xs ds Q Qd S r k q => by
  unfold anyO at q
  split at q
  · split at q
    · rename_i bs e
      cases r with
      | cons h t =>
        cases t
        cases h with
        | lst h l r =>
          have e2 := bls_rep r e
          subst e2
          exact ⟨_, bs, rfl, SqL.of (S.hs _ _ h), k _ H Hs _ (Ext.refl _) S (.bl _) q⟩
    · exact q.elim
  · exact q.elim
end
end DL

namespace DL
open PySem PySem.Spec PyProof.Rows L2 TL
/-! ## text * int, list * int -/
def mkS (l : List Nat) : Str := ⟨l.toArray⟩
theorem tl_mkS (l : List Nat) : tl (mkS l) = l := rfl
theorem mkS_tl (x : Str) : mkS (tl x) = x := ext_tl rfl
def repS (z : Str) (n : Nat) : Str := mkS (List.replicate n (tl z)).flatten
theorem foldl_app : ∀ (l : List (Array Nat)) (a : Array Nat), (l.foldl (· ++ ·) a).toList = a.toList ++ (l.map Array.toList).flatten
  | [], a => by simp
  | x :: r, a => by rw [List.foldl_cons, foldl_app r (a ++ x)]; simp
theorem len_rep (l : List Nat) : ∀ n : Nat, (List.replicate n l).flatten.length = n * l.length
  | 0 => by simp
  | n + 1 => by rw [List.replicate_succ, List.flatten_cons, List.length_append, len_rep l n, Nat.succ_mul]; omega
theorem mul_repS (z : Str) (n : Int) (h : 0 ≤ n) : Txt.mul z n = repS z n.toNat := by
  unfold Txt.mul repS
  apply ext_tl
  rw [tl_mkS]
  by_cases h1 : n < 1
  · have : n = 0 := by omega
    subst this
    rfl
  · rw [if_neg h1]
    by_cases h2 : (n == 1 || z.length == 0) = true
    · rw [if_pos h2]
      rw [Bool.or_eq_true, beq_iff_eq, beq_iff_eq] at h2
      rcases h2 with h2 | h2
      · subst h2
        show tl z = (List.replicate 1 (tl z)).flatten
        simp
      · have e : tl z = [] := by
          have := len_tl z
          rw [h2] at this
          exact List.length_eq_zero_iff.mp this.symm
        rw [e]
        have : ∀ k : Nat, (List.replicate k ([] : List Nat)).flatten = [] := fun k => by
          induction k with
          | zero => rfl
          | succ k ih => rw [List.replicate_succ, List.flatten_cons, ih]; rfl
        rw [this]
    · rw [if_neg h2]
      show (List.foldl (· ++ ·) #[] (List.replicate n.toNat z.cps)).toList = _
      rw [foldl_app]
      simp [tl]
def rMulS : R2 := fun x y H Q => ∃ (z : Str) (n : Int), x = .str z ∧ y = .int n ∧ 0 ≤ n ∧ n < 2 ^ 62 ∧ z.length * n.toNat ≤ 16777216 ∧ Q (.str (repS z n.toNat)) H
theorem op_mulS {X : Cx} : OpR X (binaryOp .Mult) rMulS := by
  intro pins s σ H x y v u Q I rx ry h
  obtain ⟨z, n, rfl, rfl, h0, h1, hz, q⟩ := h
  obtain ⟨t, rfl⟩ := rx
  obtain ⟨t', rfl⟩ := ry
  refine SB.mul ⟨?_, fun h2 h3 => ?_, fun h2 h3 => ?_⟩ fun t2 k => ?_
  · have a : ¬ n < -(2 ^ 63 : Int) := by omega
    have b : ¬ n ≥ 2 ^ 63 := by omega
    rw [decide_eq_false a, decide_eq_false b]; rfl
  · have hn : 0 < n := by omega
    intro c
    have c1 : (2 ^ 63 - 1 : Int) / n < (z.length : Int) := c
    have c2 : (2 ^ 63 - 1 : Int) < (z.length : Int) * n := (Int.ediv_lt_iff_lt_mul hn).mp c1
    have c3 : ((z.length * n.toNat : Nat) : Int) = (z.length : Int) * n := by
      rw [Int.natCast_mul, Int.toNat_of_nonneg h0]
    rw [← c3] at c2
    omega
  · unfold Builtin.Str.tooLong
    have := line_eq
    simp
    omega
  · rw [mul_repS z n h0]
    exact ⟨.str (repS z n.toNat), H, I.tok _, ⟨_, rfl⟩, q⟩
def rMulAll : R2 := fun x y H Q => rI CMul (fun i j => .int (i * j)) x y H Q ∨ (rMulS x y H Q ∨ rRep x y H Q)
theorem op_mulAll {X : Cx} : OpR X (binaryOp .Mult) rMulAll := op_mul.or (op_mulS.or op_rep)
def mulAllO : Op2 := fun x y k => match x, y with
  | .int i, .int j => CMul i j ∧ k (.int (i * j))
  | .str z, .int n => (0 ≤ n ∧ n < 2 ^ 62 ∧ z.length * n.toNat ≤ 16777216) ∧ k (.str (repS z n.toNat))
  | .lst ds, .int n => (0 ≤ n ∧ n < 2 ^ 62 ∧ ds.length * n.toNat ≤ 16777216) ∧ k (.lst (List.replicate n.toNat ds).flatten)
  | _, _ => False
section
variable {K : PySem.W.Frag}
theorem okS_rep {z : Str} {n : Nat} (h : okS z = true) (hl : z.length * n ≤ 16777216) : okS (repS z n) = true := by
  refine okS_sub h (fun c hc => ?_) ?_
  · rw [repS, tl_mkS, List.mem_flatten] at hc
    obtain ⟨l, h1, h2⟩ := hc
    rw [List.eq_of_mem_replicate h1] at h2
    exact h2
  · rw [len_tl, repS, tl_mkS, len_rep, ← len_tl, Nat.mul_comm]
    exact hl
theorem Reps.rep {H : Hp} {vs : List V} {ds : List D} (r : Reps K H vs ds) : ∀ n : Nat, Reps K H (List.replicate n vs).flatten (List.replicate n ds).flatten
  | 0 => .nil
  | n + 1 => by
    rw [List.replicate_succ, List.replicate_succ, List.flatten_cons, List.flatten_cons]
    exact r.append (Reps.rep r n)
theorem sr_mulAll : SemR K rMulAll mulAllO := fun F Hs M σ H ρ x y dx dy Q Qd S rx ry k q => by
  unfold mulAllO at q
  split at q
  · cases rx; cases ry
    exact .inl ⟨_, _, rfl, rfl, q.1, k _ H Hs _ (Ext.refl _) S (.int _) q.2⟩
  · cases ry
    cases rx with
    | str _ hz => exact .inr (.inl ⟨_, _, rfl, rfl, q.1.1, q.1.2.1, q.1.2.2, k _ H Hs _ (Ext.refl _) S (.str _ (okS_rep hz q.1.2.2)) q.2⟩)
  · rename_i ds n
    cases ry
    cases rx with
    | lst h l r =>
      have e := r.length
      obtain ⟨⟨q1, q2, q3⟩, q⟩ := q
      refine .inr (.inr ⟨_, _, _, rfl, rfl, S.hs _ _ h, by omega, by omega, by rw [line_eq, e]; exact q3, fun p np => ?_⟩)
      obtain ⟨S2, x2⟩ := S.new np (.lst (List.replicate n.toNat _).flatten)
      refine k _ _ _ _ x2 S2 (.lst upd_same ?_ ((r.rep _).mono x2)) q
      rw [(r.rep n.toNat).length]
      have : (List.replicate n.toNat ds).flatten.length = n.toNat * ds.length := by simp
      rw [this, Nat.mul_comm]
      exact q3
  · exact q.elim
/-! ## slices of anything -/
theorem tl_cutS (z : Str) (lo hi : Option Int) : tl (cutS z lo hi) = cutD (tl z) lo hi := by
  unfold cutD
  rw [← len_tl]
  rfl
def cutZ (z : Str) (lo hi : Option Int) : Str := mkS (cutD (tl z) lo hi)
theorem cutS_eq (z : Str) (lo hi : Option Int) : cutS z lo hi = cutZ z lo hi := ext_tl (tl_cutS z lo hi)
theorem cutD_mem {α : Type} {xs : List α} {lo hi : Option Int} {c : α} (h : c ∈ cutD xs lo hi) : c ∈ xs := List.mem_of_mem_drop (List.mem_of_mem_take h)
theorem okS_cut {z : Str} (h : okS z = true) (lo hi : Option Int) : okS (cutZ z lo hi) = true :=
  okS_sub h (fun c hc => cutD_mem hc) (by
    have h1 := cutD_len (tl z) lo hi
    have h2 := okS_len h
    rw [len_tl] at h2 ⊢
    show (cutD (tl z) lo hi).length ≤ _
    omega)
def rSlAll (K : PySem.W.Frag) : V → Option Int → Option Int → Hp → VK → Prop := fun x lo hi H Q => rSlL K x lo hi H Q ∨ (rSlA K x lo hi H Q ∨ rSlS x lo hi H Q)
theorem sl_all {X : Cx} : SlR X (rSlAll X.K) := sl_list.or (sl_tupA.or sl_str)
def slO : OpS := fun x lo hi k => match x with
  | .lst ds => k (.lst (cutD ds lo hi))
  | .fzl ds => k (.lst (cutD ds lo hi))
  | .tup ds => k (.tup (cutD ds lo hi))
  | .str z => k (.str (cutZ z lo hi))
  | _ => False
theorem ss_all : SemSl K (rSlAll K) slO := fun F Hs M σ H ρ x dx lo hi Q Qd S rx k q => by
  unfold slO at q
  split at q
  · exact .inl (ss_l F Hs M σ H ρ x _ lo hi Q Qd S rx k q)
  · exact .inl (ss_l F Hs M σ H ρ x _ lo hi Q Qd S rx k q)
  · exact .inr (.inl (ss_t F Hs M σ H ρ x _ lo hi Q Qd S rx k q))
  · cases rx with
    | str _ hz =>
      refine .inr (.inr ⟨_, rfl, by rw [line_eq]; exact okS_len hz, ?_⟩)
      rw [cutS_eq]
      exact k _ H Hs _ (Ext.refl _) S (.str _ (okS_cut hz lo hi)) q
  · exact q.elim
/-! ## methods of texts, list.index -/
def strsOf : List D → Option (List Str)
  | [] => some []
  | .str b :: r => (strsOf r).map (b :: ·)
  | _ => none
theorem strs_rep {H : Hp} : ∀ {vs : List V} {ds : List D} {bs : List Str}, Reps K H vs ds → strsOf ds = some bs → vs = bs.map V.str ∧ ∀ b ∈ bs, okS b = true
  | _, _, _, .nil, e => by cases e; exact ⟨rfl, fun b hb => by cases hb⟩
  | _, _, bs, .cons (d := d) h t, e => by
    cases h with
    | str b hb =>
      unfold strsOf at e
      cases e2 : strsOf _ with
      | none => rw [e2] at e; cases e
      | some cs =>
        rw [e2] at e
        cases e
        obtain ⟨h1, h2⟩ := strs_rep t e2
        refine ⟨by rw [h1]; rfl, fun c hc => ?_⟩
        rcases List.mem_cons.mp hc with rfl | hc
        · exact hb
        · exact h2 c hc
    | _ => cases e
theorem reps_strs {H : Hp} : ∀ {bs : List Str}, (∀ b ∈ bs, okS b = true) → Reps K H (bs.map V.str) (bs.map D.str)
  | [], _ => .nil
  | b :: r, h => .cons (.str b (h b List.mem_cons_self)) (reps_strs fun c hc => h c (List.mem_cons_of_mem _ hc))
def joinZ (sep : Str) (ys : List Str) : Str := mkS (joinL (tl sep) (ys.map tl))
theorem join_joinZ (sep : Str) (ys : List Str) : Txt.join sep ys = joinZ sep ys := by
  rw [join_eq]
  exact ext_tl (tl_join sep ys)
theorem joinL_mem (S : List Nat) : ∀ (ps : List (List Nat)) (c : Nat), c ∈ joinL S ps → c ∈ S ∨ ∃ p ∈ ps, c ∈ p
  | [], c, h => by simp [joinL] at h
  | [p], c, h => .inr ⟨p, by simp, by simpa [joinL] using h⟩
  | p :: q :: r, c, h => by
    rw [joinL] at h
    rcases List.mem_append.mp h with h | h
    · exact .inr ⟨p, by simp, h⟩
    · rcases List.mem_append.mp h with h | h
      · exact .inl h
      · rcases joinL_mem S (q :: r) c h with h | ⟨x, h1, h2⟩
        · exact .inl h
        · exact .inr ⟨x, List.mem_cons_of_mem _ h1, h2⟩
theorem joinL_len (S : List Nat) : ∀ (ps : List (List Nat)), (joinL S ps).length ≤ (ps.map List.length).sum + ps.length * S.length
  | [] => by simp [joinL]
  | [p] => by simp [joinL]
  | p :: q :: r => by
    have ih := joinL_len S (q :: r)
    rw [joinL]
    simp only [List.length_append, List.map_cons, List.sum_cons, List.length_cons] at ih ⊢
    rw [Nat.succ_mul]
    omega
theorem okS_join {sep : Str} {ys : List Str} (hs : okS sep = true) (hy : ∀ b ∈ ys, okS b = true) (hl : (ys.map (·.length)).sum + ys.length * sep.length ≤ 16777216) : okS (joinZ sep ys) = true := by
  rw [okS_iff]
  constructor
  · unfold strOkL
    rw [List.all_eq_true]
    intro c hc
    rcases joinL_mem _ _ c hc with h | ⟨p, h1, h2⟩
    · exact List.all_eq_true.mp (okS_iff.mp hs).1 c h
    · obtain ⟨b, hb, rfl⟩ := List.mem_map.mp h1
      exact List.all_eq_true.mp (okS_iff.mp (hy b hb)).1 c h2
  · have := joinL_len (tl sep) (ys.map tl)
    rw [len_tl, joinZ, tl_mkS]
    have e : ((ys.map tl).map List.length) = ys.map (·.length) := by
      rw [List.map_map]
      exact List.map_congr_left fun b _ => (len_tl b).symm
    rw [e, List.length_map, ← len_tl] at this
    omega
def joinO : OpM := fun x ds k => match x, ds with
  | .str sep, [.lst xs] => match strsOf xs with
    | some ys => (ys.map (·.length)).sum + ys.length * sep.length ≤ 16777216 ∧ k (.str (joinZ sep ys))
    | none => False
  | .str sep, [.tup xs] => match strsOf xs with
    | some ys => (ys.map (·.length)).sum + ys.length * sep.length ≤ 16777216 ∧ k (.str (joinZ sep ys))
    | none => False
  | _, _ => False
def rJoin (K : PySem.W.Frag) : V → List V → Hp → VK → Prop := fun x xs H Q => ∃ a p, ∃ ys : List Str, x = .str a ∧ xs = [.ref p] ∧ (SqL K H p (ys.map V.str) ∨ SqT K H p (ys.map V.str)) ∧
    (ys.map (·.length)).sum + ys.length * a.length ≤ 16777216 ∧ Q (.str (Txt.join a ys)) H
theorem mt_joinI {X : Cx} : MtR X "str.join" (rJoin X.K) := mt_join
theorem sm_join : SemM K (rJoin K) joinO := fun F Hs M σ H ρ x dx xs ds Q Qd S rx r k q => by
  unfold joinO at q
  split at q
  · split at q
    · rename_i ys e
      cases rx with
      | str _ hz =>
        cases r with
        | cons h t =>
          cases t
          cases h with
          | lst h l r =>
            obtain ⟨e1, e2⟩ := strs_rep r e
            subst e1
            refine ⟨_, _, ys, rfl, rfl, .inl (SqL.of (S.hs _ _ h)), q.1, ?_⟩
            rw [join_joinZ]
            exact k _ H Hs _ (Ext.refl _) S (.str _ (okS_join hz e2 q.1)) q.2
    · exact q.elim
  · split at q
    · rename_i ys e
      cases rx with
      | str _ hz =>
        cases r with
        | cons h t =>
          cases t
          cases h with
          | tup h l r =>
            obtain ⟨e1, e2⟩ := strs_rep r e
            subst e1
            refine ⟨_, _, ys, rfl, rfl, .inr (sqT_ext S.hs h), q.1, ?_⟩
            rw [join_joinZ]
            exact k _ H Hs _ (Ext.refl _) S (.str _ (okS_join hz e2 q.1)) q.2
    · exact q.elim
  · exact q.elim
/-- split at one sign below 256 -/
def splitZ (c : Nat) (l : List Nat) : List (List Nat) := spl [c] 0 [] l
theorem spl_mem (S : List Nat) : ∀ (l : List Nat) (k : Nat) (acc : List Nat), ∀ q ∈ spl S k acc l, (∀ c ∈ q, c ∈ acc ∨ c ∈ l) ∧ q.length ≤ acc.length + l.length
  | [], k, acc, q, h => by
    rw [spl_nil] at h
    simp at h
    subst h
    exact ⟨fun c hc => .inl hc, by simp⟩
  | x :: l, k, acc, q, h => by
    cases k with
    | succ k =>
      rw [spl] at h
      obtain ⟨h1, h2⟩ := spl_mem S l k acc q h
      exact ⟨fun c hc => (h1 c hc).imp id (List.mem_cons_of_mem _), by simp; omega⟩
    | zero =>
      by_cases hp : pre S (x :: l) = true
      · rw [spl_hit hp] at h
        rcases List.mem_cons.mp h with h | h
        · subst h
          exact ⟨fun c hc => .inl hc, by simp⟩
        · obtain ⟨h1, h2⟩ := spl_mem S l _ [] q h
          refine ⟨fun c hc => ?_, by simp at h2 ⊢; omega⟩
          rcases h1 c hc with z | z
          · cases z
          · exact .inr (List.mem_cons_of_mem _ z)
      · have hp' : pre S (x :: l) = false := by simpa using hp
        rw [spl_miss hp'] at h
        obtain ⟨h1, h2⟩ := spl_mem S l 0 (acc ++ [x]) q h
        refine ⟨fun c hc => ?_, by simp at h2 ⊢; omega⟩
        rcases h1 c hc with z | z
        · rcases List.mem_append.mp z with z | z
          · exact .inl z
          · simp at z; subst z; exact .inr List.mem_cons_self
        · exact .inr (List.mem_cons_of_mem _ z)
theorem spl_len (S : List Nat) : ∀ (l : List Nat) (k : Nat) (acc : List Nat), (spl S k acc l).length ≤ l.length + 1
  | [], k, acc => by rw [spl_nil]; simp
  | x :: l, k, acc => by
    cases k with
    | succ k => rw [spl]; have := spl_len S l k acc; simp; omega
    | zero =>
      by_cases hp : pre S (x :: l) = true
      · rw [spl_hit hp]; have := spl_len S l (S.length - 1) []; simp; omega
      · have hp' : pre S (x :: l) = false := by simpa using hp
        rw [spl_miss hp']; have := spl_len S l 0 (acc ++ [x]); simp; omega
def splitO : OpM := fun x ds k => match x, ds with
  | .str a, [.str b] => match tl b with
    | [c] => (c < 256 ∧ a.length ≤ 16777214) ∧ k (.lst ((splitZ c (tl a)).map fun l => .str (mkS l)))
    | _ => False
  | _, _ => False
def rSplit : V → List V → Hp → VK → Prop := fun x xs H Q => ∃ a b, x = .str a ∧ xs = [.str b] ∧ (b.length == 0) = false ∧ a.length + 2 ≤ sizeLine ∧ rNewStrs (Txt.split a b) H Q
theorem mt_splitI {X : Cx} : MtR X "str.split" rSplit := mt_split
theorem split_eq {a b : Str} {c : Nat} (e : tl b = [c]) (hc : c < 256) : Txt.split a b = (splitZ c (tl a)).map mkS := by
  have h1 := split_spl a b (by rw [e]; simp) (kind_ok (by
    rw [Array.all_eq_true']
    intro d hd
    have : d ∈ tl b := by simpa [tl] using hd
    rw [e] at this
    simp at this
    subst this
    simpa using hc))
  rw [e] at h1
  unfold splitZ
  rw [← h1, List.map_map]
  conv => lhs; rw [← List.map_id (Txt.split a b)]
  exact List.map_congr_left fun x _ => (mkS_tl x).symm
theorem sm_split : SemM K rSplit splitO := fun F Hs M σ H ρ x dx xs ds Q Qd S rx r k q => by
  unfold splitO at q
  split at q
  · split at q
    · rename_i a b _ c e
      obtain ⟨⟨q1, q2⟩, q⟩ := q
      cases rx with
      | str _ ha =>
        cases r with
        | cons h t =>
          cases t
          cases h with
          | str _ hb =>
            refine ⟨a, b, rfl, rfl, ?_, by rw [line_eq]; omega, fun p np => ?_⟩
            · rw [len_tl, e]; rfl
            · rw [split_eq e q1]
              obtain ⟨S2, x2⟩ := S.new np (.lst (((splitZ c (tl a)).map mkS).map V.str))
              have hl := spl_len [c] (tl a) 0 []
              have hla := okS_len ha
              rw [len_tl] at hla
              rw [len_tl] at q2
              refine k _ _ _ _ x2 S2 (.lst upd_same (by rw [List.length_map, List.length_map]; unfold splitZ; omega) ?_) q
              have : ((splitZ c (tl a)).map fun l => D.str (mkS l)) = ((splitZ c (tl a)).map mkS).map D.str := by rw [List.map_map]; rfl
              rw [this]
              refine reps_strs fun b hb => ?_
              obtain ⟨l, hl1, rfl⟩ := List.mem_map.mp hb
              obtain ⟨m1, m2⟩ := spl_mem [c] (tl a) 0 [] l hl1
              refine okS_sub ha (fun d hd => ?_) (by rw [len_tl, tl_mkS]; simp only [List.length_nil, Nat.zero_add] at m2; exact Nat.le_trans m2 hla)
              rcases m1 d hd with z | z
              · cases z
              · exact z
    · exact q.elim
  · exact q.elim
def countO : OpM := fun x ds k => match x, ds with
  | .str a, [.str b] => k (.int (Txt.count a b))
  | _, _ => False
def rCount : V → List V → Hp → VK → Prop := fun x xs H Q => ∃ a b, x = .str a ∧ xs = [.str b] ∧ Q (.int (Txt.count a b)) H
theorem mt_countI {X : Cx} : MtR X "str.count" rCount := mt_count
theorem sm_count : SemM K rCount countO := fun F Hs M σ H ρ x dx xs ds Q Qd S rx r k q => by
  unfold countO at q
  split at q
  · cases rx
    cases r with
    | cons h t => cases t; cases h; exact ⟨_, _, rfl, rfl, k _ H Hs _ (Ext.refl _) S (.int _) q⟩
  · exact q.elim
def startsO : OpM := fun x ds k => match x, ds with
  | .str a, [.str b] => k (.bl (Txt.startswith a b))
  | _, _ => False
def rStarts : V → List V → Hp → VK → Prop := fun x xs H Q => ∃ a b, x = .str a ∧ xs = [.str b] ∧ Q (.bl (Txt.startswith a b)) H
theorem mt_startsI {X : Cx} : MtR X "str.startswith" rStarts := mt_startswith
theorem sm_starts : SemM K rStarts startsO := fun F Hs M σ H ρ x dx xs ds Q Qd S rx r k q => by
  unfold startsO at q
  split at q
  · cases rx
    cases r with
    | cons h t => cases t; cases h; exact ⟨_, _, rfl, rfl, k _ H Hs _ (Ext.refl _) S (.bl _) q⟩
  · exact q.elim
/-- the first place -/
def indexD (x : D) : List D → Option Nat
  | [] => none
  | d :: r => if eqvD d x = true then some 0 else (indexD x r).map (· + 1)
def indexO : OpM := fun x ds k => match x, ds with
  | .lst xs, [y] => (flatD y = true ∧ xs.all flatD = true) ∧ match indexD y xs with
    | some j => k (.int (j : Nat))
    | none => False
  | _, _ => False
theorem index_spec {x : D} : ∀ {ds : List D} {j : Nat}, indexD x ds = some j → (∃ d, ds[j]? = some d ∧ eqvD d x = true) ∧ ∀ m d, m < j → ds[m]? = some d → eqvD d x = false
  | [], j, h => by cases h
  | d :: r, j, h => by
    unfold indexD at h
    split at h
    · rename_i e
      cases h
      exact ⟨⟨d, rfl, e⟩, fun m d hm => by omega⟩
    · rename_i e
      cases e2 : indexD x r with
      | none => rw [e2] at h; cases h
      | some i =>
        rw [e2] at h
        cases h
        obtain ⟨⟨d', h1, h2⟩, h3⟩ := index_spec e2
        refine ⟨⟨d', h1, h2⟩, fun m d'' hm hd => ?_⟩
        cases m with
        | zero => simp at hd; subst hd; simpa using e
        | succ m => exact h3 m d'' (Nat.lt_of_succ_lt_succ hm) (by simpa using hd)
theorem sm_index : SemM K (rIndex K) indexO := fun F Hs M σ H ρ x dx xs ds Q Qd S rx r k q => by
  unfold indexO at q
  split at q
  · rename_i xs' y
    obtain ⟨⟨f1, f2⟩, q⟩ := q
    split at q
    · rename_i j e
      obtain ⟨⟨d, h1, h2⟩, h3⟩ := index_spec e
      cases r with
      | cons hy t =>
        cases t
        cases rx with
        | lst h l r =>
          obtain ⟨v, hv, rv⟩ := r.get h1
          refine ⟨_, _, _, j, v, rfl, rfl, SqL.of (S.hs _ _ h), flat_rep hy f1, flat_reps r f2, hv, ?_, fun m z hm hz => ?_, k _ H Hs _ (Ext.refl _) S (.int _) q⟩
          · rw [eqv_rep rv hy (List.all_eq_true.mp f2 d (List.mem_of_getElem? h1)) f1]; exact h2
          · obtain ⟨d', hd', rd'⟩ := r.get' hz
            rw [eqv_rep rd' hy (List.all_eq_true.mp f2 d' (List.mem_of_getElem? hd')) f1]
            exact h3 m d' hm hd'
    · exact q.elim
  · exact q.elim
end
/-! ## f-strings -/
section
variable {X : Cx} {pos : Pos} {K : PySem.W.Frag}
inductive FJ (X : Cx) : List Expr → List TE → List TEd → Prop where
  | nil : FJ X [] [] []
  | cons {e : Expr} {t : TE} {T : TEd} {es : List Expr} {ts : List TE} {Ts : List TEd} (h : ED X e t T) (r : FJ X es ts Ts) : FJ X (e :: es) (t :: ts) (T :: Ts)
def TJs : List TEd → Str → List Sl → Mem → (Str → Mem → Prop) → Prop
  | [], acc, _, M, Q => Q acc M
  | t :: ts, acc, ρ, M, Q => t ρ M fun d M1 => match d with
    | .str y => acc.length + y.length ≤ 16777216 ∧ TJs ts (acc ++ y) ρ M1 Q
    | _ => False
def TFStr (ts : List TEd) : TEd := fun ρ M Q => TJs ts Str.empty ρ M fun s M1 => Q (.str s) M1
theorem FJ.pj {es : List Expr} {ts : List TE} {Ts : List TEd} (h : FJ X es ts Ts) : PJ X es ts := by
  induction h with
  | nil => exact .nil
  | cons h _ ih => exact .cons h.pe ih
theorem sem_js {es : List Expr} {ts : List TE} {Ts : List TEd} (h : FJ X es ts Ts) : ∀ (F Hs : Hp) (M : Mem) (σ : L2.St) (H : Hp) (ρ : List Sl) (acc : Str) (Q : Str → Hp → Prop) (Qd : Str → Mem → Prop), okS acc = true → Sta X.K F Hs M σ H ρ →
    (∀ (s : Str) (H' Hs' : Hp) (M' : Mem), okS s = true → Ext Hs Hs' → Sta X.K F Hs' M' σ H' ρ → Qd s M' → Q s H') → TJs Ts acc ρ M Qd → tJs ts acc σ H Q := by
  induction h with
  | nil => intro F Hs M σ H ρ acc Q Qd ha S k q; exact k acc H Hs M ha (Ext.refl _) S q
  | cons h _ ih =>
    intro F Hs M σ H ρ acc Q Qd ha S k q
    refine h.se F Hs M σ H ρ _ _ S (fun v H1 Hs1 d M1 e1 S1 r1 q1 => ?_) q
    split at q1
    · rename_i y
      cases r1 with
      | str _ hy =>
        refine ⟨y, rfl, ?_, ?_⟩
        · have := okS_len (okS_append ha hy q1.1)
          rw [line_eq]
          exact this
        · exact ih F Hs1 M1 σ H1 ρ _ _ Qd (okS_append ha hy q1.1) S1 (fun s H' Hs' M' hs e S' q' => k s H' Hs' M' hs (e1.trans e) S' q') q1.2
    · exact q1.elim
theorem okS_empty : okS Str.empty = true := by decide +kernel
theorem ed_fstr {v1 v2 : Expr} {rest : List Expr} {ts : List TE} {Ts : List TEd} (h : FJ X (v1 :: v2 :: rest) ts Ts) : ED X (.JoinedStr (v1 :: v2 :: rest) pos) (fun σ H Q => tJs ts Str.empty σ H fun out H1 => Q (.str out) H1) (TFStr Ts) :=
  ⟨pe_joined h.pj, fun F Hs M σ H ρ Q Qd S k q => sem_js h F Hs M σ H ρ _ _ _ okS_empty S (fun s H' Hs' M' hs e S' q' => k _ H' Hs' _ M' e S' (.str s hs) q') q⟩
theorem ed_fstr1 {e : Expr} {te : TE} {Te : TEd} (h : ED X e te Te) : ED X (.JoinedStr [e] pos) te Te := ⟨pe_joined1 h.pe, h.se⟩
def TFmt (t : TEd) : TEd := fun ρ M Q => t ρ M fun d M1 => match d with
  | .str y => Q (.str y) M1
  | .int i => (0 ≤ i ∧ i < 1000000000000) ∧ Q (.str (numS i.toNat)) M1
  | _ => False
theorem ed_fmt {e : Expr} {te : TE} {Te : TEd} (h : ED X e te Te) : ED X (.FormattedValue e (-1) none pos) (tFmt te) (TFmt Te) := ⟨pe_fmt h.pe, fun F Hs M σ H ρ Q Qd S k q => h.se F Hs M σ H ρ _ _ S (fun v H1 Hs1 d M1 e1 S1 r1 q1 => by
  split at q1
  · cases r1 with
    | str _ hy => exact .inl ⟨_, rfl, by rw [line_eq]; exact okS_len hy, k _ H1 Hs1 _ M1 e1 S1 (.str _ hy) q1⟩
  · rename_i i
    obtain ⟨⟨h0, h1⟩, q1⟩ := q1
    cases r1
    refine .inr ⟨_, rfl, log2_small h0 h1, ?_⟩
    have e : (toString i : Str) = numS i.toNat := by
      unfold numS
      rw [Int.toNat_of_nonneg h0]
    rw [e]
    exact k _ H1 Hs1 _ M1 e1 S1 (.str _ (okS_num (Nat.lt_of_lt_of_le (show i.toNat < 10 ^ 12 by omega) (Nat.pow_le_pow_right (by decide) (by decide))))) q1
  · exact q1.elim) q⟩
end
end DL

namespace DL
open PySem PySem.Spec PyProof.Rows L2 TL
section
variable {X : Cx} {pos : Pos} {ta tb tc te tx ty : TE} {Ta Tb Tc Te Tx Ty : TEd}
theorem ed_chain {o o' : CmpOp} {r r' : R2} {op op' : Op2} {a b c : Expr} (ho : OpR X (compareOp o) r) (hr : SemR X.K r op) (ho' : OpR X (compareOp o') r') (hr' : SemR X.K r' op') (ha : ED X a ta Ta) (hb : ED X b tb Tb) (hc : ED X c tc Tc)
    (hm : lastMarks [o, o'] [b, c] = false := by with_unfolding_all rfl) : ED X (.Compare a [o, o'] [b, c] pos) (tChain r r' ta tb tc) (TChain op op' Ta Tb Tc) := ⟨pe_chain ho ho' ha.pe hb.pe hc.pe hm, sem_chain hr hr' ha.se hb.se hc.se⟩
theorem td_chain {o o' : CmpOp} {r r' : R2} {op op' : Op2} {a b c : Expr} (ho : OpR X (compareOp o) r) (hr : SemR X.K r op) (ho' : OpR X (compareOp o') r') (hr' : SemR X.K r' op') (ha : ED X a ta Ta) (hb : ED X b tb Tb) (hc : ED X c tc Tc)
    (hm : lastMarks [o, o'] [b, c] = false := by with_unfolding_all rfl) : TD X (.Compare a [o, o'] [b, c] pos) (tTest (tChain r r' ta tb tc)) (TTst (TChain op op' Ta Tb Tc)) := ⟨pt_chain ho ho' ha.pe hb.pe hc.pe hm, sem_tst (sem_chain hr hr' ha.se hb.se hc.se)⟩
/-! ## a written dict: d.get(k, x) -/
structure WDic (K : PySem.W.Frag) (w : World) (a : Addr) (kvs : List (Str × D)) : Prop where
  keys : He.dicW K a = some (He.keysIn w.params (kvs.map (·.1)))
  vals : ∀ x d, kvs.lookup x = some d → ∃ u v, PySem.W.nsIn K a x = some (some u) ∧ RelV v u ∧ ∀ H, Rep K H v d
theorem keys_miss {P : Params} {x : Str} : ∀ {l : List DictEntry} {ks : List Str}, l.map He.keyOf = He.keysIn P ks → x ∉ ks → l.find? (fun e => Value.isStrOf x e.key) = none
  | [], _, _, _ => rfl
  | e :: r, [], h, _ => by cases h
  | e :: r, k :: ks, h, hx => by
    have h1 : He.keyOf e :: r.map He.keyOf = some (k, PyData.keyHash P k) :: He.keysIn P ks := h
    injection h1 with h2 h3
    have hne : Value.isStrOf x e.key = false := by
      unfold He.keyOf at h2
      split at h2
      · rename_i y t q
        have h4 := Option.some.inj h2
        obtain ⟨h5, _⟩ := Prod.mk.inj h4
        rw [q]
        show (y == x) = false
        rw [beq_eq_false_iff_ne]
        intro c
        exact hx (by rw [← c, h5]; exact List.mem_cons_self)
      · cases h2
    rw [List.find?_cons, hne]
    exact keys_miss h3 (fun c => hx (List.mem_cons_of_mem _ c))
theorem dicW_at {K : PySem.W.Frag} {a : Addr} {L : List (Option (Str × Int))} (h : He.dicW K a = some L) : ∃ es n, K.lookup a = some ⟨.type "dict", none, .dict es n, #[]⟩ ∧ es.toList.map He.keyOf = L ∧ (a == sysModules) = false := by
  unfold He.dicW at h
  cases q : K.lookup a with
  | none =>
    rw [q] at h
    cases h
  | some o =>
    obtain ⟨oc, od, dt, osl⟩ := o
    rw [q] at h
    cases oc with
    | type c =>
      cases od with
      | none =>
        cases dt with
        | dict es n =>
          have h1 : (match decide (c = "dict") && (osl.isEmpty && !(a == sysModules)) with
            | true => some (es.toList.map He.keyOf)
            | false => none) = some L := h
          cases z : decide (c = "dict") && (osl.isEmpty && !(a == sysModules)) with
          | false =>
            rw [z] at h1
            cases h1
          | true =>
            rw [z] at h1
            simp only [Bool.and_eq_true, decide_eq_true_eq, Bool.not_eq_true'] at z
            obtain ⟨e1, e2, e3⟩ := z
            have e2 := Array.isEmpty_iff.mp e2
            subst e1 e2
            exact ⟨es, n, rfl, Option.some.inj h1, e3⟩
        | _ => cases h
      | some b => cases dt <;> cases h
    | _ => cases od <;> cases dt <;> cases h
def tWGet (K : PySem.W.Frag) (w : World) (td ty tx : TE) : TE := fun σ H Q => td σ H fun x H1 => ty σ H1 fun y H2 => tx σ H2 fun z H3 => ∃ (a : Addr) (es : Array DictEntry) (n : Nat) (k : Str), x = .ref a ∧ y = .str k ∧ K.lookup a = some ⟨.type "dict", none, .dict es n, #[]⟩ ∧ PySem.W.KeysLit w.params es.toList ∧ (a == sysModules) = false ∧
  ((∃ u v, findBy Value.isStrOf es k = some u ∧ RelV v u ∧ Q v H3) ∨ (findBy Value.isStrOf es k = none ∧ Q z H3))
theorem pe_wget {o e f : Expr} {apos cpos : Pos} {td : TE} (ho : PE X o td) (he : PE X e ty) (hf : PE X f tx) (m : M2 X o "get" apos e f cpos)
    (hd : ∀ σ H Q, td σ H Q → td σ H fun x H1 => (∃ a es n, x = V.ref a ∧ X.K.lookup a = some ⟨.type "dict", none, .dict es n, #[]⟩) ∧ Q x H1) : PE X (.Call (.Attribute o "get" apos) [e, f] [] cpos) (tWGet X.K X.w td ty tx) := by
  refine ⟨fun pins s σ H Q I h => ?_⟩
  refine wpAny_Call_method m.base m.few m.line PySem.F.plainAttrs_dict PySem.F.slot_dict_get PySem.F.type_dict_get (thn (ho.run pins s σ H _ I (hd _ _ _ h)) fun u s1 ⟨x, H1, I1, rx, ⟨a, es, n, ex, hl⟩, q1⟩ => ?_)
  subst ex
  obtain rfl : u = Value.ref a := rx
  have hat := I1.kIn _ _ hl
  refine ⟨⟨_, hat, rfl⟩, fun b eb => by cases eb; exact ⟨_, hat, rfl⟩, ?_⟩
  rw [m.trees]
  refine Calls.callWith_builtin rfl (Calls.evalArgs_plain (Calls.spliced_cons (thn (he.run pins s1 σ H1 _ I1 q1) fun iv s2 ⟨y, H2, I2, ry, q2⟩ =>
    Calls.spliced_cons (thn (hf.run pins s2 σ H2 _ I2 q2) fun fv s3 ⟨z, H3, I3, rz, q3⟩ => Calls.spliced_nil ?_))))
  obtain ⟨a', es', n', k, ea, ek, hl', hk, lo, q⟩ := q3
  cases ea
  subst ek
  rw [hl] at hl'
  cases hl'
  obtain ⟨t, rfl⟩ := (show ∃ t, iv = Value.str k t from ry)
  have hm := PySem.W.mapOf_K (prog := X.prog) (w := X.w) I3.kIn hl hk
  refine call_meetsIn PySem.F.slot_dict_get hm.typeIs PySem.F.entry_dict_get (PySem.F.args_dict_get_3 _ _ _) (meets_dict_get_default (strKind X.prog X.w) a (strKind_is X.prog X.w k t) lo fv) ⟨_, hm, ?_⟩
  rcases q with ⟨u, v, e1, rv, q⟩ | ⟨e1, q⟩
  · rw [e1]
    exact ⟨v, H3, I3.tok _, rv, q⟩
  · rw [e1]
    exact ⟨z, H3, I3.tok _, rz, q⟩
def TWGet (kvs : List (Str × D)) (Ty Tx : TEd) : TEd := fun ρ M Q => Ty ρ M fun y M1 => Tx ρ M1 fun z M2 => match y with
  | .str k => Q ((kvs.lookup k).getD z) M2
  | _ => False
theorem lookup_mem {x : Str} {d : D} : ∀ {l : List (Str × D)}, l.lookup x = none → x ∉ l.map (·.1)
  | [], _ => by simp
  | (k, v) :: r, h => by
    rw [List.lookup_cons] at h
    split at h
    · cases h
    · rename_i e
      rw [List.map_cons, List.mem_cons, not_or]
      exact ⟨by simpa using e, lookup_mem (d := d) h⟩
theorem ed_wget {e f : Expr} {name : Str} {npos apos cpos : Pos} {a : Addr} {kvs : List (Str × D)} (hW : WDic X.K X.w a kvs) (ho : ED X (.Name name npos) (tC (.ref a)) (TC (.ref a))) (he : ED X e ty Ty) (hf : ED X f tx Tx) (m : M2 X (.Name name npos) "get" apos e f cpos) :
    ED X (.Call (.Attribute (.Name name npos) "get" apos) [e, f] [] cpos) (tWGet X.K X.w (tC (.ref a)) ty tx) (TWGet kvs Ty Tx) := by
  obtain ⟨es, n, hl, hks, lo⟩ := dicW_at hW.keys
  refine ⟨pe_wget ho.pe he.pe hf.pe m fun σ H Q h => ⟨⟨a, es, n, rfl, hl⟩, h⟩, fun F Hs M σ H ρ Q Qd S k q => ?_⟩
  show ty σ H _
  refine he.se F Hs M σ H ρ _ _ S (fun y H1 Hs1 dy M1 e1 S1 r1 q1 => ?_) q
  refine hf.se F Hs1 M1 σ H1 ρ _ _ S1 (fun z H2 Hs2 dz M2 e2 S2 r2 q2 => ?_) q1
  split at q2
  · rename_i key
    cases r1 with
    | str _ hy =>
      refine ⟨a, es, n, key, rfl, rfl, hl, He.keysLit_of hks, lo, ?_⟩
      cases hlk : kvs.lookup key with
      | some d =>
        obtain ⟨u, v, h1, h2, h3⟩ := hW.vals key d hlk
        rw [hlk] at q2
        exact .inl ⟨u, v, PySem.W.find_K hl h1, h2, k v H2 Hs2 d M2 (e1.trans e2) S2 (h3 _) q2⟩
      | none =>
        rw [hlk] at q2
        refine .inr ⟨?_, k z H2 Hs2 dz M2 (e1.trans e2) S2 r2 q2⟩
        obtain ⟨l⟩ := es
        unfold findBy
        rw [List.find?_toArray, keys_miss hks (lookup_mem (d := .non) hlk)]
        rfl
  · exact q2.elim
end
/-! ## int(text) or int(number) -/
section
variable {K : PySem.W.Frag}
def rIntS : List V → Hp → VK → Prop := fun xs H Q => ∃ a n, xs = [V.str a] ∧ PySem.intText? a = some n ∧ a.length ≤ 640 ∧ Q (.int n) H
def intSO : OpC := fun ds k => match ds with
  | [.str z] => match PySem.intText? z with
    | some n => z.length ≤ 640 ∧ k (.int n)
    | none => False
  | _ => False
theorem call_intS {X : Cx} : CallR X (.type "int") rIntS := call_int_str
theorem sc_intS : SemC K rIntS intSO := fun F Hs M σ H ρ xs ds Q Qd S r k q => by
  unfold intSO at q
  split at q
  · split at q
    · rename_i z n e
      cases r with
      | cons h t =>
        cases t
        cases h with
        | str _ hz => exact ⟨_, _, rfl, e, q.1, k _ H Hs _ (Ext.refl _) S (.int _) q.2⟩
    · exact q.elim
  · exact q.elim
end
/-! ## text[::-1] -/
theorem revRange (n : Nat) : Builtin.Str.strSliceIndices none none (-1) n = (List.range n).map fun k => n - 1 - k := by
  unfold Builtin.Str.strSliceIndices sliceRange
  simp only [show ¬ ((-1 : Int) > 0) by decide, if_false]
  by_cases h : n = 0
  · subst h; rfl
  · have e : ((if ((n : Int) - 1) > -1 then ((n : Int) - 1 - -1 - -1 - 1) / (- -1) else 0)).toNat = n := by
      rw [if_pos (by omega)]
      have : (n : Int) - 1 - -1 - -1 - 1 = n := by omega
      rw [this]
      simp
    rw [e]
    refine List.map_congr_left fun k hk => ?_
    have := List.mem_range.mp hk
    omega
theorem revPick (l : List Nat) : ((List.range l.length).map fun k => l.length - 1 - k).filterMap (fun i => l.toArray[i]?) = l.reverse := by
  apply List.ext_getElem?
  intro i
  rw [List.filterMap_map]
  have h1 : (List.range l.length).filterMap ((fun i => l.toArray[i]?) ∘ fun k => l.length - 1 - k) = (List.range l.length).map (fun k => l.getD (l.length - 1 - k) 0) := by
    have : ∀ ks : List Nat, (∀ k ∈ ks, k < l.length) → ks.filterMap ((fun i => l.toArray[i]?) ∘ fun k => l.length - 1 - k) = ks.map (fun k => l.getD (l.length - 1 - k) 0) := by
      intro ks
      induction ks with
      | nil => intro _; rfl
      | cons k ks ih =>
        intro hk
        have hk1 := hk k List.mem_cons_self
        have hlt : l.length - 1 - k < l.length := by omega
        have e : ((fun i => l.toArray[i]?) ∘ fun k => l.length - 1 - k) k = some (l.getD (l.length - 1 - k) 0) := by simp [hlt]
        rw [List.filterMap_cons, e, List.map_cons, ih fun j hj => hk j (List.mem_cons_of_mem _ hj)]
    exact this _ fun k hk => List.mem_range.mp hk
  rw [h1]
  by_cases h : i < l.length
  · rw [List.getElem?_map, List.getElem?_range h, List.getElem?_reverse h]
    have hlt : l.length - 1 - i < l.length := by omega
    simp [hlt]
  · rw [List.getElem?_eq_none (by simpa using h), List.getElem?_eq_none (by simpa using h)]
def revZ (z : Str) : Str := mkS (tl z).reverse
theorem okS_revZ {z : Str} (h : okS z = true) : okS (revZ z) = true := okS_sub h (fun c hc => by simpa [revZ, tl_mkS] using hc) (by
  have := okS_len h
  rw [len_tl] at this
  rw [len_tl, revZ, tl_mkS, List.length_reverse]
  exact this)
section
variable {X : Cx} {te : TE} {Te : TEd}
def tRevZ (te : TE) : TE := fun σ H Q => te σ H fun x H1 => ∃ z, x = .str z ∧ z.length ≤ sizeLine ∧ Q (.str (revZ z)) H1
theorem pe_revZ {e : Expr} {k : Nat} {p1 p2 p3 pos : Pos} (he : PE X e te) : PE X (.Subscript e (.Slice none none (some (.UnaryOp .USub (.Constant (.int 1) k p1) p2)) p3) pos) (tRevZ te) := by
  refine ⟨fun pins s σ H Q I h => ?_⟩
  refine Subscript_ (thn (he.run pins s σ H _ I h) fun v s1 ⟨x, H1, I1, r1, q1⟩ => ?_)
  obtain ⟨z, ex, hz, q⟩ := q1
  subst ex
  obtain ⟨tz, rfl⟩ := r1
  have hst : PO X (some (.UnaryOp .USub (.Constant (.int 1) k p1) p2)) (tPart (tUn (rU fun i => .int (-i)) (tC (.int 1)))) := po_some (pe_un un_neg pe_int)
  refine wpAny_Slice (thn (po_none.run pins s1 σ H1 (fun o H2 => o = none ∧ H2 = H1) I1 ⟨rfl, rfl⟩) fun vl s2 ⟨l, H2, I2, pl, el, e2⟩ => ?_)
  subst el e2
  refine thn (po_none.run pins s2 σ H2 (fun o H3 => o = none ∧ H3 = H2) I2 ⟨rfl, rfl⟩) fun vu s3 ⟨u, H3, I3, pu, eu, e3⟩ => ?_
  subst eu e3
  refine thn (hst.run pins s3 σ H3 (fun o H4 => o = some (-1) ∧ H4 = H3) I3 ⟨1, rfl, -1, rfl, rfl, rfl⟩) fun vs s4 ⟨o, H4, I4, ps, eo, e4⟩ => ?_
  subst eo e4
  have I5 : Inv X pins σ H4 { s4 with heap := s4.heap.push { cls := .type "slice", data := .fields #[vl, vu, vs] } } := I4.kept (t' := s4.toks) fun b ob q => Heap.get?_push_of_some _ q
  show wpAny (model X.prog X.w) X.A (subscriptTail e (.Slice none none (some (.UnaryOp .USub (.Constant (.int 1) k p1) p2)) p3) (.str z tz) (.ref s4.heap.objs.size)) (EP X pins σ Q) X.xe { s4 with heap := s4.heap.push { cls := .type "slice", data := .fields #[vl, vu, vs] } }
  refine tail_any (ops := [.str z tz, .ref s4.heap.objs.size]) (typeIs_str _ _ _) (F.slot_str_getitem.lookup) ?_ (by with_unfolding_all rfl)
  obtain ⟨l, rfl, hl⟩ := IsPart.raw pl
  obtain ⟨u, rfl, hu⟩ := IsPart.raw pu
  obtain ⟨st, rfl, hst'⟩ := IsPart.raw ps
  refine wpAny_getItem_str_slice (l := l) (u := u) (st := st) ⟨_, Heap.get?_push_size _ rfl, rfl, rfl⟩ (by rw [hst']; rfl) ?_
  have e1 : sliceMade z tz l u st = .str (revZ z) := by
    unfold sliceMade slicePicked
    rw [hl, hu, hst']
    show (if ((-1 : Int) == 1 && _) = true then _ else _) = _
    rw [if_neg (by simp)]
    show Made.str ⟨((Builtin.Str.strSliceIndices none none (-1) z.length).filterMap (z.cps[·]?)).toArray⟩ = _
    rw [revRange]
    have := revPick (tl z)
    unfold revZ mkS
    rw [← this]
    rfl
  rw [e1]
  refine ⟨?_, .str _, H4, I5.tok _, ⟨_, rfl⟩, q⟩
  have : (revZ z).length = z.length := by rw [len_tl, len_tl, revZ, tl_mkS, List.length_reverse]
  rw [this]
  exact hz
def TRevZ (Te : TEd) : TEd := fun ρ M Q => Te ρ M fun x M1 => match x with
  | .str z => Q (.str (revZ z)) M1
  | _ => False
theorem ed_revZ {e : Expr} {k : Nat} {p1 p2 p3 pos : Pos} (he : ED X e te Te) : ED X (.Subscript e (.Slice none none (some (.UnaryOp .USub (.Constant (.int 1) k p1) p2)) p3) pos) (tRevZ te) (TRevZ Te) :=
  ⟨pe_revZ he.pe, fun F Hs M σ H ρ Q Qd S k q => he.se F Hs M σ H ρ _ _ S (fun x H1 Hs1 dx M1 e1 S1 r1 q1 => by
    split at q1
    · cases r1 with
      | str _ hz => exact ⟨_, rfl, by rw [line_eq]; exact okS_len hz, k _ H1 Hs1 _ M1 e1 S1 (.str _ (okS_revZ hz)) q1⟩
    · exact q1.elim) q⟩
end
end DL

namespace DL
open PySem PySem.Spec PyProof.Rows L2 TL
section
variable {X : Cx} {pos : Pos}
theorem ed_ty {x : Str} {n : String} (hg : Gl X x) (hm : X.mg x = none) (hv : bootBuiltins x = some (.type n)) (hn : x ≠ "__name__" := by decide) (hd : (x == ("__debug__" : Str)) = false := by decide) : ED X (.Name x pos) (tC (.ty n)) (TC (.ty n)) := ed_blt hg hm hv (v := .ty n) rfl (fun _ => .ty _) hn hd
theorem ed_ref {x : Str} {a : Addr} (hg : Gl X x) (hm : X.mg x = some (.ref a)) (hd : (x == ("__debug__" : Str)) = false := by decide) : ED X (.Name x pos) (tC (.ref a)) (TC (.ref a)) := ed_glob hg hm (v := .ref a) rfl (fun _ => .ref _) hd
theorem ed_gint {x : Str} {i : Int} (hm : ∃ t, X.mg x = some (.int i t)) (hg : Gl X x) (hd : (x == ("__debug__" : Str)) = false := by decide) : ED X (.Name x pos) (tC (.int i)) (TC (.int i)) := by
  obtain ⟨t, hm⟩ := hm
  exact ed_glob hg hm (v := .int i) ⟨t, rfl⟩ (fun _ => .int _) hd
theorem ed_gtup {x : Str} {a : Addr} {ds : List D} (hm : X.mg x = some (.ref a) ∧ ∀ H, Rep X.K H (.ref a) (.tup ds)) (hg : Gl X x) (hd : (x == ("__debug__" : Str)) = false := by decide) : ED X (.Name x pos) (tC (.ref a)) (TC (.tup ds)) := ed_glob hg hm.1 (v := .ref a) rfl hm.2 hd
def TNeg (Te : TEd) : TEd := fun ρ M Q => Te ρ M fun x M1 => match x with
  | .int i => Q (.int (-i)) M1
  | _ => False
theorem ed_neg {a : Expr} {te : TE} {Te : TEd} (h : ED X a te Te) : ED X (.UnaryOp .USub a pos) (tUn (rU fun i => .int (-i)) te) (TNeg Te) := ⟨pe_un un_neg h.pe, fun F Hs M σ H ρ Q Qd S k q => h.se F Hs M σ H ρ _ _ S (fun x H1 Hs1 dx M1 e1 S1 r1 q1 => by
  split at q1
  · cases r1; exact ⟨_, rfl, k _ H1 Hs1 _ M1 e1 S1 (.int _) q1⟩
  · exact q1.elim) q⟩
end
end DL

namespace DL
open PySem PySem.Spec PyProof.Rows L2 TL
section
variable (K : PySem.W.Frag) {X : Cx} {pos : Pos} {ta tb te : TE} {Ta Tb Te : TEd} {tr : TA} {R : TAd} {ts : TS} {Ts : TSd}
theorem k_add (hK : X.K = K) : OpR X (binaryOp .Add) (rAddAll K) := hK ▸ op_addAll
theorem k_in (hK : X.K = K) : OpR X (compareOp .In) (rIn K false) := hK ▸ op_in_seq
theorem k_notIn (hK : X.K = K) : OpR X (compareOp .NotIn) (rIn K true) := hK ▸ op_notIn_seq
theorem k_eq (hK : X.K = K) (hu : X.A.units + 64 < cLine) : OpR X (compareOp .Eq) (rEqD K) := hK ▸ op_eqD hu
theorem k_ne (hK : X.K = K) (hu : X.A.units + 64 < cLine) : OpR X (compareOp .NotEq) (rNeD K) := hK ▸ op_neD hu
theorem k_ix (hK : X.K = K) : IxR X (rIx K) := hK ▸ ix_seq
theorem k_sl (hK : X.K = K) : SlR X (rSlAll K) := hK ▸ sl_all
theorem k_len (hK : X.K = K) : CallR X (.builtin "len") (rLenAll K) := hK ▸ call_lenAll
theorem k_isi (hK : X.K = K) : CallR X (.builtin "isinstance") (rIsi K) := hK ▸ call_isi
theorem k_tup (hK : X.K = K) : CallR X (.type "tuple") (rTupOf K) := hK ▸ call_tupOf
theorem k_lst (hK : X.K = K) : CallR X (.type "list") (rLstOf K) := hK ▸ call_lstOf
theorem k_all (hK : X.K = K) (hc : X.calm = true) : CallR X (.builtin "all") (rAll K) := hK ▸ cr_all hc
theorem k_any (hK : X.K = K) (hc : X.calm = true) : CallR X (.builtin "any") (rAny K) := hK ▸ cr_any hc
theorem k_join (hK : X.K = K) : MtR X "str.join" (rJoin K) := hK ▸ mt_joinI
theorem k_index (hK : X.K = K) : MtR X "list.index" (rIndex K) := hK ▸ mt_index
theorem ed_bmK {o e : Expr} {es : List Expr} {name : Str} {apos cpos : Pos} {T id : String} {r : V → List V → Hp → VK → Prop} {op : OpM} (hK : X.K = K) (pa : PlainAttrs T) (slot : Slot T name id) (hty : typeOf (.builtin id) = pure (.type "method_descriptor")) (hm : MtR X id r) (hr : SemM K r op) (ho : ED X o ta Ta) (ha : AD X (e :: es) tr R)
    (hbase : attributeBase o name X.env (eval o X.env) = eval o X.env := by rfl)
    (hfew : ((backTo cpos (starEach (e :: es) X.env)).all (fun x => !x.1) && (backToKw cpos (keywordEach [] X.env)).all (fun x => x.1.isSome)
      && decide ((e :: es).length + ([] : List Keyword).length + (if ([] : List Keyword).isEmpty then 0 else 1) < 30)) = true := by rfl)
    (hline : (apos.endLine == cpos.line) = true := by rfl) (hs : starEach (e :: es) X.env = (false, eval e X.env) :: starEach es X.env := by rfl) (hplain : (backTo cpos (starEach es X.env)).any (·.1) = false := by rfl) :
    ED X (.Call (.Attribute o name apos) (e :: es) [] cpos) (tBM K T r ta tr) (TBM T op Ta R) := by
  subst hK
  exact ed_bm pa slot hty hm hr ho ha hbase hfew hline hs hplain
theorem ed_bm0K {o : Expr} {name : Str} {apos cpos : Pos} {T id : String} {r : V → List V → Hp → VK → Prop} {op : OpM} (hK : X.K = K) (pa : PlainAttrs T) (slot : Slot T name id) (hty : typeOf (.builtin id) = pure (.type "method_descriptor")) (hm : MtR X id r) (hr : SemM K r op) (ho : ED X o ta Ta)
    (hbase : attributeBase o name X.env (eval o X.env) = eval o X.env := by rfl) (hline : (apos.endLine == cpos.line) = true := by rfl) : ED X (.Call (.Attribute o name apos) [] [] cpos) (tBM0 K T r ta) (TBM0 T op Ta) := by
  subst hK
  exact ed_bm0 pa slot hty hm hr ho hbase hline
theorem ed_callK {CX : CXT} {k : Nat} {f : Addr} {fd : FuncData} {ps : List Str} {fsp : SpD} {x : Str} {p : Pos} {e : Expr} {es : List Expr} {E : XK} (hK : X.K = K) (G : FnOk X.prog X.w K X.mg X.base CX k f fd ps (spOf K fsp)) (hr : Room k X.A) (hg : Gl X x) (hm : X.mg x = some (.ref f)) (hk : PySem.W.keepIn K (.ref f) = true) (hb : Binds K fd ps []) (hx : Passes CX X E)
    (ha : AD X (e :: es) tr R) (hdb : (x == ("__debug__" : Str)) = false := by decide) (he : starEach (e :: es) X.env = (false, eval e X.env) :: starEach es X.env := by rfl) (hpl : (backTo pos (starEach es X.env)).any (·.1) = false := by rfl) :
    ED X (.Call (.Name x p) (e :: es) [] pos) (tCall (spOf K fsp) [] E tr) (TCall fsp R) := by
  subst hK
  exact ed_call G hr hg hm hk hb hx ha hdb he hpl
theorem gd_tupK {es : List Expr} {k n : Nat} {gs : TGs} {Gs : TGsd} (hK : X.K = K) (hc : X.calm = true) (h : GsD X es gs Gs) (hn : (assignEach es X.env).length = n := by rfl) (hst : (assignEach es X.env).findIdx? (·.1) = none := by rfl) : GD X (.Tuple es k pos) (gTup K n gs) (GTup n Gs) := by
  subst hK
  exact gd_tup hc h hn hst
theorem id_listK {tg l : Expr} (hK : X.K = K) (h : ED X l te Te) : ID X tg l (iList K te) (IList Te) := by
  subst hK
  exact id_list h
theorem id_tupK {tg l : Expr} (hK : X.K = K) (h : ED X l te Te) : ID X tg l (iTup K te) (ITup Te) := by
  subst hK
  exact id_tup h
theorem ed_wgetK {w : World} {tx ty : TE} {Tx Ty : TEd} {e f : Expr} {name : Str} {npos apos cpos : Pos} {a : Addr} {kvs : List (Str × D)} (hK : X.K = K) (hw : X.w = w) (hW : WDic K w a kvs) (ho : ED X (.Name name npos) (tC (.ref a)) (TC (.ref a))) (he : ED X e ty Ty) (hf : ED X f tx Tx) (m : M2 X (.Name name npos) "get" apos e f cpos) :
    ED X (.Call (.Attribute (.Name name npos) "get" apos) [e, f] [] cpos) (tWGet K w (tC (.ref a)) ty tx) (TWGet kvs Ty Tx) := by
  subst hK hw
  exact ed_wget hW ho he hf m
theorem ed_gtupK {x : Str} {a : Addr} {ds : List D} (hK : X.K = K) (hm : X.mg x = some (.ref a) ∧ ∀ H, Rep K H (.ref a) (.tup ds)) (hg : Gl X x) (hd : (x == ("__debug__" : Str)) = false := by decide) : ED X (.Name x pos) (tC (.ref a)) (TC (.tup ds)) := by
  subst hK
  exact ed_gtup hm hg hd
end
end DL

namespace DL
open PySem PySem.Spec PyProof.Rows L2 TL
/-! ## loops and comprehensions at the data level -/
theorem lcD_fm {α : Type} {g : TGd} {c : TTd} {e : TEd} {ρ : List Sl} {M : Mem} (inj : α → D) (F : α → Option D) : ∀ (xs : List α) (Q : List D → Mem → Prop),
    (∀ a ∈ xs, ∀ (K1 : D → Mem → Prop) (K2 : Mem → Prop), (match F a with | some x => K1 x M | none => K2 M) → g (inj a) ρ M fun ρ2 M2 => c ρ2 M2 fun b M3 => match b with | true => e ρ2 M3 K1 | false => K2 M3) →
    Q (xs.filterMap F) M → lcD g c e (xs.map inj) ρ M Q
  | [], Q, _, q => q
  | a :: r, Q, h, q => by
    have ih := fun Q' q' => lcD_fm (g := g) (c := c) (e := e) (ρ := ρ) (M := M) inj F r Q' (fun b hb => h b (List.mem_cons_of_mem _ hb)) q'
    refine h a List.mem_cons_self (fun y M4 => lcD g c e (r.map inj) ρ M4 fun ys M5 => Q (y :: ys) M5) (fun M3 => lcD g c e (r.map inj) ρ M3 Q) ?_
    rw [List.filterMap_cons] at q
    cases hF : F a with
    | some x =>
      rw [hF] at q
      exact ih _ q
    | none =>
      rw [hF] at q
      exact ih _ q
theorem lcD_m {α : Type} {g : TGd} {e : TEd} {ρ : List Sl} {M : Mem} (inj : α → D) (f : α → D) (xs : List α) (Q : List D → Mem → Prop)
    (h : ∀ a ∈ xs, ∀ (K1 : D → Mem → Prop), K1 (f a) M → g (inj a) ρ M fun ρ2 M2 => e ρ2 M2 K1)
    (q : Q (xs.map f) M) : lcD g TYes e (xs.map inj) ρ M Q := by
  refine lcD_fm inj (fun a => some (f a)) xs Q (fun a ha K1 K2 k => h a ha K1 k) ?_
  rw [List.filterMap_eq_map']
  exact q
theorem lcD_f {α : Type} {g : TGd} {c : TTd} {e : TEd} {ρ : List Sl} {M : Mem} (inj : α → D) (p : α → Bool) (f : α → D) (xs : List α) (Q : List D → Mem → Prop)
    (h : ∀ a ∈ xs, ∀ (K1 : D → Mem → Prop) (K2 : Mem → Prop), (p a = true → K1 (f a) M) → (p a = false → K2 M) → g (inj a) ρ M fun ρ2 M2 => c ρ2 M2 fun b M3 => match b with | true => e ρ2 M3 K1 | false => K2 M3)
    (q : Q ((xs.filter p).map f) M) : lcD g c e (xs.map inj) ρ M Q := by
  refine lcD_fm inj (fun a => if p a then some (f a) else none) xs Q (fun a ha K1 K2 k => h a ha K1 K2 (fun e1 => ?_) (fun e1 => ?_)) ?_
  · rw [e1] at k; exact k
  · rw [e1] at k; exact k
  · have : xs.filterMap (fun a => if p a then some (f a) else none) = (xs.filter p).map f := by
      clear h q
      induction xs with
      | nil => rfl
      | cons a r ih =>
        rw [List.filterMap_cons, List.filter_cons, ih]
        cases p a <;> rfl
    rw [this]
    exact q
theorem forD_inv {g : TGd} {b : TSd} {Dd : EndsD} {α : Type} (inj : α → D) : ∀ (xs : List α) (I : List α → List Sl → Mem → Prop) (ρ : List Sl) (M : Mem),
    (∀ a r ρ M (Kn : List Sl → Mem → Prop), (∃ pre, xs = pre ++ a :: r) → I (a :: r) ρ M → (∀ ρ' M', I r ρ' M' → Kn ρ' M') → g (inj a) ρ M fun ρ1 M1 => b ⟨Kn, Dd.rt, Dd.nx, Kn⟩ ρ1 M1) →
    I xs ρ M → (∀ ρ M, I [] ρ M → Dd.nx ρ M) → forD g b (xs.map inj) Dd ρ M
  | [], I, ρ, M, _, i0, hE => hE ρ M i0
  | a :: r, I, ρ, M, hS, i0, hE => by
    refine hS a r ρ M _ ⟨[], rfl⟩ i0 fun ρ' M' i' => ?_
    exact forD_inv inj r I ρ' M' (fun a' r' ρ M Kn ⟨pre, e⟩ => hS a' r' ρ M Kn ⟨a :: pre, by rw [e]; rfl⟩) i' hE
/-- a loop whose turns leave slots and cells as they are known to be -/
theorem forD_n {g : TGd} {b : TSd} {Dd : EndsD} {α : Type} (inj : α → D) (xs : List α) (I : Nat → List Sl → Mem → Prop) (ρ : List Sl) (M : Mem)
    (hS : ∀ i a ρ M (Kn : List Sl → Mem → Prop), xs[i]? = some a → I i ρ M → (∀ ρ' M', I (i + 1) ρ' M' → Kn ρ' M') → g (inj a) ρ M fun ρ1 M1 => b ⟨Kn, Dd.rt, Dd.nx, Kn⟩ ρ1 M1)
    (i0 : I 0 ρ M) (hE : ∀ ρ M, I xs.length ρ M → Dd.nx ρ M) : forD g b (xs.map inj) Dd ρ M := by
  refine forD_inv inj xs (fun r ρ M => r.length ≤ xs.length ∧ I (xs.length - r.length) ρ M) ρ M (fun a r ρ M Kn ⟨pre, e⟩ ⟨_, i⟩ k => ?_) ⟨Nat.le_refl _, by rw [Nat.sub_self]; exact i0⟩ (fun ρ M ⟨_, i⟩ => hE ρ M i)
  have hl : xs.length = pre.length + (r.length + 1) := by rw [e]; simp
  refine hS (xs.length - (r.length + 1)) a ρ M Kn ?_ i (fun ρ' M' i' => k ρ' M' ⟨by omega, ?_⟩)
  · have : xs.length - (r.length + 1) = pre.length := by omega
    rw [this, e]; simp
  · have : xs.length - r.length = xs.length - (r.length + 1) + 1 := by omega
    rw [this]; exact i'
theorem rangeD_map (lo hi : Int) : rangeD lo hi = ((List.range (hi - lo).toNat).map fun (k : Nat) => lo + (k : Int)).map D.int := by
  unfold rangeD
  rw [List.map_map]
  rfl
theorem rangeD_n (n : Nat) : rangeD 0 (n : Int) = (List.range n).map fun (k : Nat) => D.int (k : Int) := by
  unfold rangeD
  simp
/-! ## isinstance -/
def kok (d : D) : Bool := (tyName d).isSome
def isBl : D → Bool | .bl _ => true | _ => false
def isInt : D → Bool | .int _ => true | _ => false
def isStr : D → Bool | .str _ => true | _ => false
def isTup : D → Bool | .tup _ => true | _ => false
def isLst : D → Bool | .lst _ => true | _ => false
theorem isi_int {d : D} (h : kok d = true) : isiD d "int" = some (isInt d || isBl d) := by
  cases d <;> first | (cases h; done) | (decide +kernel) | rfl
theorem isi_bool {d : D} (h : kok d = true) : isiD d "bool" = some (isBl d) := by
  cases d <;> first | (cases h; done) | (decide +kernel) | rfl
theorem isi_str {d : D} (h : kok d = true) : isiD d "str" = some (isStr d) := by
  cases d <;> first | (cases h; done) | (decide +kernel) | rfl
theorem isi_tup {d : D} (h : kok d = true) : isiD d "tuple" = some (isTup d) := by
  cases d <;> first | (cases h; done) | (decide +kernel) | rfl
theorem isi_lst {d : D} (h : kok d = true) : isiD d "list" = some (isLst d) := by
  cases d <;> first | (cases h; done) | (decide +kernel) | rfl
theorem isiO_int {d : D} {k : D → Prop} (h : kok d = true) : isiO [d, .ty "int"] k = k (.bl (isInt d || isBl d)) := by unfold isiO; simp only [isi_int h]
theorem isiO_bool {d : D} {k : D → Prop} (h : kok d = true) : isiO [d, .ty "bool"] k = k (.bl (isBl d)) := by unfold isiO; simp only [isi_bool h]
theorem isiO_str {d : D} {k : D → Prop} (h : kok d = true) : isiO [d, .ty "str"] k = k (.bl (isStr d)) := by unfold isiO; simp only [isi_str h]
theorem isiO_tup {d : D} {k : D → Prop} (h : kok d = true) : isiO [d, .ty "tuple"] k = k (.bl (isTup d)) := by unfold isiO; simp only [isi_tup h]
theorem isiO_lst {d : D} {k : D → Prop} (h : kok d = true) : isiO [d, .ty "list"] k = k (.bl (isLst d)) := by unfold isiO; simp only [isi_lst h]
/-! ## texts -/
theorem cnt_count (c : Nat) : ∀ l : List Nat, cnt c l = (l.count c : Int)
  | [] => rfl
  | n :: r => by
    rw [cnt_cons, cnt_count c r, List.count_cons]
    by_cases h : n = c
    · subst h; simp; omega
    · simp [h]
theorem count_one (z : Str) (c : Nat) : Txt.count z ⟨#[c]⟩ = ((tl z).count c : Int) := by
  rw [count_cnt, cnt_count]
theorem blsOf_map {α : Type} (f : α → Bool) : ∀ xs : List α, blsOf (xs.map fun a => D.bl (f a)) = some (xs.map f)
  | [] => rfl
  | a :: r => by rw [List.map_cons, blsOf, blsOf_map f r]; rfl
theorem strsOf_map : ∀ xs : List Str, strsOf (xs.map D.str) = some xs
  | [] => rfl
  | a :: r => by rw [List.map_cons, strsOf, strsOf_map r]; rfl
theorem flat_strs : ∀ xs : List Str, (xs.map D.str).all flatD = true
  | [] => rfl
  | a :: r => by rw [List.map_cons, List.all_cons, flat_strs r]; rfl
theorem isPys_all : ∀ (xs : List D), (∀ d ∈ xs, isPy d = true) → isPys xs = true
  | [], _ => rfl
  | d :: r, h => by
    show (isPy d && isPys r) = true
    rw [h d List.mem_cons_self, isPys_all r fun e he => h e (List.mem_cons_of_mem _ he)]
    rfl
theorem deps_le {n : Nat} : ∀ (xs : List D), (∀ d ∈ xs, dep d ≤ n) → deps xs ≤ n
  | [], _ => Nat.zero_le _
  | d :: r, h => Nat.max_le.mpr ⟨h d List.mem_cons_self, deps_le r fun e he => h e (List.mem_cons_of_mem _ he)⟩
theorem eqv_str (x y : Str) : eqvD (.str x) (.str y) = (x == y) := rfl
theorem inD_strs (x : Str) (xs : List Str) : inD (.str x) (xs.map D.str) = decide (x ∈ xs) := by
  unfold inD
  rw [List.any_map]
  induction xs with
  | nil => rfl
  | cons a r ih =>
    rw [List.any_cons, ih]
    show ((a == x) || _) = _
    by_cases h : a = x
    · subst h; simp
    · have h' : ¬ x = a := fun e => h e.symm
      simp [h, h']
theorem atI_nat {α : Type} (xs : List α) (k : Nat) : atI xs (k : Int) = xs[k]? := by
  unfold atI ixN
  rw [if_pos (Int.natCast_nonneg k)]
  by_cases h : k < xs.length
  · rw [if_pos (by omega)]; simp
  · rw [if_neg (by omega), List.getElem?_eq_none (by omega)]; rfl
theorem str_eq {x y : Str} (h : tl x = tl y) : x = y := ext_tl h
theorem tl_app (x y : Str) : tl (x ++ y) = tl x ++ tl y := by
  show (x.cps ++ y.cps).toList = _
  rw [Array.toList_append]
theorem len_app (x y : Str) : (x ++ y).length = x.length + y.length := by rw [len_tl, len_tl, len_tl, tl_app, List.length_append]
end DL
namespace DL
open PySem PySem.Spec PyProof.Rows L2 TL
def ltSO : Op2 := fun x y k => match x, y with
  | .str i, .str j => k (.bl (decide (tl i < tl j)))
  | _, _ => False
theorem sr_ltS {K : PySem.W.Frag} : SemR K (fun x y H Q => ∃ i j : Str, x = .str i ∧ y = .str j ∧ Q (.bl (decide (i.cps.toList < j.cps.toList))) H) ltSO := fun F Hs M σ H ρ x y dx dy Q Qd S rx ry k q => by
  unfold ltSO at q
  split at q
  · cases rx; cases ry
    exact ⟨_, _, rfl, rfl, k _ H Hs _ (Ext.refl _) S (.bl _) q⟩
  · exact q.elim
end DL
namespace DL
def un1 : Sl → Sl
  | .own _ => .no
  | x => x
theorem unown_nil : unown [] = [] := rfl
theorem unown_cons (b : Sl) (r : List Sl) : unown (b :: r) = un1 b :: unown r := by cases b <;> rfl
end DL

namespace DL
open PySem PySem.Spec PyProof.Rows L2 TL
/-! ## the purse -/
section
variable {K : PySem.W.Frag} {F Hs : Hp} {M : Mem} {σ : L2.St} {H : Hp} {ρ : List Sl}
theorem Sta.mutM (S : Sta K F Hs M σ H ρ) {p : Addr} {m : MO} {vs : List V} (h : M p = some m) (r : MRep K (upd H p (.lst vs)) Hs p m) : Sta K F Hs M σ (upd H p (.lst vs)) ρ := by
  obtain ⟨_, n1, n2⟩ := S.me p m h
  refine ⟨fun a u e => ?_, fun a u e => ?_, S.dj, fun a m' e => ?_, S.ln, S.vl, fun i ds e => ?_⟩
  · rw [upd_ne (fun z => by rw [z, n1] at e; cases e)]; exact S.hs a u e
  · rw [upd_ne (fun z => by rw [z, n2] at e; cases e)]; exact S.fr a u e
  · obtain ⟨m1, m2, m3⟩ := S.me a m' e
    by_cases q : a = p
    · subst q
      rw [h] at e; cases e
      exact ⟨r, m2, m3⟩
    · exact ⟨m1.mono (Ext.refl _) fun w z => by rw [upd_ne q]; exact z, m2, m3⟩
  · obtain ⟨a, ws, q1, q2, q3, q4, q5, q6, q7, q8⟩ := S.ow i ds e
    have ne : a ≠ p := fun z => by rw [z, h] at q7; cases q7
    exact ⟨a, ws, q1, by rw [upd_ne ne]; exact q2, q3, q4, q5, q6, q7, q8⟩
def updM (M : Mem) (p : Addr) (m : MO) : Mem := fun a => if a = p then some m else M a
theorem updM_same {M : Mem} {p : Addr} {m : MO} : updM M p m p = some m := if_pos rfl
theorem updM_ne {M : Mem} {p a : Addr} {m : MO} (h : a ≠ p) : updM M p m a = M a := if_neg h
theorem Sta.newM (S : Sta K F Hs M σ H ρ) {p : Addr} {m : MO} (r : MRep K H Hs p m) (n1 : Hs p = none) (n2 : F p = none) (un : ∀ (j : Nat) (es : List D), ρ[j]? = some (Sl.own es) → σ[j]? ≠ some (some (V.ref p))) : Sta K F Hs (updM M p m) σ H ρ := by
  refine ⟨S.hs, S.fr, S.dj, fun a m' e => ?_, S.ln, S.vl, fun i ds e => ?_⟩
  · by_cases q : a = p
    · subst q
      rw [updM_same] at e; cases e
      exact ⟨r, n1, n2⟩
    · rw [updM_ne q] at e
      exact S.me a m' e
  · obtain ⟨a, ws, q1, q2, q3, q4, q5, q6, q7, q8⟩ := S.ow i ds e
    have ne : a ≠ p := fun z => by subst z; exact un i ds e q1
    exact ⟨a, ws, q1, q2, q3, q4, q5, q6, by rw [updM_ne ne]; exact q7, q8⟩
end
def purV (i v : Int) : Prop := (i = 0 ∧ 0 ≤ v ∧ v.toNat < purseB) ∨ (i = 1 ∧ 0 ≤ v ∧ v < 2305843009213693951)
section
variable {X : Cx} {pos : Pos} {ta tb te : TE} {Ta Tb Te : TEd} {K : PySem.W.Frag} {tr : TA} {R : TAd}
def purO (M : Mem) : Op2 := fun x y k => match x, y with
  | .ref p, .int i => M p = some .purse ∧ (i = 0 ∨ i = 1) ∧ ∀ v, purV i v → k (.int v)
  | _, _ => False
def TPur (Ta Tb : TEd) : TEd := fun ρ M Q => Ta ρ M fun x M1 => Tb ρ M1 fun y M2 => purO M2 x y fun z => Q z M2
theorem ed_pur {a b : Expr} (hK : X.K = K) (ha : ED X a ta Ta) (hb : ED X b tb Tb) (hs : PlainIx b := by intro _ _; rfl) : ED X (.Subscript a b pos) (tOp (rIx K) ta tb) (TPur Ta Tb) := by
  subst hK
  refine ⟨pe_ix ix_seq ha.pe hb.pe hs, fun F Hs M σ H ρ Q Qd S k q => ?_⟩
  refine ha.se F Hs M σ H ρ _ _ S (fun x H1 Hs1 dx M1 e1 S1 r1 q1 => ?_) q
  refine hb.se F Hs1 M1 σ H1 ρ _ _ S1 (fun y H2 Hs2 dy M2 e2 S2 r2 q2 => ?_) q1
  unfold purO at q2
  split at q2
  · rename_i p i
    obtain ⟨hm, hi, q2⟩ := q2
    cases r1
    cases r2
    obtain ⟨⟨x, y, hp, x0, x1, y0, y1⟩, _, _⟩ := S2.me p _ hm
    rcases hi with rfl | rfl
    · exact .inl ⟨p, [.int x, .int y], 0, .int x, rfl, rfl, SqL.of hp, rfl, k _ H2 Hs2 _ M2 (e1.trans e2) S2 (.int x) (q2 x (.inl ⟨rfl, x0, x1⟩))⟩
    · exact .inl ⟨p, [.int x, .int y], 1, .int y, rfl, rfl, SqL.of hp, rfl, k _ H2 Hs2 _ M2 (e1.trans e2) S2 (.int y) (q2 y (.inr ⟨rfl, y0, y1⟩))⟩
  · exact q2.elim
def GPur (Ta Tb : TEd) : TGd := fun d ρ M Q => Ta ρ M fun x M1 => Tb ρ M1 fun y M2 => match x, y, d with
  | .ref p, .int i, .int v => M2 p = some .purse ∧ purV i v ∧ Q ρ M2
  | _, _, _ => False
theorem gd_pur {a b : Expr} (ha : ED X a ta Ta) (hb : ED X b tb Tb)
    (hs : ∀ v, assign (.Subscript a b pos) X.env v = (do
      let ov ← holding [v] (eval a X.env)
      let iv ← holding [v, ov] (eval b X.env)
      standAt pos
      holding [v, ov, iv] (setItem ov iv v)
      release [v, ov, iv] []) := by intro _; rfl) : GD X (.Subscript a b pos) (gSub ta tb rSetL) (GPur Ta Tb) :=
  ⟨pg_sub ha.pe hb.pe set_list hs, fun F Hs M σ H ρ v d Q Qd S r k q => by
    refine ha.se F Hs M σ H ρ _ _ S (fun x H1 Hs1 dx M1 e1 S1 r1 q1 => ?_) q
    refine hb.se F Hs1 M1 σ H1 ρ _ _ S1 (fun y H2 Hs2 dy M2 e2 S2 r2 q2 => ?_) q1
    split at q2
    · rename_i p i w
      obtain ⟨hm, hv, q2⟩ := q2
      cases r1
      cases r2
      cases r
      obtain ⟨⟨x, y, hp, x0, x1, y0, y1⟩, _, _⟩ := S2.me p _ hm
      rcases hv with ⟨rfl, v0, v1⟩ | ⟨rfl, v0, v1⟩
      · exact ⟨p, [.int x, .int y], 0, 0, rfl, rfl, hp, rfl, k σ _ Hs2 ρ M2 (e1.trans e2) (S2.mutM hm ⟨w, y, upd_same, v0, v1, y0, y1⟩) q2⟩
      · exact ⟨p, [.int x, .int y], 1, 1, rfl, rfl, hp, rfl, k σ _ Hs2 ρ M2 (e1.trans e2) (S2.mutM hm ⟨x, w, upd_same, x0, x1, v0, v1⟩) q2⟩
    · exact q2.elim⟩
/-- return [a, b], a new purse -/
def TRetP (R : TAd) : TSd := fun Dd ρ M => R ρ M fun ds M1 => match ds with
  | [.int x, .int y] => (0 ≤ x ∧ x.toNat < purseB ∧ 0 ≤ y ∧ y < 2305843009213693951) ∧ ∀ p, M1 p = none → Dd.rt (.ref p) (updM M1 p .purse)
  | _ => False
theorem sd_retP {e : Expr} {te : TE} (h : FD X e te R) : SD X (.Return (some e) pos) (tRet te) (TRetP R) := ⟨ps_ret h.pe, fun F Hs M σ H ρ Dh Dd S k q => h.se F Hs M σ H ρ _ _ S (fun a vs H1 Hs1 ds M1 e1 S1 h1 hl r1 n1 n2 n3 un q1 => by
  split at q1
  · rename_i x y
    obtain ⟨⟨x0, x1, y0, y1⟩, q1⟩ := q1
    cases r1 with
    | cons ha t =>
      cases t with
      | cons hb t =>
        cases t
        cases ha
        cases hb
        have S2 := S1.newM (p := a) (m := .purse) ⟨x, y, h1, x0, x1, y0, y1⟩ n1 n2 un
        exact k.rt _ H1 Hs1 _ _ e1 S2.drop (.ref a) (q1 a n3)
  · exact q1.elim) q⟩
end
end DL

namespace DL
open PySem PySem.Spec PyProof.Rows L2 TL
/-- a law's end over a head by facts, with the script's bits told -/
theorem walk_ofEB {l : PySem.W.OpenLaw} {n k : Nat} {q : Program} {loose : List Str} {XP : (Str → Option Value) → Heap → Prop} {YP : World → Heap → Prop} {d : DefRec} {CX : CXT} {x : Str}
    (hn : l.most = some n) (hn2 : n ≤ sizeLine) (hdf : d.params.defaults = []) (hr : Room k callerA)
    (F : ∀ (w : World) (mg : Str → Option Value) (fa : Addr) (h : Heap), YP w h → h.Ns mainGlobals mg → mg d.name = some (.ref fa) →
      ∃ (K : PySem.W.Frag) (fd : FuncData) (sp : Sp), K.In h ∧ (∀ (s : Shared) (u : Value), BindsTo s fd ⟨[u], []⟩ [(x, u)]) ∧
        (∀ (H : Hp) (a : Addr) (ns : List Int), ns.length ≤ n → (∀ z ∈ ns, Builtin.Int.intBits z ≤ 1048576) → Only H → SqL K H a (ns.map V.int) → sp [.ref a] H (fun v _ => v = .bl true) fun _ _ _ => False) ∧
        ∀ base : Heap, K.In base → base.Ns mainGlobals mg → FnOk l.prog w K mg base CX k fa fd [x] sp)
    (hCX : ∀ (H : Hp) (s : Shared) (e : Value) (s' : Shared), CX [] H s (fun _ _ _ => False) e s' → False) :
    PySem.W.WalkO q loose XP YP l.row.toRowW d [] (fun f vs => PySem.call f vs) := by
  refine Att.attach_callB hn hdf fun w s₀ s₁ mg mb fa o pm cd doc a vs ns G Y ho hd hcd hmg hobj hints hlen hbits hg => ?_
  obtain ⟨K, fd, sp, KX, hb, hsp, hF⟩ := F w mg fa _ Y G.T.g hmg
  exact law_call KX G.T.g G.T.b G.T.builtins G.T.nolimit hg hobj hints (Nat.le_trans hlen hn2) hr hF hb (fun H hO hS => hsp H a ns hlen hbits hO hS) fun H e s' => hCX H s₁ e s'
theorem law_sp {K : PySem.W.Frag} {H : Hp} {a : Addr} {ns : List Int} {E : XK} {fsp : SpD} (hS : SqL K H a (ns.map V.int)) (hl : ns.length ≤ 63) (hf : fsp [.fzl (ns.map D.int)] (fun _ => none) (fun d _ => d = .bl true)) : spOf K fsp [.ref a] H (fun v _ => v = .bl true) E :=
  ⟨fun _ => none, H, fun _ => none, [.fzl (ns.map D.int)], fun d _ => d = .bl true,
    ⟨fun _ _ e => e, fun _ _ e => (nomatch e), fun _ _ e => (nomatch e), fun _ _ e => (nomatch e), rfl, fun i d e => (by simp at e), fun i d e => (by simp at e)⟩,
    .cons (.fzl hS (by rw [List.length_map]; omega) (Reps.ints ns)) .nil, hf, fun v H' Hs' d M' e S r q => by
      subst q
      cases r
      rfl⟩
theorem wdic_of {K : PySem.W.Frag} {w : World} {a : Addr} (vs : List (Str × Int)) (hk : He.dicW K a = some (He.keysIn w.params (vs.map (·.1)))) (hv : He.valsB K a (vs.map fun p => (p.1, .int p.2)) = true) : WDic K w a (vs.map fun p => (p.1, D.int p.2)) := by
  refine ⟨by rw [hk, List.map_map]; rfl, fun x d h => ?_⟩
  have : ∃ i, (x, i) ∈ vs ∧ d = .int i := by
    clear hk hv
    induction vs with
    | nil => cases h
    | cons p r ih =>
      rw [List.map_cons, List.lookup_cons] at h
      split at h
      · rename_i e
        cases h
        have e : x = p.1 := by simpa using e
        exact ⟨p.2, by rw [e]; exact List.mem_cons_self, rfl⟩
      · obtain ⟨i, h1, h2⟩ := ih h
        exact ⟨i, List.mem_cons_of_mem _ h1, h2⟩
  obtain ⟨i, hi, rfl⟩ := this
  obtain ⟨u, h1, h2⟩ := He.valsB_ok hv (List.mem_map.mpr ⟨(x, i), hi, rfl⟩)
  exact ⟨u, .int i, h1, h2, fun _ => .int i⟩
theorem tab_at {fa : List He.Fa} {fn : List He.DefD} {ts : List He.Tab} {w : World} {K : PySem.W.Frag} (c : He.SaysT fa fn ts w K) (i : Nat) {t : He.Tab} (h : ts[i]? = some t := by rfl) : He.dicW K (t.1 K) = some (He.keysIn w.params t.2) := by
  have e : ts.map (fun t => He.dicW K (t.1 K)) = ts.map fun t => some (He.keysIn w.params t.2) := congrArg (fun z : He.AlT => z.2) c
  have e2 : (ts.map fun t => He.dicW K (t.1 K))[i]? = (ts.map fun t => some (He.keysIn w.params t.2))[i]? := by rw [e]
  rw [List.getElem?_map, List.getElem?_map, h] at e2
  exact Option.some.inj e2
theorem rep_strs {K : PySem.W.Frag} {H : Hp} {a : Addr} {xs : List Str} (h : SqT K H a (xs.map V.str)) (hl : xs.length ≤ 16777216) (ho : ∀ x ∈ xs, okS x = true) : Rep K H (.ref a) (.tup (xs.map D.str)) := .tup h (by rw [List.length_map]; exact hl) (reps_strs ho)
end DL

namespace DL
open PySem PySem.Spec PyProof.Rows L2 TL
/-! ## comprehensions with two fors -/
def NoOwn (ρ : List Sl) : Prop := ∀ (j : Nat) (d : List D), ρ[j]? ≠ some (Sl.own d)
theorem noOwn_unown (ρ : List Sl) : NoOwn (unown ρ) := fun j d h => unown_own h
theorem noOwn_wipe {ρ : List Sl} (h : NoOwn ρ) : ∀ vs : List Nat, NoOwn (wipeD ρ vs)
  | [] => h
  | v :: vs => fun j d e => by
    unfold wipeD at e
    by_cases hv : v = j
    · subst hv
      rw [List.getElem?_set] at e
      simp only [if_true] at e
      split at e <;> cases e
    · rw [List.getElem?_set_ne hv] at e
      exact noOwn_wipe h vs j d e
section
variable {K : PySem.W.Frag} {F F6 Hs Hs6 : Hp} {M M6 : Mem} {σ σ6 : L2.St} {H H6 : Hp} {ρ ρ6 : List Sl}
theorem Sta.back (S : Sta K F Hs M σ H ρ) (no : NoOwn ρ) (S6 : Sta K F6 Hs6 M6 σ6 H6 ρ6) (x : Ext Hs Hs6) : Sta K F6 Hs6 M6 σ H6 ρ :=
  ⟨S6.hs, S6.fr, S6.dj, S6.me, S.ln, fun j d e => let ⟨v, p1, p2⟩ := S.vl j d e; ⟨v, p1, p2.mono x⟩, fun j d e => (no j d e).elim⟩
theorem Sta.unown (S : Sta K F Hs M σ H ρ) : Sta K F Hs M σ H (unown ρ) :=
  ⟨S.hs, S.fr, S.dj, S.me, by rw [unown_len]; exact S.ln, fun i d e => S.vl i d (unown_val e), fun i d e => (unown_own e).elim⟩
end
section
variable {K : PySem.W.Frag} {wi1 : TI} {T1 : TId} {g1 : TG} {G1 : TGd} {tt1 : TT} {Tt1 : TTd} {te : TE} {Te : TEd} {vs1 : List Nat}
/-- the inner for of a comprehension, p: the list that is being made -/
theorem inner_for {Fr : Hp} {p : Addr} (hi : SemI K wi1 T1) (hg : SemG K g1 G1) (go : GO g1 vs1) (ht : SemT K tt1 Tt1) (he : SemE K te Te) {Hs : Hp} {M : Mem} {σ : L2.St} {H : Hp} {ρ : List Sl} {acc : List V} {done : List D} {Nx : Hp → Prop} {Qd : List D → Mem → Prop}
    (S : Sta K (upd Fr p (.lst acc)) Hs M σ H ρ) (r : Reps K Hs acc done) (hd : done.length + 4095 ≤ 16777215)
    (q : T1 ρ M fun ds M1 => ds.length ≤ 4095 ∧ lcD G1 Tt1 Te ds (wipeD (unown ρ) vs1) M1 Qd)
    (k : ∀ (H' Hs' : Hp) (M' : Mem) (acc' : List V) (ys : List D), Ext Hs Hs' → Sta K (upd Fr p (.lst acc')) Hs' M' (wipe σ vs1) H' (wipeD (unown ρ) vs1) → Reps K Hs' acc' (done ++ ys) → ys.length ≤ 4095 → Qd ys M' → Nx H') :
    wi1 σ H fun J1 H4 => ∃ W1 : Nat → Nat → Hp → Prop, (∃ m, W1 0 m H4) ∧ ∀ j k H, W1 j k H →
      (J1.stop j H ∧ Nx H) ∨ (J1.go j H ∧ ∃ Nx1 : Hp → Prop, (∀ H', Nx1 H' → ∃ k', k' < k ∧ W1 (j + 1) k' H') ∧ ∀ x H', J1.yld j H x H' → g1 x (wipe σ vs1) H' fun σ3 H5 => wipe σ3 vs1 = wipe σ vs1 ∧ tt1 σ3 H5 fun b H6 =>
        if b = true then te σ3 H6 fun y H7 => ∃ acc, H7 p = some (.lst acc) ∧ acc.length < sizeLine ∧ Nx1 (upd H7 p (.lst (acc ++ [y]))) else Nx1 H6) := by
  refine hi _ Hs M σ H ρ _ _ S (fun J H1 Hs1 ds M1 e1 S1 y1 ⟨hlen, q1⟩ => ?_) q
  have nw := noOwn_wipe (noOwn_unown ρ) vs1
  have SA := (S1.unown).wipe vs1
  let Inv1 : Nat → Hp → Prop := fun i H => ∃ (Hs' : Hp) (M' : Mem) (acc' : List V) (ys : List D), Ext Hs1 Hs' ∧ Sta K (upd Fr p (.lst acc')) Hs' M' (wipe σ vs1) H (wipeD (unown ρ) vs1) ∧ Reps K Hs' acc' (done ++ ys) ∧ ys.length ≤ i ∧
      lcD G1 Tt1 Te (ds.drop i) (wipeD (unown ρ) vs1) M' (fun zs M5 => Qd (ys ++ zs) M5)
  refine ⟨fun i m H => m = ds.length - i ∧ i ≤ ds.length ∧ Inv1 i H, ⟨ds.length, by omega, Nat.zero_le _, Hs1, M1, acc, [], Ext.refl _, SA, by rw [List.append_nil]; exact r.mono e1, by simp, by simpa using q1⟩, ?_⟩
  rintro i m H2 ⟨rfl, hil, Hs2, M2, acc2, ys, e2, S2, r2, hy2, q2⟩
  obtain ⟨y2, y3⟩ := y1 _ Hs2 M2 _ H2 _ i e2 S2
  by_cases hlt : i < ds.length
  · obtain ⟨go', yl⟩ := y2 _ (List.getElem?_eq_getElem hlt)
    rw [List.drop_eq_getElem_cons hlt] at q2
    refine .inr ⟨go', Inv1 (i + 1), fun H' h => ⟨ds.length - (i + 1), by omega, rfl, hlt, h⟩, fun x H3 hyd => ?_⟩
    obtain ⟨Hs3, e3, S3, r3⟩ := yl x H3 hyd
    have base := hg _ Hs3 M2 _ H3 _ x _ (fun σ4 H4 => tt1 σ4 H4 fun b H5 => if b = true then te σ4 H5 fun y H6 => ∃ acc, H6 p = some (.lst acc) ∧ acc.length < sizeLine ∧ Inv1 (i + 1) (upd H6 p (.lst (acc ++ [y]))) else Inv1 (i + 1) H5) _ S3 r3 (fun σ4 H4 Hs4 ρ4 M4 e4 S4 q4 => ?_) q2
    · exact go.m _ _ _ _ _ (fun σ4 H4 ⟨ew, q⟩ => ⟨ew.trans (wipe_wipe σ vs1), q⟩) (go.w _ _ _ _ base)
    · refine ht _ Hs4 M4 σ4 H4 ρ4 _ _ S4 (fun b H5 Hs5 M5 e5 S5 q5 => ?_) q4
      cases b with
      | true =>
        rw [if_pos rfl]
        refine he _ Hs5 M5 σ4 H5 ρ4 _ _ S5 (fun y H6 Hs6 d M6 e6 S6 r6 q6 => ?_) q5
        have x36 := (e4.trans e5).trans e6
        have hl := r2.length
        have S7 := (S3.back nw S6 x36).mutF (o' := .lst (acc2 ++ [y])) (p := p) upd_same
        rw [upd_upd] at S7
        rw [List.length_append] at hl
        refine ⟨acc2, S6.fr p _ upd_same, by rw [line_eq]; omega, Hs6, M6, acc2 ++ [y], ys ++ [d], (e2.trans e3).trans x36, S7, ?_, by simp; omega, ?_⟩
        · rw [← List.append_assoc]
          exact (r2.mono (e3.trans x36)).append (.one r6)
        · simpa [List.append_assoc] using q6
      | false =>
        rw [if_neg Bool.false_ne_true]
        have x35 := e4.trans e5
        exact ⟨Hs5, M5, acc2, ys, (e2.trans e3).trans x35, S3.back nw S5 x35, r2.mono (e3.trans x35), by omega, q5⟩
  · have e : i = ds.length := by omega
    subst e
    rw [List.drop_length] at q2
    exact .inl ⟨y3 (Nat.le_refl _), k H2 Hs2 M2 acc2 ys (e1.trans e2) S2 r2 (by omega) (by have q3 : Qd (ys ++ []) M2 := q2; simpa using q3)⟩
end
def lc2D (g : TGd) (c : TTd) (it1 : TId) (g1 : TGd) (c1 : TTd) (e : TEd) (vs1 : List Nat) : List D → List Sl → Mem → (List D → Mem → Prop) → Prop
  | [], _, M, Q => Q [] M
  | d :: r, ρ, M, Q => g d ρ M fun ρ2 M2 => c ρ2 M2 fun b M3 => match b with
    | true => it1 ρ2 M3 fun ds M4 => ds.length ≤ 4095 ∧ lcD g1 c1 e ds (wipeD (unown ρ2) vs1) M4 fun ys M5 => lc2D g c it1 g1 c1 e vs1 r ρ M5 fun zs M6 => Q (ys ++ zs) M6
    | false => lc2D g c it1 g1 c1 e vs1 r ρ M3 Q
def TLc2F (it : TId) (g : TGd) (c : TTd) (it1 : TId) (g1 : TGd) (c1 : TTd) (e : TEd) (vs vs1 : List Nat) : TAd := fun ρ M Q => it ρ M fun ds M1 => ds.length ≤ 4095 ∧ lc2D g c it1 g1 c1 e vs1 ds (wipeD (unown ρ) vs) M1 Q
def TLc2 (it : TId) (g : TGd) (c : TTd) (it1 : TId) (g1 : TGd) (c1 : TTd) (e : TEd) (vs vs1 : List Nat) : TEd := fun ρ M Q => TLc2F it g c it1 g1 c1 e vs vs1 ρ M fun ds M1 => Q (.lst ds) M1
theorem sem_lc2F {K : PySem.W.Frag} {wi wi1 : TI} {T T1 : TId} {g g1 : TG} {G G1 : TGd} {tt tt1 : TT} {Tt Tt1 : TTd} {te : TE} {Te : TEd} {vs vs1 : List Nat} (hi : SemI K wi T) (hg : SemG K g G) (go : GO g vs) (ht : SemT K tt Tt) (hi1 : SemI K wi1 T1) (hg1 : SemG K g1 G1) (go1 : GO g1 vs1) (ht1 : SemT K tt1 Tt1) (he : SemE K te Te) :
    SemF K (tLc2 wi g tt wi1 g1 tt1 te vs vs1) (TLc2F T G Tt T1 G1 Tt1 Te vs vs1) := fun F Hs M σ H ρ Q Qd S k q =>
  hi F Hs M σ H ρ _ _ S (fun J H1 Hs1 ds M1 e1 S1 y1 ⟨hlen, q1⟩ => by
    intro p np
    obtain ⟨np1, np2, np3⟩ := S1.fresh np
    have U := own_ne S1 np
    have SA := (S1.enframe.allocF np (.lst [])).wipe vs
    have nw := noOwn_wipe (noOwn_unown ρ) vs
    let Iv : Nat → Hp → Prop := fun i H => ∃ (Hs' : Hp) (M' : Mem) (acc : List V) (done : List D), Ext Hs1 Hs' ∧ Sta K (upd (cfr Hs1 M1 H1) p (.lst acc)) Hs' M' (wipe σ vs) H (wipeD (unown ρ) vs) ∧ Reps K Hs' acc done ∧ done.length ≤ i * 4095 ∧
      lc2D G Tt T1 G1 Tt1 Te vs1 (ds.drop i) (wipeD (unown ρ) vs) M' (fun ys M5 => Qd (done ++ ys) M5)
    refine ⟨fun i m H => m = ds.length - i ∧ i ≤ ds.length ∧ Iv i H, ⟨ds.length, by omega, Nat.zero_le _, Hs1, M1, [], [], Ext.refl _, SA, .nil, by simp, by simpa using q1⟩, ?_⟩
    rintro i m H2 ⟨rfl, hil, Hs2, M2, acc, done, e2, S2, r2, hd2, q2⟩
    obtain ⟨y2, y3⟩ := y1 _ Hs2 M2 _ H2 _ i e2 S2
    by_cases hlt : i < ds.length
    · obtain ⟨go', yl⟩ := y2 _ (List.getElem?_eq_getElem hlt)
      rw [List.drop_eq_getElem_cons hlt] at q2
      refine .inr ⟨go', Iv (i + 1), fun H' h => ⟨ds.length - (i + 1), by omega, rfl, hlt, h⟩, fun x H3 hy => ?_⟩
      obtain ⟨Hs3, e3, S3, r3⟩ := yl x H3 hy
      have base := hg _ Hs3 M2 _ H3 _ x _ (fun σ4 H4 => tt σ4 H4 fun b H5 => if b = true then wi1 σ4 H5 fun J1 H4 => ∃ W1 : Nat → Nat → Hp → Prop, (∃ m, W1 0 m H4) ∧ ∀ j k H, W1 j k H →
        (J1.stop j H ∧ Iv (i + 1) H) ∨ (J1.go j H ∧ ∃ Nx1 : Hp → Prop, (∀ H', Nx1 H' → ∃ k', k' < k ∧ W1 (j + 1) k' H') ∧ ∀ x H', J1.yld j H x H' → g1 x (wipe σ4 vs1) H' fun σ3 H5 => wipe σ3 vs1 = wipe σ4 vs1 ∧ tt1 σ3 H5 fun b H6 =>
          if b = true then te σ3 H6 fun y H7 => ∃ acc, H7 p = some (.lst acc) ∧ acc.length < sizeLine ∧ Nx1 (upd H7 p (.lst (acc ++ [y]))) else Nx1 H6) else Iv (i + 1) H5) _ S3 r3 (fun σ4 H4 Hs4 ρ4 M4 e4 S4 q4 => ?_) q2
      · exact go.m _ _ _ _ _ (fun σ4 H4 ⟨ew, q⟩ => ⟨ew.trans (wipe_wipe σ vs), q⟩) (go.w _ _ _ _ base)
      · refine ht _ Hs4 M4 σ4 H4 ρ4 _ _ S4 (fun b H5 Hs5 M5 e5 S5 q5 => ?_) q4
        have x35 := e4.trans e5
        cases b with
        | true =>
          rw [if_pos rfl]
          have hb : i * 4095 + 4095 ≤ 16777215 := by omega
          refine inner_for hi1 hg1 go1 ht1 he S5 (r2.mono (e3.trans x35)) (by omega) q5 fun H' Hs' M' acc' ys x S' r' hy' q' => ?_
          exact ⟨Hs', M', acc', done ++ ys, ((e2.trans e3).trans x35).trans x, S3.back nw S' (x35.trans x), r', by rw [List.length_append, Nat.succ_mul]; omega, by simpa [List.append_assoc] using q'⟩
        | false =>
          rw [if_neg Bool.false_ne_true]
          exact ⟨Hs5, M5, acc, done, (e2.trans e3).trans x35, S3.back nw S5 x35, r2.mono (e3.trans x35), by rw [Nat.succ_mul]; omega, q5⟩
    · have e : i = ds.length := by omega
      subst e
      rw [List.drop_length] at q2
      refine .inl ⟨y3 (Nat.le_refl _), ?_⟩
      have hp : H2 p = some (.lst acc) := S2.fr p _ upd_same
      have n1 : Hs2 p = none := S2.dj p _ upd_same
      have n3 : M2 p = none := by
        cases q : M2 p with
        | none => rfl
        | some m =>
          have := (S2.me p m q).2.2
          rw [upd_same] at this; cases this
      have c0 : cfr Hs1 M1 H1 p = none := by rw [cfr_of np1 np3]; exact np
      have S3 : Sta K (cfr Hs1 M1 H1) Hs2 M2 (wipe σ vs) H2 (wipeD (unown ρ) vs) := by
        have ne : ∀ a o, cfr Hs1 M1 H1 a = some o → a ≠ p := fun a o e z => by rw [z, c0] at e; cases e
        refine ⟨S2.hs, fun a o e => S2.fr a o (by rw [upd_ne (ne a o e)]; exact e), fun a o e => S2.dj a o (by rw [upd_ne (ne a o e)]; exact e), fun a m e => ?_, S2.ln, S2.vl, fun j d e => (nw j d e).elim⟩
        obtain ⟨m1, m2, m3⟩ := S2.me a m e
        refine ⟨m1, m2, ?_⟩
        by_cases z : a = p
        · subst z; exact c0
        · rw [upd_ne z] at m3; exact m3
      have hl := r2.length
      have hm : ds.length * 4095 ≤ 4095 * 4095 := Nat.mul_le_mul_right _ hlen
      exact k p acc H2 Hs2 _ M2 (e1.trans e2) (S1.unframe S3 e2) hp (by omega) r2 n1 np2 n3 U (by have q3 : Qd (done ++ []) M2 := q2; simpa using q3)) q
section
variable {X : Cx} {pos : Pos} {ta tb te : TE} {Ta Tb Te : TEd} {tt tt1 : TT} {Tt Tt1 : TTd} {elt tg iter tg1 iter1 : Expr} {ifs ifs1 : List Expr} {scope : Scope} {own : List (Str × Nat)} {vs1 : List Nat} {wi wi1 : TI} {Ti Ti1 : TId} {g g1 : TG} {Gd G1 : TGd}
theorem fd_lc2 (hc : X.calm = true) (hN : X.N.Nodup) (hi : ID X tg iter wi Ti) (ok : BlkOk X.N X.env.scope scope own) (hv : ∀ i ∈ vs1, i ∈ own.map (·.2)) (go : GO g (own.map (·.2))) (go1 : GO g1 vs1)
    (hg : Blk X scope fun Y => GD Y tg g Gd) (ht : Blk X scope fun Y => PTD Y ifs tt Tt) (hi1 : Blk X scope fun Y => ID Y tg1 iter1 wi1 Ti1) (hg1 : Blk X scope fun Y => GD Y tg1 g1 G1) (ht1 : Blk X scope fun Y => PTD Y ifs1 tt1 Tt1) (he : Blk X scope fun Y => ED Y elt te Te)
    (hs : ∀ x, foldedSetIterable iter X.env x = pure x := by intro _; rfl) (hs1 : ∀ env x, foldedSetIterable iter1 env x = pure x := by intro _ _; rfl) :
    FD X (.ListComp elt [⟨tg, iter, ifs, 0⟩, ⟨tg1, iter1, ifs1, 0⟩] scope pos) (tLc2 wi g tt wi1 g1 tt1 te (own.map (·.2)) vs1) (TLc2F Ti Gd Tt Ti1 G1 Tt1 Te (own.map (·.2)) vs1) :=
  ⟨pe_lc2 hc hN hi.pe ok hv (fun s H C cl fp => (hg s H C cl fp).pe) (fun s H C cl fp => (ht s H C cl fp).pe) (fun s H C cl fp => (hi1 s H C cl fp).pe) (fun s H C cl fp => (hg1 s H C cl fp).pe) (fun s H C cl fp => (ht1 s H C cl fp).pe) (fun s H C cl fp => (he s H C cl fp).pe) hs hs1,
   sem_lc2F hi.se (hg aShared (fun _ => none) 0 [] []).se go (ht aShared (fun _ => none) 0 [] []).se (hi1 aShared (fun _ => none) 0 [] []).se (hg1 aShared (fun _ => none) 0 [] []).se go1 (ht1 aShared (fun _ => none) 0 [] []).se (he aShared (fun _ => none) 0 [] []).se⟩
theorem ed_lc2 (hc : X.calm = true) (hN : X.N.Nodup) (hi : ID X tg iter wi Ti) (ok : BlkOk X.N X.env.scope scope own) (hv : ∀ i ∈ vs1, i ∈ own.map (·.2)) (go : GO g (own.map (·.2))) (go1 : GO g1 vs1)
    (hg : Blk X scope fun Y => GD Y tg g Gd) (ht : Blk X scope fun Y => PTD Y ifs tt Tt) (hi1 : Blk X scope fun Y => ID Y tg1 iter1 wi1 Ti1) (hg1 : Blk X scope fun Y => GD Y tg1 g1 G1) (ht1 : Blk X scope fun Y => PTD Y ifs1 tt1 Tt1) (he : Blk X scope fun Y => ED Y elt te Te)
    (hs : ∀ x, foldedSetIterable iter X.env x = pure x := by intro _; rfl) (hs1 : ∀ env x, foldedSetIterable iter1 env x = pure x := by intro _ _; rfl) :
    ED X (.ListComp elt [⟨tg, iter, ifs, 0⟩, ⟨tg1, iter1, ifs1, 0⟩] scope pos) (tLc2 wi g tt wi1 g1 tt1 te (own.map (·.2)) vs1) (TLc2 Ti Gd Tt Ti1 G1 Tt1 Te (own.map (·.2)) vs1) :=
  ⟨(fd_lc2 hc hN hi ok hv go go1 hg ht hi1 hg1 ht1 he hs hs1).pe, sem_of_F (fd_lc2 (pos := pos) hc hN hi ok hv go go1 hg ht hi1 hg1 ht1 he hs hs1).se⟩
theorem sd_setLc2 {i : Nat} {y : Str} {py spos : Pos} (hc : X.calm = true) (hN : X.N.Nodup) (hy : X.N[i]? = some y) (hyl : X.env.scope.names.lookup y = some .local) (hsw : swapsWith (.ListComp elt [⟨tg, iter, ifs, 0⟩, ⟨tg1, iter1, ifs1, 0⟩] scope pos) (some (.Name y py)) spos.line X.env = pure true)
    (hi : ID X tg iter wi Ti) (ok : BlkOk X.N X.env.scope scope own) (hv : ∀ i ∈ vs1, i ∈ own.map (·.2)) (go : GO g (own.map (·.2))) (go1 : GO g1 vs1)
    (hg : Blk X scope fun Y => GD Y tg g Gd) (ht : Blk X scope fun Y => PTD Y ifs tt Tt) (hi1 : Blk X scope fun Y => ID Y tg1 iter1 wi1 Ti1) (hg1 : Blk X scope fun Y => GD Y tg1 g1 G1) (ht1 : Blk X scope fun Y => PTD Y ifs1 tt1 Tt1) (he : Blk X scope fun Y => ED Y elt te Te)
    (hs : ∀ x, foldedSetIterable iter X.env x = pure x := by intro _; rfl) (hs1 : ∀ env x, foldedSetIterable iter1 env x = pure x := by intro _ _; rfl) :
    SD X (.Assign [.Name y py] (.ListComp elt [⟨tg, iter, ifs, 0⟩, ⟨tg1, iter1, ifs1, 0⟩] scope pos) spos) (tAsg (tLc2 wi g tt wi1 g1 tt1 te (own.map (·.2)) vs1) (gName i)) (TSet i (TLc2 Ti Gd Tt Ti1 G1 Tt1 Te (own.map (·.2)) vs1)) :=
  ⟨ps_setLc2 hc hN hy hyl hsw hi.pe ok hv (fun s H C cl fp => (hg s H C cl fp).pe) (fun s H C cl fp => (ht s H C cl fp).pe) (fun s H C cl fp => (hi1 s H C cl fp).pe) (fun s H C cl fp => (hg1 s H C cl fp).pe) (fun s H C cl fp => (ht1 s H C cl fp).pe) (fun s H C cl fp => (he s H C cl fp).pe) hs hs1,
   sem_set i (ed_lc2 (pos := pos) hc hN hi ok hv go go1 hg ht hi1 hg1 ht1 he hs hs1).se⟩
end
end DL

namespace DL
open PySem PySem.Spec PyProof.Rows L2 TL
/-! ## zip of any two of lists, tuples, texts -/
inductive Sk where
  | lst (a : Addr) | tup (a : Addr) | str (z : Str) (t : Tok)
def Sk.val : Sk → Value
  | .lst a => .ref a
  | .tup a => .ref a
  | .str z t => .str z t
def Sk.src : Sk → List Addr
  | .lst a => [a]
  | .tup a => [a]
  | .str _ _ => []
def Sk.on (it : Addr) (i : Nat) (h : Heap) : Sk → Prop
  | .lst a => h.IsListIter it a i
  | .tup a => h.IsTupleIter it a i
  | .str z t => h.IsStrIter it (strIterType z) z t i
def Sk.ok (K : PySem.W.Frag) (H : Hp) (xs : List V) : Sk → Prop
  | .lst a => SqL K H a xs
  | .tup a => SqT K H a xs
  | .str z _ => xs = z.cps.toList.map fun c => V.str ⟨#[c]⟩
theorem Sk.on_obj {k : Sk} {it : Addr} {i : Nat} {h : Heap} (x : k.on it i h) : ∃ o, h.get? it = some o ∧ ∀ v, o.data ≠ .cell v := by
  cases k with
  | lst a => obtain ⟨o, e, _, d⟩ := (x : h.IsListIter it a i); exact ⟨o, e, fun v z => by rw [d] at z; cases z⟩
  | tup a => obtain ⟨o, e, _, d⟩ := (x : h.IsTupleIter it a i); exact ⟨o, e, fun v z => by rw [d] at z; cases z⟩
  | str z t => obtain ⟨o, e, _, d⟩ := (x : h.IsStrIter it (strIterType z) z t i); exact ⟨o, e, fun v z => by rw [d] at z; cases z⟩
theorem Sk.on_keep {k : Sk} {it : Addr} {i : Nat} {h h' : Heap} (x : k.on it i h) (q : ∀ o, h.get? it = some o → h'.get? it = some o) : k.on it i h' := by
  cases k with
  | lst a => exact Heap.IsListIter.at x q
  | tup a => exact Heap.IsTupleIter.at x q
  | str z t => obtain ⟨o, e, r⟩ := (x : h.IsStrIter it (strIterType z) z t i); exact ⟨o, q o e, r⟩
theorem vals_at {xs : List V} {its : List Value} (r : Vals xs its) {j : Nat} {u : Value} (h : its[j]? = some u) : ∃ x, xs[j]? = some x ∧ RelV x u := by
  induction r generalizing j with
  | nil => cases h
  | cons a t ih =>
    cases j with
    | zero => cases h; exact ⟨_, rfl, a⟩
    | succ j => exact ih h
theorem Sk.draws {X : Cx} {pins : List (Addr × Obj)} {σ : L2.St} {H : Hp} {s : Shared} {xs : List V} {k : Sk} {it : Addr} (I : Inv X pins σ H s) (ok : k.ok X.K H xs) (hh : X.A.handled = none) (hn : ∀ a ∈ k.src, a ≠ it) :
    ∃ (P : Nat → Value → Prop) (St : Nat → Heap → Prop), Draws X.prog X.w X.A.in1 it (it :: k.src) xs.length P St ∧ (∀ j, k.on it j s.heap → St j s.heap) ∧ (∀ j h, St j h → k.on it j h) ∧ ∀ j u, P j u → ∃ x, xs[j]? = some x ∧ RelV x u := by
  cases k with
  | lst a =>
    obtain ⟨its, r, p, hz⟩ := I.list (show SqL X.K H a xs from ok)
    have e : its.toArray.size = xs.length := by rw [List.size_toArray]; exact r.length.symm
    have d := Draws.list (prog := X.prog) (w := X.w) (A := X.A.in1) hh it a (hn a List.mem_cons_self) its.toArray
    rw [e] at d
    exact ⟨_, _, d, fun j q => ⟨q, p.isList⟩, fun j h q => q.1, fun j u q => vals_at r (by simpa using q)⟩
  | tup a =>
    obtain ⟨its, r, p, hz⟩ := I.tuple (show SqT X.K H a xs from ok)
    have e : its.toArray.size = xs.length := by rw [List.size_toArray]; exact r.length.symm
    have d := Draws.tuple (prog := X.prog) (w := X.w) (A := X.A.in1) hh it a (hn a List.mem_cons_self) its.toArray
    rw [e] at d
    exact ⟨_, _, d, fun j q => ⟨q, p⟩, fun j h q => q.1, fun j u q => vals_at r (by simpa using q)⟩
  | str z t =>
    have e0 : xs = z.cps.toList.map fun c => V.str ⟨#[c]⟩ := ok
    have e : z.cps.size = xs.length := by rw [e0, List.length_map]; rfl
    have d := Draws.text (prog := X.prog) (w := X.w) (A := X.A.in1) hh it z t
    rw [e] at d
    refine ⟨_, _, d, fun j q => q, fun j h q => q, fun j u ⟨c, v, h1, h2⟩ => ?_⟩
    subst h2
    refine ⟨.str ⟨#[c]⟩, ?_, ⟨v, rfl⟩⟩
    rw [e0, List.getElem?_map]
    have : z.cps.toList[j]? = some c := by simpa using h1
    rw [this]
    rfl
def Itg (K : PySem.W.Frag) (k1 k2 : Sk) (xs ys : List V) : It :=
  ⟨fun i H => (k1.ok K H xs ∧ k2.ok K H ys) ∧ i < xs.length ∧ i < ys.length,
   fun i H v H' => ∃ (T : Addr) (x y : V), v = .ref T ∧ H T = none ∧ H' = upd H T (.tup [x, y]) ∧ xs[i]? = some x ∧ ys[i]? = some y,
   fun i H => (k1.ok K H xs ∧ k2.ok K H ys) ∧ (xs.length ≤ i ∨ ys.length ≤ i)⟩
abbrev zCells (N : Nat) : List Addr := [N + 4, N + 2, N + 3, N, N + 1]
def zSt (k1 k2 : Sk) (n m N : Nat) (i : Nat) (h : Heap) : Prop := (i ≤ n ∧ i ≤ m) ∧ IsZip h (N + 4) (N + 2) (N + 3) .none ∧ IsTupOf2 h (N + 2) (.ref (N : Nat)) (.ref (N + 1 : Nat)) ∧ (∃ a b, IsTupOf2 h (N + 3) a b) ∧ k1.on (N : Nat) i h ∧ k2.on (N + 1 : Nat) i h
theorem mem_cells {N c : Nat} (h : c ∈ zCells N) : c = N + 4 ∨ c = N + 2 ∨ c = N + 3 ∨ c = N ∨ c = N + 1 := by simpa using h
theorem turn_zipG {P : Program} {w : World} {K : PySem.W.Frag} {elts : List Expr} {kk : Nat} {tpos : Pos} (k1 k2 : Sk) (xs ys : List V) (N : Nat) (h1 : ∀ b ∈ k1.src, b < N) (h2 : ∀ b ∈ k2.src, b < N) :
    Turn P w K (.Tuple elts kk tpos) (Itg K k1 k2 xs ys) (zCells N) (N + 4) (zSt k1 k2 xs.length ys.length N) := by
  have SP := zip_sep2 h1 h2
  have n1 : ∀ a ∈ k1.src, a ≠ (N : Nat) := fun a ha => Nat.ne_of_lt (h1 a ha)
  have n2 : ∀ a ∈ k2.src, a ≠ (N + 1 : Nat) := fun a ha => Nat.ne_of_lt (Nat.lt_succ_of_lt (h2 a ha))
  refine ⟨List.mem_cons_self, fun i h st b hb => ?_, fun i h h' st kp => ?_, ?_, ?_, fun A i s Q E st q => wpAny_pyIter_zip st.2.1 q⟩
  · obtain ⟨_, z1, z2, ⟨a, c, z3⟩, z4, z5⟩ := st
    rcases mem_cells hb with e | e | e | e | e
    · rw [e]; exact ⟨_, z1, fun v q => nomatch q⟩
    · rw [e]; exact ⟨_, z2, fun v q => nomatch q⟩
    · rw [e]; exact ⟨_, z3, fun v q => nomatch q⟩
    · rw [e]; exact Sk.on_obj z4
    · rw [e]; exact Sk.on_obj z5
  · obtain ⟨z0, z1, z2, ⟨a, c, z3⟩, z4, z5⟩ := st
    exact ⟨z0, kp _ (by simp) _ z1, kp _ (by simp) _ z2, ⟨a, c, kp _ (by simp) _ z3⟩, Sk.on_keep z4 fun o q => kp _ (by simp) o q, Sk.on_keep z5 fun o q => kp _ (by simp) o q⟩
  · intro X eP ew eK hc i pins s σ H E I hf st hg
    subst eP ew eK
    obtain ⟨z0, z1, z2, ⟨a, c, z3⟩, z4, z5⟩ := st
    obtain ⟨⟨o1, o2⟩, l1, l2⟩ := hg
    have hh := I.ok.hd hc
    obtain ⟨P1, S1, d1, a1, b1, c1⟩ := Sk.draws I o1 hh n1
    obtain ⟨P2, S2, d2, a2, b2, c2⟩ := Sk.draws I o2 hh n2
    refine wpAny_pyNext_zipD2_item SP d1 d2 z1 z2 z3 (a1 i z4) (a2 i z5) l1 l2 fun x1 x2 h' tk p1 p2 y1 y2 t1 t2 y3 hsz hk => ?_
    obtain ⟨x, ex, rx⟩ := c1 i x1 p1
    obtain ⟨y, ey, ry⟩ := c2 i x2 p2
    have zl : N + 4 < s.heap.objs.size := Heap.lt_size z1
    refine ⟨_, rfl, wpAny_letOwnedTupleGo_zip (s := { s with heap := h', toks := tk }) y1 fun h'' w1 sb => ?_⟩
    have e3 : h''.get? s.heap.objs.size = some { cls := .type "tuple", data := .seq #[x1, x2] } := (sb.2 _ (Nat.ne_of_gt zl)).trans y3
    have ob : ObjOk X.prog X.w (upd H s.heap.objs.size (.tup [x, y])) h'' s.heap.objs.size (.tup [x, y]) := ⟨(by decide : 2 ≤ sizeLine), [x1, x2], .cons rx (.cons ry .nil), ⟨_, e3, rfl, _, rfl⟩⟩
    have kk2 : ∀ (c : Addr) (o : Obj), c ∉ zCells N → s.heap.get? c = some o → h''.get? c = some o := fun c o hb q => (sb.2 c fun e => hb (by rw [e]; simp)).trans (hk c o (fun e => hb (by rw [e]; simp)) (fun e => hb (by rw [e]; simp)) (fun e => hb (by rw [e]; simp)) (fun e => hb (by rw [e]; simp)) q)
    have I1 : Inv X pins σ (upd H s.heap.objs.size (.tup [x, y])) { s with heap := h'', toks := tk } := I.turnedNew (t' := tk) (ch := zCells N) kk2 hf (Nat.le_refl _) ob
    refine ⟨.ref s.heap.objs.size, _, I1, rfl, ⟨_, x, y, rfl, I.hok.fresh (Nat.le_refl _), rfl, ex, ey⟩, ⟨⟨by omega, by omega⟩, w1, ?_, ⟨x1, x2, ?_⟩, ?_, ?_⟩, fun c hcm => ?_⟩
    · exact (sb.2 _ SP.TIz).trans (hk _ _ SP.TIz SP.TITO SP.TIi1 SP.TIi2 z2)
    · exact (sb.2 _ SP.TOz).trans y2
    · exact Sk.on_keep (b1 _ _ t1) fun o q => (sb.2 _ SP.zi1.symm).trans q
    · exact Sk.on_keep (b2 _ _ t2) fun o q => (sb.2 _ SP.zi2.symm).trans q
    · have hlt : c < s.heap.objs.size := by
        rcases mem_cells hcm with e | e | e | e | e
        · rw [e]; exact zl
        · rw [e]; exact Nat.lt_trans (show N + 2 < N + 4 from by omega) zl
        · rw [e]; exact Nat.lt_trans (show N + 3 < N + 4 from by omega) zl
        · rw [e]; exact Nat.lt_trans (show N < N + 4 from by omega) zl
        · rw [e]; exact Nat.lt_trans (show N + 1 < N + 4 from by omega) zl
      rw [upd_ne (Nat.ne_of_lt hlt)]
      exact (hf c hcm).1
  · intro X eP ew eK hc i pins s σ H E I hf st hg
    subst eP ew eK
    obtain ⟨⟨z0, z0'⟩, z1, z2, ⟨a, c, z3⟩, z4, z5⟩ := st
    obtain ⟨⟨o1, o2⟩, l⟩ := hg
    have hh := I.ok.hd hc
    obtain ⟨P1, S1, d1, a1, b1, c1⟩ := Sk.draws I o1 hh n1
    obtain ⟨P2, S2, d2, a2, b2, c2⟩ := Sk.draws I o2 hh n2
    exact wpAny_pyNext_zipD2_end SP d1 d2 z1 z2 z3 (a1 i z4) (a2 i z5) z0 z0' (by omega) fun h' tk hk => ⟨rfl, I.turnedL (t' := tk) (ch := zCells N) (fun c o hb q =>
      hk c o (fun e => hb (by rw [e]; simp)) (fun e => hb (by rw [e]; simp)) (fun e => hb (by rw [e]; simp)) (fun e => hb (by rw [e]; simp)) q) hf⟩
def Sk.v : Sk → V
  | .lst a => .ref a
  | .tup a => .ref a
  | .str z _ => .str z
def Sk.tk (t : Tok) : Sk → Sk
  | .str z _ => .str z t
  | k => k
theorem Sk.tk_ok {k : Sk} {t : Tok} {K : PySem.W.Frag} {H : Hp} {xs : List V} : (k.tk t).ok K H xs ↔ k.ok K H xs := by cases k <;> exact Iff.rfl
theorem Sk.rel {k : Sk} {u : Value} (r : RelV k.v u) : ∃ t, u = (k.tk t).val := by
  cases k with
  | lst a => exact ⟨0, r⟩
  | tup a => exact ⟨0, r⟩
  | str z _ => obtain ⟨t, e⟩ := r; exact ⟨t, e⟩
theorem Sk.begin {X : Cx} {pins : List (Addr × Obj)} {σ : L2.St} {H : Hp} {s : Shared} {xs : List V} {k : Sk} (I : Inv X pins σ H s) (ok : k.ok X.K H xs) :
    ∃ (o : Obj) (G : Heap → Prop), Begins k.val o G ∧ G s.heap ∧ (∀ it h, h.get? it = some o → k.on it 0 h) ∧ ∀ b ∈ k.src, b < s.heap.objs.size := by
  cases k with
  | lst a =>
    obtain ⟨its, r, p, hz⟩ := I.list (show SqL X.K H a xs from ok)
    exact ⟨_, _, begins_list a its.toArray, p.isList, fun it h e => ⟨_, e, rfl, rfl⟩, fun b hb => by rw [List.mem_singleton.mp hb]; exact p.lt⟩
  | tup a =>
    obtain ⟨its, r, p, hz⟩ := I.tuple (show SqT X.K H a xs from ok)
    exact ⟨_, _, begins_tuple a its.toArray, p, fun it h e => ⟨_, e, rfl, rfl⟩, fun b hb => by rw [List.mem_singleton.mp hb]; obtain ⟨o, ho, _⟩ := p; exact Heap.lt_size ho⟩
  | str z t => exact ⟨_, _, begins_text z t, trivial, fun it h e => ⟨_, e, rfl, rfl⟩, fun b hb => nomatch hb⟩
def iZipG (K : PySem.W.Frag) (ta : TA) : TI := fun σ H R => ta σ H fun vs H1 => ∃ (k1 k2 : Sk) (xs ys : List V), vs = [k1.v, k2.v] ∧ k1.ok K H1 xs ∧ k2.ok K H1 ys ∧ ∀ t1 t2, R (Itg K (k1.tk t1) (k2.tk t2) xs ys) H1
theorem pi_zipG {X : Cx} {e e2 : Expr} {ta : TA} {p pos tpos : Pos} {elts : List Expr} {kk : Nat} (hg : Gl X "zip") (hm : X.mg "zip" = none) (ha : PA X [e, e2] ta)
    (hs : starEach [e, e2] X.env = (false, eval e X.env) :: starEach [e2] X.env) (hpl : (backTo pos (starEach [e2] X.env)).any (·.1) = false) : PI X (.Tuple elts kk tpos) (.Call (.Name "zip" p) [e, e2] [] pos) (iZipG X.K ta) := by
  refine ⟨fun pins s σ H R I h => Call_ (ld_blt I hg hm PyProof.Rows.boot_zip (PyProof.Rows.callWith_type1 (thn (ha.run pos pins s σ H _ I h) fun us s1 ⟨vs, H1, I1, r1, q1⟩ => ?_) hs hpl))⟩
  obtain ⟨k1, k2, xs, ys, ex, o1, o2, q⟩ := q1
  subst ex
  cases r1 with
  | cons ra rr =>
    cases rr with
    | cons rb rr =>
      cases rr
      obtain ⟨t1, rfl⟩ := Sk.rel ra
      obtain ⟨t2, rfl⟩ := Sk.rel rb
      have o1' := Sk.tk_ok (t := t1).mpr o1
      have o2' := Sk.tk_ok (t := t2).mpr o2
      obtain ⟨oa, Ga, ba, ga, fa, la⟩ := Sk.begin I1 o1'
      obtain ⟨ob, Gb, bb, gb, fb, lb⟩ := Sk.begin I1 o2'
      refine zip_begins2 ba bb ga gb fun h' w1 w2 w3 w4 w5 hsz hk => wpAny_pyIter_zip w1 ?_
      have I2 : Inv X pins σ H1 { s1 with heap := h' } := I1.kept (t' := s1.toks) hk
      refine ⟨s1.heap.objs.size + 4, zCells s1.heap.objs.size, _, _, H1, rfl, I2, turn_zipG (k1.tk t1) (k2.tk t2) xs ys s1.heap.objs.size la lb, ⟨⟨Nat.zero_le _, Nat.zero_le _⟩, w1, w2, ⟨_, _, w3⟩, fa _ _ w4, fb _ _ w5⟩, fun c hc => ?_, q t1 t2⟩
      have hle : s1.heap.objs.size ≤ c := by
        rcases mem_cells hc with z | z | z | z | z
        · rw [z]; exact Nat.le_add_right _ _
        · rw [z]; exact Nat.le_add_right _ _
        · rw [z]; exact Nat.le_add_right _ _
        · rw [z]; exact Nat.le_refl _
        · rw [z]; exact Nat.le_add_right _ _
      exact I1.fpOk hle (I1.hok.fresh hle)
/-- what zip walks, as data -/
def srcD : D → Option (List D)
  | .lst ds => some ds
  | .tup ds => some ds
  | .str z => some (charsD z)
  | _ => none
def IZip (t : TAd) : TId := fun ρ M Q => t ρ M fun ds M1 => match ds with
  | [x, y] => match srcD x, srcD y with
    | some xs, some ys => Q ((xs.zip ys).map fun p => .tup [p.1, p.2]) M1
    | _, _ => False
  | _ => False
theorem src_rep {K : PySem.W.Frag} {H : Hp} {u : V} {d : D} {ds : List D} (r : Rep K H u d) (e : srcD d = some ds) : ∃ (k : Sk) (xs : List V), u = k.v ∧ k.ok K H xs ∧ Reps K H xs ds := by
  cases r with
  | lst h l r => cases e; exact ⟨.lst _, _, rfl, SqL.of h, r⟩
  | tup h l r => cases e; exact ⟨.tup _, _, rfl, h, r⟩
  | str z hz =>
    cases e
    refine ⟨.str z 0, _, rfl, rfl, ?_⟩
    unfold charsD
    have : ∀ l : List Nat, (∀ c ∈ l, c ∈ tl z) → Reps K H (l.map fun c => V.str ⟨#[c]⟩) (l.map fun c => D.str ⟨#[c]⟩) := by
      intro l
      induction l with
      | nil => intro _; exact .nil
      | cons c r ih =>
        intro hl
        refine .cons (.str _ (okS_sub hz (fun d hd => ?_) (by show 1 ≤ _; decide))) (ih fun b hb => hl b (List.mem_cons_of_mem _ hb))
        have : d = c := by simpa [tl] using hd
        rw [this]
        exact hl c List.mem_cons_self
    exact this _ fun c hc => hc
  | _ => cases e
theorem Sk.ok_ext {k : Sk} {K : PySem.W.Frag} {H H' : Hp} {xs : List V} (x : Ext H H') (o : k.ok K H xs) : k.ok K H' xs := by
  cases k with
  | lst a => exact sqL_ext x o
  | tup a => exact sqT_ext x o
  | str z t => exact o
theorem yl_zip {K : PySem.W.Frag} {Hs : Hp} {k1 k2 : Sk} {xs ys : List V} {dx dy : List D} (o1 : k1.ok K Hs xs) (o2 : k2.ok K Hs ys) (r1 : Reps K Hs xs dx) (r2 : Reps K Hs ys dy) : Yl K (Itg K k1 k2 xs ys) Hs ((dx.zip dy).map fun p => .tup [p.1, p.2]) := fun F Hs1 M σ H ρ i e S => by
  have l1 := r1.length
  have l2 := r2.length
  have q1 := Sk.ok_ext S.hs (Sk.ok_ext e o1)
  have q2 := Sk.ok_ext S.hs (Sk.ok_ext e o2)
  refine ⟨fun d hd => ?_, fun hl => ⟨⟨q1, q2⟩, ?_⟩⟩
  · rw [List.getElem?_map] at hd
    cases hz : (dx.zip dy)[i]? with
    | none => rw [hz] at hd; cases hd
    | some p =>
      rw [hz] at hd
      cases hd
      obtain ⟨z1, z2⟩ := List.getElem?_zip_eq_some.mp hz
      obtain ⟨x, ex, rx⟩ := r1.get z1
      obtain ⟨y, ey, ry⟩ := r2.get z2
      have hx := (List.getElem?_eq_some_iff.mp ex).1
      have hy := (List.getElem?_eq_some_iff.mp ey).1
      refine ⟨⟨⟨q1, q2⟩, hx, hy⟩, fun v H' ⟨T, x', y', ev, hn, eH, ex', ey'⟩ => ?_⟩
      rw [ex] at ex'
      rw [ey] at ey'
      cases ex'
      cases ey'
      subst ev eH
      obtain ⟨S2, x2⟩ := S.new hn (.tup [x, y])
      exact ⟨_, x2, S2, .tup (.inl (.inl upd_same)) (by show 2 ≤ _; decide) (.cons ((rx.mono e).mono x2) (.cons ((ry.mono e).mono x2) .nil))⟩
  · rw [List.length_map, List.length_zip] at hl
    omega
theorem id_zip {X : Cx} {K : PySem.W.Frag} {e e2 : Expr} {tr : TA} {R : TAd} {p pos tpos : Pos} {elts : List Expr} {kk : Nat} (hK : X.K = K) (hg : Gl X "zip") (hm : X.mg "zip" = none) (ha : AD X [e, e2] tr R)
    (hs : starEach [e, e2] X.env = (false, eval e X.env) :: starEach [e2] X.env := by rfl) (hpl : (backTo pos (starEach [e2] X.env)).any (·.1) = false := by rfl) : ID X (.Tuple elts kk tpos) (.Call (.Name "zip" p) [e, e2] [] pos) (iZipG K tr) (IZip R) := by
  subst hK
  refine ⟨pi_zipG hg hm ha.pe hs hpl, fun F Hs M σ H ρ R Qd S k q => ha.se F Hs M σ H ρ _ _ S (fun vs H1 Hs1 ds M1 e1 S1 r1 q1 => ?_) q⟩
  split at q1
  · rename_i x y
    split at q1
    · rename_i xs ys ex ey
      cases r1 with
      | cons ra rr =>
        cases rr with
        | cons rb rr =>
          cases rr
          obtain ⟨k1, us, rfl, o1, s1⟩ := src_rep ra ex
          obtain ⟨k2, vs, rfl, o2, s2⟩ := src_rep rb ey
          refine ⟨k1, k2, us, vs, rfl, Sk.ok_ext S1.hs o1, Sk.ok_ext S1.hs o2, fun t1 t2 => ?_⟩
          exact k _ H1 Hs1 _ M1 e1 S1 (yl_zip (Sk.tk_ok.mpr o1) (Sk.tk_ok.mpr o2) s1 s2) q1
    · exact q1.elim
  · exact q1.elim
end DL

namespace DL
open PySem PySem.Spec PyProof.Rows L2 TL
/-! ## x[::-1] of a text, a list, a tuple -/
theorem rev_places (n : Nat) : Builtin.Slice.sliceAdjust none none (-1) (n : Int) = ((n : Int) - 1, -1) ∧ Builtin.Slice.slicePlaces ((n : Int) - 1) (-1) (-1) = n := by
  refine ⟨rfl, ?_⟩
  unfold Builtin.Slice.slicePlaces
  have h : ¬ ((-1 : Int) > 0) := by decide
  rw [if_neg h]
  by_cases h0 : n = 0
  · subst h0; rfl
  · rw [if_pos (by omega)]
    have : ((n : Int) - 1 - -1 - 1) / (- -1) = (n : Int) - 1 := by
      have e : (n : Int) - 1 - -1 - 1 = (n : Int) - 1 := by omega
      rw [e]
      exact Int.ediv_one _
    rw [this]
    omega
theorem rev_picked (xs : Array Value) : ((List.range xs.size).filterMap fun (k : Nat) => xs[(((xs.size : Nat) : Int) - 1 + (k : Int) * (-1)).toNat]?).toArray = xs.toList.reverse.toArray := by
  obtain ⟨l⟩ := xs
  congr 1
  have e : (fun (k : Nat) => (List.toArray l)[((((List.toArray l).size : Nat) : Int) - 1 + (k : Int) * (-1)).toNat]?) = fun (k : Nat) => (if k < l.length then l[l.length - 1 - k]? else l[((((List.toArray l).size : Nat) : Int) - 1 + (k : Int) * (-1)).toNat]?) := by
    funext k
    by_cases h : k < l.length
    · rw [if_pos h]
      have : ((((List.toArray l).size : Nat) : Int) - 1 + (k : Int) * (-1)).toNat = l.length - 1 - k := by
        rw [List.size_toArray]; omega
      rw [this]
      simp
    · rw [if_neg h]; simp
  rw [e]
  show (List.range l.length).filterMap _ = l.reverse
  apply List.ext_getElem?
  intro i
  have h1 : ∀ ks : List Nat, (∀ k ∈ ks, k < l.length) → ks.filterMap (fun k => if k < l.length then l[l.length - 1 - k]? else l[((((List.toArray l).size : Nat) : Int) - 1 + (k : Int) * (-1)).toNat]?) = ks.map fun k => l.getD (l.length - 1 - k) .none := by
    intro ks
    induction ks with
    | nil => intro _; rfl
    | cons k ks ih =>
      intro hk
      have hk1 := hk k List.mem_cons_self
      have hlt : l.length - 1 - k < l.length := by omega
      rw [List.filterMap_cons, if_pos hk1]
      have : l[l.length - 1 - k]? = some (l.getD (l.length - 1 - k) .none) := by simp [hlt]
      rw [this, List.map_cons, ih fun j hj => hk j (List.mem_cons_of_mem _ hj)]
  rw [h1 _ fun k hk => List.mem_range.mp hk]
  by_cases h : i < l.length
  · rw [List.getElem?_map, List.getElem?_range h, List.getElem?_reverse h]
    have hlt : l.length - 1 - i < l.length := by omega
    simp [hlt]
  · rw [List.getElem?_eq_none (by simpa using h), List.getElem?_eq_none (by simpa using h)]
section
variable {prog : Program} {w : World} {A : Around} {E : Value → Shared → Prop} {s : Shared}
theorem applied_rev {sl : Addr} {vs : Value} {n : Nat} {Q : Int × Int × Nat → Shared → Prop} (hs : s.heap.IsSliceOf sl .none .none vs) (ps : IsPart vs (some (-1))) (q : Q ((n : Int) - 1, -1, n) s) : wpAny (model prog w) A (Builtin.Slice.sliceApplied (.ref sl) (pure (n : Int))) Q E s := by
  obtain ⟨os, hos, hcs, hds⟩ := id hs
  unfold Builtin.Slice.sliceApplied Builtin.Slice.sliceFields
  refine wpAny_bind (wpAny_bind (wpAny_field hos hds (x := .none) rfl (wpAny_bind (wpAny_field hos hds (x := .none) rfl (wpAny_bind (wpAny_field hos hds (x := vs) rfl (wpAny_pure (wpAny_bind (HT.slicePart_ ps ?_)))))))))
  show wpAny _ _ (if ((-1 : Int) == 0) = true then _ else _) _ _ s
  rw [if_neg (show ¬ ((-1 : Int) == 0) = true by decide)]
  refine wpAny_bind (HT.slicePart_ .none (wpAny_bind (HT.slicePart_ .none (wpAny_bind (wpAny_pure ?_)))))
  obtain ⟨e1, e2⟩ := rev_places n
  show wpAny _ _ (match Builtin.Slice.sliceAdjust none none (-1) (n : Int) with | (a, b) => pure (a, (-1 : Int), Builtin.Slice.slicePlaces a b (-1))) _ _ s
  rw [e1]
  show wpAny _ _ (pure ((n : Int) - 1, (-1 : Int), Builtin.Slice.slicePlaces ((n : Int) - 1) (-1) (-1))) _ _ s
  rw [e2]
  exact wpAny_pure q
theorem getItem_tuple_rev {t sl : Addr} {items : Array Value} {vs : Value} {Q : Value → Shared → Prop} (ht : IsTup s.heap t items) (hs : s.heap.IsSliceOf sl .none .none vs) (ps : IsPart vs (some (-1)))
    (q : Q (.ref s.heap.objs.size) { s with heap := s.heap.push { cls := .type "tuple", data := .seq items.toList.reverse.toArray } }) (hsz : items.size ≤ sizeLine) : wpAny (model prog w) A (getItem (.ref t) (.ref sl)) Q E s := by
  have hok : sizeOk (.seq items.toList.reverse.toArray) := by
    show items.toList.reverse.toArray.size ≤ sizeLine
    rw [List.size_toArray, List.length_reverse, Array.length_toList]
    exact hsz
  have hTs : s.TypeIs (.ref sl) "slice" := by obtain ⟨os, hos, hcs, hds⟩ := id hs; exact ⟨os, hos, hcs⟩
  unfold getItem
  try with_reducible refine wpAny_holding ?_
  first | (refine wpAny_bind (wpAny_pure ?_); skip) | skip
  refine wpAny_bind (wpAny_sequenceKey ht.typeIs (by decide) (wpAny_bind (wpAny_callSpecial?_slot (name := Str.ofString "__getitem__") ht.typeIs PyProof.Rows.slot_tuple_getitem (wpAny_call_entry PyProof.Rows.slot_tuple_getitem ht.typeIs entry_tuple_getitem ?_ (args_tuple_getitem _ _)))))
  show wpAny _ _ (Builtin.Tuple.tupleItemsOf (.ref t) >>= _) _ _ _
  refine wpAny_bind (tupleItemsOf_ ht (wpAny_bind (wpAny_typeOf hTs ?_)))
  rw [if_pos (show (Value.type "slice" == Value.type "slice") = true by decide)]
  refine wpAny_bind (applied_rev hs ps ?_)
  have hno : ¬ ((((items.size : Nat) : Int) - 1 == 0 && (-1 : Int) == 1 && items.size == items.size) = true) := by simp
  show wpAny _ _ (if ((((items.size : Nat) : Int) - 1 == 0 && (-1 : Int) == 1 && items.size == items.size) = true) then _ else _) _ _ s
  rw [if_neg hno, rev_picked]
  first
    | (exact wpAny_bind (m := Builtin.Tuple.tupleExact _) (wpAny_newObj_type (wpAny_pure ⟨_, rfl, wpAny_pure q⟩) hok); skip)
    | (exact wpAny_bind (m := Builtin.Tuple.tupleExact _) (wpAny_newObj_type (wpAny_bind (wpAny_pure (wpAny_pure ⟨_, rfl, wpAny_pure q⟩))) hok); skip)
    | (exact wpAny_bind (wpAny_bind (m := Builtin.Tuple.tupleExact _) (wpAny_newObj_type (wpAny_pure (wpAny_pure ⟨_, rfl, wpAny_pure q⟩)) hok)); skip)
end
section
variable {X : Cx} {te : TE} {Te : TEd}
def tRevA (K : PySem.W.Frag) (te : TE) : TE := fun σ H Q => te σ H fun x H1 => (∃ z, x = .str z ∧ z.length ≤ sizeLine ∧ Q (.str (revZ z)) H1) ∨ (∃ a xs, x = .ref a ∧ SqL K H1 a xs ∧ ∀ p, H1 p = none → Q (.ref p) (upd H1 p (.lst xs.reverse))) ∨ (∃ a xs, x = .ref a ∧ SqT K H1 a xs ∧ ∀ p, H1 p = none → Q (.ref p) (upd H1 p (.tup xs.reverse)))
theorem pe_revA {e : Expr} {k : Nat} {p1 p2 p3 pos : Pos} (he : PE X e te) : PE X (.Subscript e (.Slice none none (some (.UnaryOp .USub (.Constant (.int 1) k p1) p2)) p3) pos) (tRevA X.K te) := by
  refine ⟨fun pins s σ H Q I h => Subscript_ (thn (he.run pins s σ H _ I h) fun v s1 ⟨x, H1, I1, r1, q1⟩ => ?_)⟩
  have hst : PO X (some (.UnaryOp .USub (.Constant (.int 1) k p1) p2)) (tPart (tUn (rU fun i => .int (-i)) (tC (.int 1)))) := po_some (pe_un un_neg pe_int)
  refine wpAny_Slice (thn (po_none.run pins s1 σ H1 (fun o H2 => o = none ∧ H2 = H1) I1 ⟨rfl, rfl⟩) fun vl s2 ⟨l, H2, I2, pl, el, e2⟩ => ?_)
  subst el e2
  refine thn (po_none.run pins s2 σ H2 (fun o H3 => o = none ∧ H3 = H2) I2 ⟨rfl, rfl⟩) fun vu s3 ⟨u, H3, I3, pu, eu, e3⟩ => ?_
  subst eu e3
  refine thn (hst.run pins s3 σ H3 (fun o H4 => o = some (-1) ∧ H4 = H3) I3 ⟨1, rfl, -1, rfl, rfl, rfl⟩) fun vs s4 ⟨o, H4, I4, ps, eo, e4⟩ => ?_
  subst eo e4
  have I5 : Inv X pins σ H4 { s4 with heap := s4.heap.push { cls := .type "slice", data := .fields #[vl, vu, vs] } } := I4.kept (t' := s4.toks) fun b ob q => Heap.get?_push_of_some _ q
  show wpAny (model X.prog X.w) X.A (subscriptTail e (.Slice none none (some (.UnaryOp .USub (.Constant (.int 1) k p1) p2)) p3) v (.ref s4.heap.objs.size)) (EP X pins σ Q) X.xe { s4 with heap := s4.heap.push { cls := .type "slice", data := .fields #[vl, vu, vs] } }
  rcases q1 with ⟨z, ex, hz, q⟩ | ⟨a, xs, ex, hx, q⟩ | ⟨a, xs, ex, hx, q⟩
  · subst ex
    obtain ⟨tz, rfl⟩ := r1
    refine tail_any (ops := [.str z tz, .ref s4.heap.objs.size]) (typeIs_str _ _ _) (F.slot_str_getitem.lookup) ?_ (by with_unfolding_all rfl)
    obtain ⟨l, rfl, hl⟩ := IsPart.raw pl
    obtain ⟨u, rfl, hu⟩ := IsPart.raw pu
    obtain ⟨st, rfl, hst'⟩ := IsPart.raw ps
    refine wpAny_getItem_str_slice (l := l) (u := u) (st := st) ⟨_, Heap.get?_push_size _ rfl, rfl, rfl⟩ (by rw [hst']; rfl) ?_
    have e1 : sliceMade z tz l u st = .str (revZ z) := by
      unfold sliceMade slicePicked
      rw [hl, hu, hst']
      show (if ((-1 : Int) == 1 && _) = true then _ else _) = _
      rw [if_neg (by simp)]
      show Made.str ⟨((Builtin.Str.strSliceIndices none none (-1) z.length).filterMap (z.cps[·]?)).toArray⟩ = _
      rw [revRange]
      have := revPick (tl z)
      unfold revZ mkS
      rw [← this]
      rfl
    rw [e1]
    refine ⟨?_, .str _, H4, I5.tok _, ⟨_, rfl⟩, q⟩
    rw [show (revZ z).length = z.length by rw [len_tl, len_tl, revZ, tl_mkS, List.length_reverse]]
    exact hz
  · subst ex
    cases r1
    obtain ⟨its, r, ht, hz⟩ := I5.list hx
    have hlen := r.length
    refine tail_any (ops := [.ref a, .ref s4.heap.objs.size]) ht.isList.typeIs (PySem.slot_list_getitem.lookup) ?_ (by with_unfolding_all rfl)
    refine wpAny_getItem_list_slice ht.isList (Heap.IsSliceOf.new _ vl vu vs) pl pu ps (by decide) ?_ (by rw [List.size_toArray]; omega)
    rw [PySem.W.krv_pick]
    exact ⟨.ref _, _, I5.laid (t' := s4.toks) (o := .lst xs.reverse) (fun b ob q => Heap.get?_push_of_some _ q) (Nat.le_refl _) ⟨by rw [List.length_reverse]; exact hz, _, 0, r.reverse, Heap.get?_push_size _ rfl⟩, rfl, q _ (I5.hok.fresh (Nat.le_refl _))⟩
  · subst ex
    cases r1
    obtain ⟨its, r, ht, hz⟩ := I5.tuple hx
    have hlen := r.length
    obtain rfl : vl = .none := by cases pl; rfl
    obtain rfl : vu = .none := by cases pu; rfl
    refine tail_any (ops := [.ref a, .ref s4.heap.objs.size]) ht.typeIs (PyProof.Rows.slot_tuple_getitem.lookup) ?_ (by with_unfolding_all rfl)
    refine getItem_tuple_rev ht (Heap.IsSliceOf.new _ _ _ vs) ps ?_ (by rw [List.size_toArray]; omega)
    exact ⟨.ref _, _, I5.laid (t' := s4.toks) (o := .tup xs.reverse) (fun b ob q => Heap.get?_push_of_some _ q) (Nat.le_refl _) ⟨by rw [List.length_reverse]; exact hz, _, r.reverse, ⟨_, Heap.get?_push_size _ rfl, rfl, _, rfl⟩⟩, rfl, q _ (I5.hok.fresh (Nat.le_refl _))⟩
def TRevA (Te : TEd) : TEd := fun ρ M Q => Te ρ M fun x M1 => match x with
  | .str z => Q (.str (revZ z)) M1
  | .lst ds => Q (.lst ds.reverse) M1
  | .tup ds => Q (.tup ds.reverse) M1
  | _ => False
theorem Reps.reverse {K : PySem.W.Frag} {H : Hp} : ∀ {vs : List V} {ds : List D}, Reps K H vs ds → Reps K H vs.reverse ds.reverse
  | _, _, .nil => .nil
  | _, _, .cons h t => by
    rw [List.reverse_cons, List.reverse_cons]
    exact (Reps.reverse t).append (.one h)
theorem ed_revA {K : PySem.W.Frag} {e : Expr} {k : Nat} {p1 p2 p3 pos : Pos} (hK : X.K = K) (he : ED X e te Te) : ED X (.Subscript e (.Slice none none (some (.UnaryOp .USub (.Constant (.int 1) k p1) p2)) p3) pos) (tRevA K te) (TRevA Te) := by
  subst hK
  refine ⟨pe_revA he.pe, fun F Hs M σ H ρ Q Qd S k q => he.se F Hs M σ H ρ _ _ S (fun x H1 Hs1 dx M1 e1 S1 r1 q1 => ?_) q⟩
  split at q1
  · cases r1 with
    | str _ hz => exact .inl ⟨_, rfl, by rw [line_eq]; exact okS_len hz, k _ H1 Hs1 _ M1 e1 S1 (.str _ (okS_revZ hz)) q1⟩
  · cases r1 with
    | lst h l r =>
      refine .inr (.inl ⟨_, _, rfl, SqL.of (S1.hs _ _ h), fun p np => ?_⟩)
      obtain ⟨S2, x2⟩ := S1.new np (.lst _)
      exact k _ _ _ _ M1 (e1.trans x2) S2 (.lst upd_same (by rw [List.length_reverse]; exact l) (r.reverse.mono x2)) q1
  · cases r1 with
    | tup h l r =>
      refine .inr (.inr ⟨_, _, rfl, sqT_ext S1.hs h, fun p np => ?_⟩)
      obtain ⟨S2, x2⟩ := S1.new np (.tup _)
      exact k _ _ _ _ M1 (e1.trans x2) S2 (.tup (.inl (.inl upd_same)) (by rw [List.length_reverse]; exact l) (r.reverse.mono x2)) q1
  · exact q1.elim
end
end DL

namespace DL
open PySem PySem.Spec PyProof.Rows L2 TL
theorem forD_sm {g : TGd} {b : TSd} {Dd : EndsD} {α : Type} (inj : α → D) (xs : List α) (I : List Sl → Prop) (ρ : List Sl) (M : Mem)
    (hS : ∀ a ∈ xs, ∀ ρ (Kn : List Sl → Mem → Prop), I ρ → (∀ ρ', I ρ' → Kn ρ' M) → g (inj a) ρ M fun ρ1 M1 => b ⟨Kn, Dd.rt, Dd.nx, Kn⟩ ρ1 M1)
    (i0 : I ρ) (hE : ∀ ρ, I ρ → Dd.nx ρ M) : forD g b (xs.map inj) Dd ρ M :=
  forD_inv inj xs (fun _ ρ M' => M' = M ∧ I ρ) ρ M (fun a r ρ M' Kn ⟨pre, e⟩ ⟨hM, i⟩ k => by
    subst hM
    exact hS a (by rw [e]; simp) ρ Kn i fun ρ' i' => k ρ' _ ⟨rfl, i'⟩) ⟨rfl, i0⟩ (fun ρ M' ⟨hM, i⟩ => by subst hM; exact hE ρ i)
/-- a loop that returns False at the first item at which p does not hold -/
theorem forD_all {g : TGd} {b : TSd} {Dd : EndsD} {α : Type} (inj : α → D) (p : α → Bool) (I : List Sl → Prop) (M : Mem) : ∀ (xs : List α) (ρ : List Sl),
    (∀ a ∈ xs, ∀ ρ (Kn : List Sl → Mem → Prop), I ρ → (p a = true → ∀ ρ', I ρ' → Kn ρ' M) → (p a = false → Dd.rt (.bl false) M) → g (inj a) ρ M fun ρ1 M1 => b ⟨Kn, Dd.rt, Dd.nx, Kn⟩ ρ1 M1) →
    I ρ → (xs.all p = true → ∀ ρ, I ρ → Dd.nx ρ M) → (xs.all p = false → Dd.rt (.bl false) M) → forD g b (xs.map inj) Dd ρ M
  | [], ρ, _, i0, hE, _ => hE rfl ρ i0
  | a :: r, ρ, hS, i0, hE, hF => by
    refine hS a List.mem_cons_self ρ _ i0 (fun hp ρ' i' => ?_) (fun hp => hF (by rw [List.all_cons, hp]; rfl))
    exact forD_all inj p I M r ρ' (fun a' ha => hS a' (List.mem_cons_of_mem _ ha)) i' (fun h => hE (by rw [List.all_cons, hp, h]; rfl)) (fun h => hF (by rw [List.all_cons, hp, h]; rfl))
theorem lc2D_m {α : Type} {g : TGd} {it1 : TId} {g1 : TGd} {c1 : TTd} {e : TEd} {vs1 : List Nat} {ρ : List Sl} {M : Mem} (inj : α → D) (f : α → List D) : ∀ (xs : List α) (Q : List D → Mem → Prop),
    (∀ a ∈ xs, ∀ (K1 : List D → Mem → Prop), K1 (f a) M → g (inj a) ρ M fun ρ2 M2 => it1 ρ2 M2 fun ds M4 => ds.length ≤ 4095 ∧ lcD g1 c1 e ds (wipeD (unown ρ2) vs1) M4 K1) →
    Q (xs.flatMap f) M → lc2D g TYes it1 g1 c1 e vs1 (xs.map inj) ρ M Q
  | [], Q, _, q => q
  | a :: r, Q, h, q => by
    refine h a List.mem_cons_self (fun ys M5 => lc2D g TYes it1 g1 c1 e vs1 (r.map inj) ρ M5 fun zs M6 => Q (ys ++ zs) M6) ?_
    exact lc2D_m inj f r _ (fun b hb => h b (List.mem_cons_of_mem _ hb)) q
end DL
namespace DL
open PySem PySem.Spec PyProof.Rows L2 TL
theorem cut1 {A R : TSd} {Dd : EndsD} {ρ : List Sl} {M : Mem} (J : List Sl → Mem → Prop) (h : ∀ nx : List Sl → Mem → Prop, (∀ ρ' M', J ρ' M' → nx ρ' M') → A { Dd with nx := nx } ρ M) (k : ∀ ρ' M', J ρ' M' → R Dd ρ' M') : TSeq A R Dd ρ M := h _ k
theorem cut2 {A B R : TSd} {Dd : EndsD} {ρ : List Sl} {M : Mem} (J : List Sl → Mem → Prop) (h : ∀ nx : List Sl → Mem → Prop, (∀ ρ' M', J ρ' M' → nx ρ' M') → TSeq A B { Dd with nx := nx } ρ M) (k : ∀ ρ' M', J ρ' M' → R Dd ρ' M') : TSeq A (TSeq B R) Dd ρ M := h _ k
theorem cut3 {A B C R : TSd} {Dd : EndsD} {ρ : List Sl} {M : Mem} (J : List Sl → Mem → Prop) (h : ∀ nx : List Sl → Mem → Prop, (∀ ρ' M', J ρ' M' → nx ρ' M') → TSeq A (TSeq B C) { Dd with nx := nx } ρ M) (k : ∀ ρ' M', J ρ' M' → R Dd ρ' M') : TSeq A (TSeq B (TSeq C R)) Dd ρ M := h _ k
theorem cut4 {A B C E R : TSd} {Dd : EndsD} {ρ : List Sl} {M : Mem} (J : List Sl → Mem → Prop) (h : ∀ nx : List Sl → Mem → Prop, (∀ ρ' M', J ρ' M' → nx ρ' M') → TSeq A (TSeq B (TSeq C E)) { Dd with nx := nx } ρ M) (k : ∀ ρ' M', J ρ' M' → R Dd ρ' M') : TSeq A (TSeq B (TSeq C (TSeq E R))) Dd ρ M := h _ k
theorem cut5 {A B C E G R : TSd} {Dd : EndsD} {ρ : List Sl} {M : Mem} (J : List Sl → Mem → Prop) (h : ∀ nx : List Sl → Mem → Prop, (∀ ρ' M', J ρ' M' → nx ρ' M') → TSeq A (TSeq B (TSeq C (TSeq E G))) { Dd with nx := nx } ρ M) (k : ∀ ρ' M', J ρ' M' → R Dd ρ' M') : TSeq A (TSeq B (TSeq C (TSeq E (TSeq G R)))) Dd ρ M := h _ k
end DL

namespace DL
open PySem PySem.Spec PyProof.Rows L2 TL
/-! ## bool + bool, {}, shifts, str of wide ints, loops that fold -/
section
variable {X : Cx} {K : PySem.W.Frag} {pos : Pos}
def bN (b : Bool) : Int := if b = true then 1 else 0
def rAddBB : R2 := fun x y H Q => ∃ a b, x = .bl a ∧ y = .bl b ∧ Q (.int (bN a + bN b)) H
theorem op_addBB : OpR X (binaryOp .Add) rAddBB := by
  intro pins s σ H x y v u Q I rx ry h
  obtain ⟨a, b, rfl, rfl, q⟩ := h
  cases rx
  cases ry
  exact PyProof.Rows.add_bool ⟨.int (bN a + bN b), H, I.tok _, ⟨_, rfl⟩, q⟩
def addBO : Op2 := fun x y k => match x, y with
  | .bl a, .bl b => k (.int (bN a + bN b))
  | _, _ => False
theorem sr_addBB : SemR K rAddBB addBO := fun F Hs M σ H ρ x y dx dy Q Qd S rx ry k q => by
  unfold addBO at q
  split at q
  · cases rx; cases ry
    exact ⟨_, _, rfl, rfl, k _ H Hs _ (Ext.refl _) S (.int _) q⟩
  · exact q.elim
def TDic0 : TEd := fun _ M Q => Q (.dct []) M
theorem ed_dic0 : ED X (.Dict [] [] pos) tDNewK TDic0 := ⟨pe_dnewK, fun F Hs M σ H ρ Q Qd S k q => fun p np => by
  obtain ⟨S2, x2⟩ := S.new np (.dK [])
  exact k _ _ _ _ M x2 S2 (.dct upd_same .nil) q⟩
def shlO : Op2 := i2 CPow fun i j => .int (i * 2 ^ j.toNat)
theorem sr_shl : SemR K (rI CPow fun i j => .int (i * 2 ^ j.toNat)) shlO := sr_i2 fun _ _ _ => .int _
/-- str of an int that may be wide -/
def strWO : OpC := fun ds k => match ds with
  | [.int i] => (0 ≤ i ∧ i.toNat < 10 ^ 500) ∧ k (.str (numS i.toNat))
  | _ => False
theorem log2_wide {i : Int} (h0 : 0 ≤ i) (h : i.toNat < 10 ^ 500) : i.natAbs.log2 < 1920 := by
  have e : i.natAbs = i.toNat := by omega
  rw [e]
  have : i.toNat < 2 ^ 1920 := Nat.lt_of_lt_of_le h (by decide +kernel)
  by_cases z : i.toNat = 0
  · rw [z]; decide
  · exact (Nat.log2_lt z).mpr this
theorem sc_strW : SemC K rStrI strWO := fun F Hs M σ H ρ xs ds Q Qd S r k q => by
  unfold strWO at q
  split at q
  · rename_i i
    obtain ⟨⟨h0, h1⟩, q⟩ := q
    cases r with
    | cons h t =>
      cases t; cases h
      refine ⟨_, rfl, log2_wide h0 h1, ?_⟩
      have e : (toString i : Str) = numS i.toNat := by
        unfold numS
        rw [Int.toNat_of_nonneg h0]
      rw [e]
      exact k _ H Hs _ (Ext.refl _) S (.str _ (okS_num (Nat.lt_of_lt_of_le h1 (Nat.pow_le_pow_right (by decide) (by decide))))) q
  · exact q.elim
end
theorem forD_fold {g : TGd} {b : TSd} {Dd : EndsD} {α β : Type} (inj : α → D) (st : β → List Sl → Prop) (f : β → α → β) (M : Mem) : ∀ (xs : List α) (b0 : β) (ρ : List Sl),
    (∀ a ∈ xs, ∀ b1 ρ (Kn : List Sl → Mem → Prop), st b1 ρ → (∀ ρ', st (f b1 a) ρ' → Kn ρ' M) → g (inj a) ρ M fun ρ1 M1 => b ⟨Kn, Dd.rt, Dd.nx, Kn⟩ ρ1 M1) →
    st b0 ρ → (∀ ρ, st (xs.foldl f b0) ρ → Dd.nx ρ M) → forD g b (xs.map inj) Dd ρ M
  | [], b0, ρ, _, i0, hE => hE ρ i0
  | a :: r, b0, ρ, hS, i0, hE => hS a List.mem_cons_self b0 ρ _ i0 fun ρ' i' => forD_fold inj st f M r (f b0 a) ρ' (fun a' ha => hS a' (List.mem_cons_of_mem _ ha)) i' hE
end DL

namespace DL
open PySem PySem.Spec PyProof.Rows L2 TL
/-! ## the checker's small functions: what they compute -/
def WAYSZ : List Str := ["00", "01", "10", "11"]
def WAYSD : List D := WAYSZ.map D.str
def SIZESD : List (Str × D) := [("keeps", .int 3), ("lacks", .int 3), ("fewest", .int 4), ("column", .int 5), ("room", .int 4), ("faults", .int 4), ("enough", .int 4)]
def lstS (xs : List Str) : D := .lst (xs.map D.str)
def tupS (xs : List Str) : D := .tup (xs.map D.str)
-- is_integer
def sp_is_integer : SpD := fun ds M Q => ∃ d, ds = [d] ∧ kok d = true ∧ Q (.bl (isInt d)) M
def T_is_integer : TSd := TRet (TAndV (TCB isiO (TCons (TVar 0) (TCons (TC (.ty "int")) (TNil)))) (TNotV (TCB isiO (TCons (TVar 0) (TCons (TC (.ty "bool")) (TNil))))))
theorem len_is_integer : ∀ ds M Q, sp_is_integer ds M Q → ds.length = 1 := fun _ _ _ ⟨_, e, _⟩ => by rw [e]; rfl
theorem body_is_integer : ∀ (ds : List D) (M : Mem) (Q : D → Mem → Prop), sp_is_integer ds M Q → T_is_integer ⟨fun _ M' => Q .non M', Q, fun _ _ => False, fun _ _ => False⟩ (startD ["value"] ds) M := by
  rintro _ M Q ⟨d, rfl, hd, q⟩
  show T_is_integer _ [.val d] M
  simp only [T_is_integer, TSeq, IZip, TRet, TRetN, DL.TSet, TDrop, TIf, TPar, TAsg, TFor, TFrz, frz, TSetOwn, TApp, TExt, TVar, TC, TBin, TTst, TChain, TAnd, TOr, TNot, TAndV, TOrV, TNotV, TIfE, TNil, TCons, TTup, TLst, TCB, TBM, TBM0, TPart, TNoPart, TSl, TNeg, GName, GNil, GCons, GTup, IList, ITup, IRng1, IRng2, IStr, TLstF, TCall, TYes, TNext, TPur, GPur, TRetP, unown_nil, unown_cons, un1, wipeD, List.getElem?_cons_zero, List.getElem?_cons_succ, List.set_cons_zero, List.set_cons_succ, List.set_nil, isD, beq_self_eq_true, isiO_int hd, isiO_bool hd]
  cases d <;> first | exact q | (cases hd; done)
-- is_number
def isNum (v : D) (lo hi : Int) : Bool := match v with
  | .int i => decide (lo ≤ i) && decide (i ≤ hi)
  | _ => false
def sp_is_number : SpD := fun ds M Q => ∃ v lo hi, ds = [v, .int lo, .int hi] ∧ kok v = true ∧ Q (.bl (isNum v lo hi)) M
def T_is_number : TSd := TRet (TAndV (TCall sp_is_integer (TCons (TVar 0) (TNil))) (TChain leO leO (TVar 1) (TVar 0) (TVar 2)))
theorem len_is_number : ∀ ds M Q, sp_is_number ds M Q → ds.length = 3 := fun _ _ _ ⟨_, _, _, e, _⟩ => by rw [e]; rfl
theorem body_is_number : ∀ (ds : List D) (M : Mem) (Q : D → Mem → Prop), sp_is_number ds M Q → T_is_number ⟨fun _ M' => Q .non M', Q, fun _ _ => False, fun _ _ => False⟩ (startD ["value", "least", "most"] ds) M := by
  rintro _ M Q ⟨v, lo, hi, rfl, hv, q⟩
  show T_is_number _ [.val v, .val (.int lo), .val (.int hi)] M
  simp only [T_is_number, TSeq, IZip, TRet, TRetN, DL.TSet, TDrop, TIf, TPar, TAsg, TFor, TFrz, frz, TSetOwn, TApp, TExt, TVar, TC, TBin, TTst, TChain, TAnd, TOr, TNot, TAndV, TOrV, TNotV, TIfE, TNil, TCons, TTup, TLst, TCB, TBM, TBM0, TPart, TNoPart, TSl, TNeg, GName, GNil, GCons, GTup, IList, ITup, IRng1, IRng2, IStr, TLstF, TCall, TYes, TNext, TPur, GPur, TRetP, unown_nil, unown_cons, un1, wipeD, List.getElem?_cons_zero, List.getElem?_cons_succ, List.set_cons_zero, List.set_cons_succ, List.set_nil, isD, beq_self_eq_true]
  refine ⟨v, rfl, hv, ?_⟩
  cases v with
  | int i =>
    simp only [isInt, leO, i20, isNum] at q ⊢
    by_cases h : lo ≤ i
    · simp only [h, decide_true, Bool.true_and] at q ⊢; exact q
    · simp only [h, decide_false, Bool.false_and] at q ⊢; exact q
  | _ => exact q
-- is_signs
def isSigns (v : D) (many : Int) : Bool := match v with
  | .str z => decide ((z.length : Int) = many) && decide (((tl z).count 48 : Int) + ((tl z).count 49 : Int) = many)
  | _ => false
def sp_is_signs : SpD := fun ds M Q => ∃ v many, ds = [v, .int many] ∧ kok v = true ∧ Q (.bl (isSigns v many)) M
def T_is_signs : TSd := TRet (TAndV (TCB isiO (TCons (TVar 0) (TCons (TC (.ty "str")) (TNil)))) (TAndV (TBin eqOp (TCB lenO (TCons (TVar 0) (TNil))) (TVar 1)) (TBin eqOp (TBin addO (TBM "str" countO (TVar 0) (TCons (TC (.str "0")) (TNil))) (TBM "str" countO (TVar 0) (TCons (TC (.str "1")) (TNil)))) (TVar 1))))
theorem len_is_signs : ∀ ds M Q, sp_is_signs ds M Q → ds.length = 2 := fun _ _ _ ⟨_, _, e, _⟩ => by rw [e]; rfl
theorem eq_ii (i j : Int) (k : D → Prop) : eqOp (.int i) (.int j) k = k (.bl (decide (i = j))) := by
  have : eqvD (.int i) (.int j) = decide (i = j) := by
    show (i == j) = _
    by_cases h : i = j <;> simp [h]
  unfold eqOp
  rw [this]
  simp [isPy, dep]
theorem ne_ii (i j : Int) (k : D → Prop) : neOp (.int i) (.int j) k = k (.bl (!decide (i = j))) := by
  have : eqvD (.int i) (.int j) = decide (i = j) := by
    show (i == j) = _
    by_cases h : i = j <;> simp [h]
  unfold neOp
  rw [this]
  simp [isPy, dep]
theorem eq_ss (i j : Str) (k : D → Prop) : eqOp (.str i) (.str j) k = k (.bl (decide (i = j))) := by
  have : eqvD (.str i) (.str j) = decide (i = j) := by
    show (i == j) = _
    by_cases h : i = j <;> simp [h]
  unfold eqOp
  rw [this]
  simp [isPy, dep]
theorem eq_bb (i j : Bool) (k : D → Prop) : eqOp (.bl i) (.bl j) k = k (.bl (i == j)) := by
  have : eqvD (.bl i) (.bl j) = (i == j) := rfl
  unfold eqOp
  rw [this]
  simp [isPy, dep]
theorem body_is_signs : ∀ (ds : List D) (M : Mem) (Q : D → Mem → Prop), sp_is_signs ds M Q → T_is_signs ⟨fun _ M' => Q .non M', Q, fun _ _ => False, fun _ _ => False⟩ (startD ["value", "many"] ds) M := by
  rintro _ M Q ⟨v, many, rfl, hv, q⟩
  show T_is_signs _ [.val v, .val (.int many)] M
  simp only [T_is_signs, TSeq, IZip, TRet, TRetN, DL.TSet, TDrop, TIf, TPar, TAsg, TFor, TFrz, frz, TSetOwn, TApp, TExt, TVar, TC, TBin, TTst, TChain, TAnd, TOr, TNot, TAndV, TOrV, TNotV, TIfE, TNil, TCons, TTup, TLst, TCB, TBM, TBM0, TPart, TNoPart, TSl, TNeg, GName, GNil, GCons, GTup, IList, ITup, IRng1, IRng2, IStr, TLstF, TCall, TYes, TNext, TPur, GPur, TRetP, unown_nil, unown_cons, un1, wipeD, List.getElem?_cons_zero, List.getElem?_cons_succ, List.set_cons_zero, List.set_cons_succ, List.set_nil, isD, beq_self_eq_true, isiO_str hv]
  cases v with
  | str z =>
    have c0 : Txt.count z (Str.ofString "0") = ((tl z).count 48 : Int) := count_one z 48
    have c1 : Txt.count z (Str.ofString "1") = ((tl z).count 49 : Int) := count_one z 49
    simp only [isStr, isSigns, lenO, lenD, eq_ii, countO, addO, isD, c0, c1] at q ⊢
    by_cases h : (z.length : Int) = many
    · simp only [h, decide_true, Bool.true_and] at q ⊢
      exact ⟨trivial, trivial, q⟩
    · simp only [h, decide_false, Bool.false_and] at q ⊢; exact q
  | _ => exact q
-- is_rising
def rising (xs : List Str) : Bool := (List.range (xs.length - 1)).all fun k => decide (tl (xs.getD k Str.empty) < tl (xs.getD (k + 1) Str.empty))
def sp_is_rising : SpD := fun ds M Q => ∃ xs : List Str, ds = [lstS xs] ∧ xs.length ≤ 16777215 ∧ Q (.bl (rising xs)) M
def T_is_rising : TSd := TRet (TCB allO (TCons (TLc (IRng1 (TCons (TBin subO (TCB lenO (TCons (TVar 0) (TNil))) (TC (.int 1))) (TNil))) (GName 1) (TYes) (TBin ltSO (TBin ixO (TVar 0) (TVar 1)) (TBin ixO (TVar 0) (TBin addO (TVar 1) (TC (.int 1))))) [1]) (TNil)))
theorem len_is_rising : ∀ ds M Q, sp_is_rising ds M Q → ds.length = 1 := fun _ _ _ ⟨_, e, _⟩ => by rw [e]; rfl
theorem getD_of {xs : List Str} {k : Nat} (h : k < xs.length) : (xs.map D.str)[k]? = some (.str (xs.getD k Str.empty)) := by
  rw [List.getElem?_map, List.getD_eq_getElem?_getD]
  simp [h]
theorem body_is_rising : ∀ (ds : List D) (M : Mem) (Q : D → Mem → Prop), sp_is_rising ds M Q → T_is_rising ⟨fun _ M' => Q .non M', Q, fun _ _ => False, fun _ _ => False⟩ (startD ["values", "k"] ds) M := by
  rintro _ M Q ⟨xs, rfl, hl, q⟩
  show T_is_rising _ [.val (lstS xs), .no] M
  simp only [T_is_rising, TSeq, IZip, TRet, TRetN, DL.TSet, TDrop, TIf, TPar, TAsg, TFor, TFrz, frz, TSetOwn, TApp, TExt, TVar, TC, TBin, TTst, TChain, TAnd, TOr, TNot, TAndV, TOrV, TNotV, TIfE, TNil, TCons, TTup, TLst, TCB, TBM, TBM0, TPart, TNoPart, TSl, TNeg, GName, GNil, GCons, GTup, IList, ITup, IRng1, IRng2, IStr, TLstF, TCall, TYes, TNext, TPur, GPur, TRetP, unown_nil, unown_cons, un1, wipeD, List.getElem?_cons_zero, List.getElem?_cons_succ, List.set_cons_zero, List.set_cons_succ, List.set_nil, isD, beq_self_eq_true, TLc, TLcF, lenO, lstS, lenD, subO, i20, List.length_map]
  refine ⟨⟨by omega, by omega⟩, by simp [rangeD]; omega, ?_⟩
  rw [show (((xs.length : Int) - 1)) = (((xs.length : Int) - 1)) from rfl, rangeD_map, List.map_map]
  have e : ((xs.length : Int) - 1 - 0).toNat = xs.length - 1 := by omega
  rw [e]
  refine lcD_m (D.int ∘ fun (k : Nat) => 0 + (k : Int)) (fun k => .bl (decide (tl (xs.getD k Str.empty) < tl (xs.getD (k + 1) Str.empty)))) _ _ (fun k hk K1 h1 => ?_) ?_
  · have hk := List.mem_range.mp hk
    simp only [Function.comp, TSeq, IZip, TRet, TRetN, DL.TSet, TDrop, TIf, TPar, TAsg, TFor, TFrz, frz, TSetOwn, TApp, TExt, TVar, TC, TBin, TTst, TChain, TAnd, TOr, TNot, TAndV, TOrV, TNotV, TIfE, TNil, TCons, TTup, TLst, TCB, TBM, TBM0, TPart, TNoPart, TSl, TNeg, GName, GNil, GCons, GTup, IList, ITup, IRng1, IRng2, IStr, TLstF, TCall, TYes, TNext, TPur, GPur, TRetP, unown_nil, unown_cons, un1, wipeD, List.getElem?_cons_zero, List.getElem?_cons_succ, List.set_cons_zero, List.set_cons_succ, List.set_nil, isD, beq_self_eq_true, ixO, addO, i20]
    have e1 : (0 + (k : Int)) = (k : Int) := by omega
    have e2 : ((k : Int) + 1) = ((k + 1 : Nat) : Int) := by omega
    simp only [e1, e2, atI_nat, getD_of (show k < xs.length by omega), getD_of (show k + 1 < xs.length by omega), ltSO]
    exact h1
  · unfold allO
    simp only [blsOf_map]
    rw [List.all_map]
    exact q
-- ways_in
def pieces (z : Str) : List Str := (splitZ 32 (tl z)).map mkS
def waysIn (v : D) : D := match v with
  | .str z => if z = "none" then .tup [] else if (pieces z).all (fun y => decide (y ∈ WAYSZ)) && rising (pieces z) then tupS (pieces z) else .non
  | _ => .non
def sp_ways_in : SpD := fun ds M Q => ∃ v, ds = [v] ∧ kok v = true ∧ (∀ z, v = .str z → z.length ≤ 16777213) ∧ Q (waysIn v) M
def T_ways_in : TSd := TSeq (TIf (TNot (TTst (TCB isiO (TCons (TVar 0) (TCons (TC (.ty "str")) (TNil)))))) (TRet (TC .non)) (TNext))
  (TSeq (TIf (TTst (TBin eqOp (TVar 0) (TC (.str "none")))) (TRet (TTup (TNil))) (TNext))
  (TSeq (TSet 1 (TBM "str" splitO (TVar 0) (TCons (TC (.str " ")) (TNil))))
  (TRet (TIfE (TAnd (TTst (TCB allO (TCons (TLc (IList (TVar 1)) (GName 2) (TYes) (TBin (inO false) (TVar 2) (TC (.tup WAYSD))) [2]) (TNil)))) (TTst (TCall sp_is_rising (TCons (TVar 1) (TNil))))) (TCB tupO (TCons (TVar 1) (TNil))) (TC .non)))))
theorem len_ways_in : ∀ ds M Q, sp_ways_in ds M Q → ds.length = 1 := fun _ _ _ ⟨_, e, _⟩ => by rw [e]; rfl
theorem pieces_len (z : Str) : (pieces z).length ≤ z.length + 1 := by
  unfold pieces splitZ
  rw [List.length_map, len_tl]
  exact spl_len [32] (tl z) 0 []
theorem split_sp (z : Str) (k : D → Prop) : splitO (.str z) [.str " "] k = (z.length ≤ 16777214 ∧ k (lstS (pieces z))) := by
  unfold splitO
  have e : lstS (pieces z) = .lst ((splitZ 32 (tl z)).map fun l => .str (mkS l)) := by
    unfold lstS pieces
    rw [List.map_map]
    rfl
  rw [e]
  show ((32 < 256 ∧ z.length ≤ 16777214) ∧ _) = _
  simp
theorem body_ways_in : ∀ (ds : List D) (M : Mem) (Q : D → Mem → Prop), sp_ways_in ds M Q → T_ways_in ⟨fun _ M' => Q .non M', Q, fun _ _ => False, fun _ _ => False⟩ (startD ["text", "ways", "way"] ds) M := by
  rintro _ M Q ⟨v, rfl, hv, hz, q⟩
  show T_ways_in _ [.val v, .no, .no] M
  simp only [T_ways_in, TSeq, IZip, TRet, TRetN, DL.TSet, TDrop, TIf, TPar, TAsg, TFor, TFrz, frz, TSetOwn, TApp, TExt, TVar, TC, TBin, TTst, TChain, TAnd, TOr, TNot, TAndV, TOrV, TNotV, TIfE, TNil, TCons, TTup, TLst, TCB, TBM, TBM0, TPart, TNoPart, TSl, TNeg, GName, GNil, GCons, GTup, IList, ITup, IRng1, IRng2, IStr, TLstF, TCall, TYes, TNext, TPur, GPur, TRetP, unown_nil, unown_cons, un1, wipeD, List.getElem?_cons_zero, List.getElem?_cons_succ, List.set_cons_zero, List.set_cons_succ, List.set_nil, isD, beq_self_eq_true, isiO_str hv]
  cases v with
  | str z =>
    have hz := hz z rfl
    simp only [isStr, Bool.not_true, TSeq, IZip, TRet, TRetN, DL.TSet, TDrop, TIf, TPar, TAsg, TFor, TFrz, frz, TSetOwn, TApp, TExt, TVar, TC, TBin, TTst, TChain, TAnd, TOr, TNot, TAndV, TOrV, TNotV, TIfE, TNil, TCons, TTup, TLst, TCB, TBM, TBM0, TPart, TNoPart, TSl, TNeg, GName, GNil, GCons, GTup, IList, ITup, IRng1, IRng2, IStr, TLstF, TCall, TYes, TNext, TPur, GPur, TRetP, unown_nil, unown_cons, un1, wipeD, List.getElem?_cons_zero, List.getElem?_cons_succ, List.set_cons_zero, List.set_cons_succ, List.set_nil, isD, beq_self_eq_true, eq_ss]
    by_cases h0 : z = "none"
    · simp only [h0, decide_true, TSeq, IZip, TRet, TRetN, DL.TSet, TDrop, TIf, TPar, TAsg, TFor, TFrz, frz, TSetOwn, TApp, TExt, TVar, TC, TBin, TTst, TChain, TAnd, TOr, TNot, TAndV, TOrV, TNotV, TIfE, TNil, TCons, TTup, TLst, TCB, TBM, TBM0, TPart, TNoPart, TSl, TNeg, GName, GNil, GCons, GTup, IList, ITup, IRng1, IRng2, IStr, TLstF, TCall, TYes, TNext, TPur, GPur, TRetP, unown_nil, unown_cons, un1, wipeD, List.getElem?_cons_zero, List.getElem?_cons_succ, List.set_cons_zero, List.set_cons_succ, List.set_nil, isD, beq_self_eq_true]
      refine ⟨by decide, ?_⟩
      simp only [waysIn, h0, if_true] at q
      exact q
    · simp only [waysIn, h0, if_false] at q
      simp only [h0, decide_false, TSeq, IZip, TRet, TRetN, DL.TSet, TDrop, TIf, TPar, TAsg, TFor, TFrz, frz, TSetOwn, TApp, TExt, TVar, TC, TBin, TTst, TChain, TAnd, TOr, TNot, TAndV, TOrV, TNotV, TIfE, TNil, TCons, TTup, TLst, TCB, TBM, TBM0, TPart, TNoPart, TSl, TNeg, GName, GNil, GCons, GTup, IList, ITup, IRng1, IRng2, IStr, TLstF, TCall, TYes, TNext, TPur, GPur, TRetP, unown_nil, unown_cons, un1, wipeD, List.getElem?_cons_zero, List.getElem?_cons_succ, List.set_cons_zero, List.set_cons_succ, List.set_nil, isD, beq_self_eq_true, split_sp]
      refine ⟨trivial, by omega, ?_⟩
      simp only [lstS, TLc, TLcF, TSeq, IZip, TRet, TRetN, DL.TSet, TDrop, TIf, TPar, TAsg, TFor, TFrz, frz, TSetOwn, TApp, TExt, TVar, TC, TBin, TTst, TChain, TAnd, TOr, TNot, TAndV, TOrV, TNotV, TIfE, TNil, TCons, TTup, TLst, TCB, TBM, TBM0, TPart, TNoPart, TSl, TNeg, GName, GNil, GCons, GTup, IList, ITup, IRng1, IRng2, IStr, TLstF, TCall, TYes, TNext, TPur, GPur, TRetP, unown_nil, unown_cons, un1, wipeD, List.getElem?_cons_zero, List.getElem?_cons_succ, List.set_cons_zero, List.set_cons_succ, List.set_nil, isD, beq_self_eq_true]
      refine ⟨by rw [List.length_map]; have := pieces_len z; omega, ?_⟩
      refine lcD_m D.str (fun y => .bl (decide (y ∈ WAYSZ))) _ _ (fun y hy K1 h1 => ?_) ?_
      · simp only [TSeq, IZip, TRet, TRetN, DL.TSet, TDrop, TIf, TPar, TAsg, TFor, TFrz, frz, TSetOwn, TApp, TExt, TVar, TC, TBin, TTst, TChain, TAnd, TOr, TNot, TAndV, TOrV, TNotV, TIfE, TNil, TCons, TTup, TLst, TCB, TBM, TBM0, TPart, TNoPart, TSl, TNeg, GName, GNil, GCons, GTup, IList, ITup, IRng1, IRng2, IStr, TLstF, TCall, TYes, TNext, TPur, GPur, TRetP, unown_nil, unown_cons, un1, wipeD, List.getElem?_cons_zero, List.getElem?_cons_succ, List.set_cons_zero, List.set_cons_succ, List.set_nil, isD, beq_self_eq_true, inO]
        refine ⟨⟨rfl, flat_strs _⟩, ?_⟩
        rw [WAYSD, inD_strs]
        exact h1
      · unfold allO
        simp only [blsOf_map, List.all_map]
        have ha : ((pieces z).all (id ∘ fun y => decide (y ∈ WAYSZ))) = (pieces z).all (fun y => decide (y ∈ WAYSZ)) := rfl
        rw [ha]
        cases hA : (pieces z).all (fun y => decide (y ∈ WAYSZ)) with
        | false => rw [hA] at q; exact q
        | true =>
          rw [hA, Bool.true_and] at q
          refine ⟨pieces z, rfl, by have := pieces_len z; omega, ?_⟩
          cases hR : rising (pieces z) with
          | false => rw [hR] at q; exact q
          | true => rw [hR] at q; exact q
  | _ => first | (cases hv; done) | exact q
-- plan_in
def sizesZ : List Str := (List.range 64).map fun k => numS (k + 1) ++ Str.ofString ":"
def sizeIx (p : Str) : Nat := ((indexD (.str p) (sizesZ.map D.str)).getD 0)
def planIn (v : D) : D := match v with
  | .str z => match pieces z with
    | [] => .non
    | p :: r => if decide (p ∈ sizesZ) && decide (r.length ≤ 64) then (if r.all (fun t => isSigns (.str t) ((sizeIx p : Int) + 1)) then .tup [.int ((sizeIx p : Int) + 1), lstS r] else .non) else .non
  | _ => .non
def sp_plan_in : SpD := fun ds M Q => ∃ v, ds = [v] ∧ kok v = true ∧ (∀ z, v = .str z → z.length ≤ 16777213) ∧ Q (planIn v) M
def T_plan_in : TSd := TSeq (TIf (TNot (TTst (TCB isiO (TCons (TVar 0) (TCons (TC (.ty "str")) (TNil)))))) (TRet (TC .non)) (TNext))
  (TSeq (TSet 1 (TBM "str" splitO (TVar 0) (TCons (TC (.str " ")) (TNil))))
  (TSeq (TSet 2 (TLc (IRng1 (TCons (TC (.int 64)) (TNil))) (GName 5) (TYes) (TFStr [TFmt (TBin addO (TVar 5) (TC (.int 1))), TC (.str ":")]) [5]))
  (TSeq (TIf (TOr (TTst (TBin (inO true) (TBin ixO (TVar 1) (TC (.int 0))) (TVar 2))) (TTst (TBin gtO (TBin subO (TCB lenO (TCons (TVar 1) (TNil))) (TC (.int 1))) (TC (.int 64))))) (TRet (TC .non)) (TNext))
  (TSeq (TAsg (TTup (TCons (TBin addO (TBM "list" indexO (TVar 2) (TCons (TBin ixO (TVar 1) (TC (.int 0))) (TNil))) (TC (.int 1))) (TCons (TSl slO (TVar 1) (TPart (TC (.int 1))) (TNoPart)) (TNil)))) (GTup 2 (GCons (GName 3) (GCons (GName 4) (GNil)))))
  (TRet (TIfE (TTst (TCB allO (TCons (TLc (IList (TVar 4)) (GName 6) (TYes) (TCall sp_is_signs (TCons (TVar 6) (TCons (TVar 3) (TNil)))) [6]) (TNil)))) (TTup (TCons (TVar 3) (TCons (TVar 4) (TNil)))) (TC .non)))))))
theorem len_plan_in : ∀ ds M Q, sp_plan_in ds M Q → ds.length = 1 := fun _ _ _ ⟨_, e, _⟩ => by rw [e]; rfl
theorem spl_ne (S : List Nat) : ∀ (l : List Nat) (k : Nat) (acc : List Nat), spl S k acc l ≠ []
  | [], k, acc => by rw [spl_nil]; simp
  | x :: l, k, acc => by
    cases k with
    | succ k => rw [spl]; exact spl_ne S l k acc
    | zero =>
      by_cases hp : pre S (x :: l) = true
      · rw [spl_hit hp]; simp
      · have hp' : pre S (x :: l) = false := by simpa using hp
        rw [spl_miss hp']; exact spl_ne S l 0 _
theorem pieces_ne (z : Str) : pieces z ≠ [] := by
  unfold pieces splitZ
  intro h
  exact spl_ne _ _ _ _ (List.map_eq_nil_iff.mp h)
theorem empty_app (x : Str) : Str.empty ++ x = x := ext_tl (by rw [tl_app]; rfl)
theorem numS_len : ∀ k < 64, (numS (k + 1)).length ≤ 2 := by decide +kernel
theorem indexD_mem {p : Str} : ∀ {xs : List Str}, p ∈ xs → ∃ j, indexD (.str p) (xs.map D.str) = some j
  | [], h => by cases h
  | x :: r, h => by
    rw [List.map_cons, indexD]
    by_cases e : eqvD (.str x) (.str p) = true
    · rw [if_pos e]; exact ⟨0, rfl⟩
    · rw [if_neg e]
      have : p ∈ r := by
        rcases List.mem_cons.mp h with h | h
        · subst h; exact absurd (by show (p == p) = true; simp) e
        · exact h
      obtain ⟨j, hj⟩ := indexD_mem this
      rw [hj]
      exact ⟨j + 1, rfl⟩
theorem atI_zero {α : Type} (x : α) (xs : List α) : atI (x :: xs) 0 = some x := atI_nat (x :: xs) 0
theorem cutD_tail (x : D) (xs : List D) : cutD (x :: xs) (some 1) none = xs := by
  unfold cutD
  simp [HT.sIx]
theorem body_plan_in : ∀ (ds : List D) (M : Mem) (Q : D → Mem → Prop), sp_plan_in ds M Q → T_plan_in ⟨fun _ M' => Q .non M', Q, fun _ _ => False, fun _ _ => False⟩ (startD ["text", "pieces", "sizes", "many", "trials", "k", "trial"] ds) M := by
  rintro _ M Q ⟨v, rfl, hv, hz, q⟩
  show T_plan_in _ [.val v, .no, .no, .no, .no, .no, .no] M
  simp only [T_plan_in, TSeq, IZip, TRet, TRetN, DL.TSet, TDrop, TIf, TPar, TAsg, TFor, TFrz, frz, TSetOwn, TApp, TExt, TVar, TC, TBin, TTst, TChain, TAnd, TOr, TNot, TAndV, TOrV, TNotV, TIfE, TNil, TCons, TTup, TLst, TCB, TBM, TBM0, TPart, TNoPart, TSl, TNeg, GName, GNil, GCons, GTup, IList, ITup, IRng1, IRng2, IStr, TLstF, TCall, TYes, TNext, TPur, GPur, TRetP, unown_nil, unown_cons, un1, wipeD, List.getElem?_cons_zero, List.getElem?_cons_succ, List.set_cons_zero, List.set_cons_succ, List.set_nil, isD, beq_self_eq_true, isiO_str hv]
  cases v with
  | str z =>
    have hz := hz z rfl
    simp only [isStr, Bool.not_true, TSeq, IZip, TRet, TRetN, DL.TSet, TDrop, TIf, TPar, TAsg, TFor, TFrz, frz, TSetOwn, TApp, TExt, TVar, TC, TBin, TTst, TChain, TAnd, TOr, TNot, TAndV, TOrV, TNotV, TIfE, TNil, TCons, TTup, TLst, TCB, TBM, TBM0, TPart, TNoPart, TSl, TNeg, GName, GNil, GCons, GTup, IList, ITup, IRng1, IRng2, IStr, TLstF, TCall, TYes, TNext, TPur, GPur, TRetP, unown_nil, unown_cons, un1, wipeD, List.getElem?_cons_zero, List.getElem?_cons_succ, List.set_cons_zero, List.set_cons_succ, List.set_nil, isD, beq_self_eq_true, split_sp]
    refine ⟨trivial, by omega, ?_⟩
    simp only [TLc, TLcF, TSeq, IZip, TRet, TRetN, DL.TSet, TDrop, TIf, TPar, TAsg, TFor, TFrz, frz, TSetOwn, TApp, TExt, TVar, TC, TBin, TTst, TChain, TAnd, TOr, TNot, TAndV, TOrV, TNotV, TIfE, TNil, TCons, TTup, TLst, TCB, TBM, TBM0, TPart, TNoPart, TSl, TNeg, GName, GNil, GCons, GTup, IList, ITup, IRng1, IRng2, IStr, TLstF, TCall, TYes, TNext, TPur, GPur, TRetP, unown_nil, unown_cons, un1, wipeD, List.getElem?_cons_zero, List.getElem?_cons_succ, List.set_cons_zero, List.set_cons_succ, List.set_nil, isD, beq_self_eq_true]
    refine ⟨by decide, by decide, ?_⟩
    rw [show (rangeD 0 64) = (List.range 64).map (fun (k : Nat) => D.int (k : Int)) from rangeD_n 64]
    refine lcD_m (fun (k : Nat) => D.int (k : Int)) (fun k => .str (numS (k + 1) ++ Str.ofString ":")) _ _ (fun k hk K1 h1 => ?_) ?_
    · have hk := List.mem_range.mp hk
      simp only [TSeq, IZip, TRet, TRetN, DL.TSet, TDrop, TIf, TPar, TAsg, TFor, TFrz, frz, TSetOwn, TApp, TExt, TVar, TC, TBin, TTst, TChain, TAnd, TOr, TNot, TAndV, TOrV, TNotV, TIfE, TNil, TCons, TTup, TLst, TCB, TBM, TBM0, TPart, TNoPart, TSl, TNeg, GName, GNil, GCons, GTup, IList, ITup, IRng1, IRng2, IStr, TLstF, TCall, TYes, TNext, TPur, GPur, TRetP, unown_nil, unown_cons, un1, wipeD, List.getElem?_cons_zero, List.getElem?_cons_succ, List.set_cons_zero, List.set_cons_succ, List.set_nil, isD, beq_self_eq_true, TFStr, TJs, TFmt, addO]
      have e1 : ((k : Int) + 1).toNat = k + 1 := by omega
      refine ⟨by omega, ?_⟩
      simp only [e1, empty_app]
      have := numS_len k hk
      have h3 : (Str.ofString ":").length = 1 := by decide +kernel
      have h4 : Str.empty.length = 0 := by decide +kernel
      refine ⟨by omega, by omega, h1⟩
    · have es : (List.range 64).map (fun k => D.str (numS (k + 1) ++ Str.ofString ":")) = sizesZ.map D.str := by unfold sizesZ; rw [List.map_map]; rfl
      rw [es]
      have hp := pieces_ne z
      have hpl := pieces_len z
      unfold planIn at q
      simp only at q
      generalize pieces z = ps at q hp hpl ⊢
      cases ps with
      | nil => exact absurd rfl hp
      | cons p r =>
        simp only at q
        simp only [TSeq, IZip, TRet, TRetN, DL.TSet, TDrop, TIf, TPar, TAsg, TFor, TFrz, frz, TSetOwn, TApp, TExt, TVar, TC, TBin, TTst, TChain, TAnd, TOr, TNot, TAndV, TOrV, TNotV, TIfE, TNil, TCons, TTup, TLst, TCB, TBM, TBM0, TPart, TNoPart, TSl, TNeg, GName, GNil, GCons, GTup, IList, ITup, IRng1, IRng2, IStr, TLstF, TCall, TYes, TNext, TPur, GPur, TRetP, unown_nil, unown_cons, un1, wipeD, List.getElem?_cons_zero, List.getElem?_cons_succ, List.set_cons_zero, List.set_cons_succ, List.set_nil, isD, beq_self_eq_true, lstS, List.map_cons, ixO, atI_zero, inO, lenO, lenD, subO, gtO, i20, List.length_cons, List.length_map]
        refine ⟨⟨rfl, flat_strs _⟩, ?_⟩
        rw [inD_strs]
        simp only [if_true]
        by_cases h1 : p ∈ sizesZ
        · simp only [h1, decide_true, Bool.not_true, TSeq, IZip, TRet, TRetN, DL.TSet, TDrop, TIf, TPar, TAsg, TFor, TFrz, frz, TSetOwn, TApp, TExt, TVar, TC, TBin, TTst, TChain, TAnd, TOr, TNot, TAndV, TOrV, TNotV, TIfE, TNil, TCons, TTup, TLst, TCB, TBM, TBM0, TPart, TNoPart, TSl, TNeg, GName, GNil, GCons, GTup, IList, ITup, IRng1, IRng2, IStr, TLstF, TCall, TYes, TNext, TPur, GPur, TRetP, unown_nil, unown_cons, un1, wipeD, List.getElem?_cons_zero, List.getElem?_cons_succ, List.set_cons_zero, List.set_cons_succ, List.set_nil, isD, beq_self_eq_true]
          have e1 : (((r.length + 1 : Nat) : Int) - 1) = (r.length : Int) := by omega
          simp only [e1]
          by_cases h2 : r.length ≤ 64
          · have h3 : decide ((64 : Int) < (r.length : Int)) = false := by simp; omega
            simp only [h3, TSeq, IZip, TRet, TRetN, DL.TSet, TDrop, TIf, TPar, TAsg, TFor, TFrz, frz, TSetOwn, TApp, TExt, TVar, TC, TBin, TTst, TChain, TAnd, TOr, TNot, TAndV, TOrV, TNotV, TIfE, TNil, TCons, TTup, TLst, TCB, TBM, TBM0, TPart, TNoPart, TSl, TNeg, GName, GNil, GCons, GTup, IList, ITup, IRng1, IRng2, IStr, TLstF, TCall, TYes, TNext, TPur, GPur, TRetP, unown_nil, unown_cons, un1, wipeD, List.getElem?_cons_zero, List.getElem?_cons_succ, List.set_cons_zero, List.set_cons_succ, List.set_nil, isD, beq_self_eq_true, indexO]
            obtain ⟨j, hj⟩ := indexD_mem h1
            refine ⟨trivial, ⟨rfl, flat_strs _⟩, ?_⟩
            have hj' : sizeIx p = j := by unfold sizeIx; rw [hj]; rfl
            simp only [hj, addO, slO, cutD_tail]
            refine ⟨by decide, by decide, ?_⟩
            refine ⟨by rw [List.length_map]; omega, ?_⟩
            refine lcD_m D.str (fun y => .bl (isSigns (.str y) ((j : Int) + 1))) _ _ (fun y hy K1 h1 => ?_) ?_
            · simp only [TSeq, IZip, TRet, TRetN, DL.TSet, TDrop, TIf, TPar, TAsg, TFor, TFrz, frz, TSetOwn, TApp, TExt, TVar, TC, TBin, TTst, TChain, TAnd, TOr, TNot, TAndV, TOrV, TNotV, TIfE, TNil, TCons, TTup, TLst, TCB, TBM, TBM0, TPart, TNoPart, TSl, TNeg, GName, GNil, GCons, GTup, IList, ITup, IRng1, IRng2, IStr, TLstF, TCall, TYes, TNext, TPur, GPur, TRetP, unown_nil, unown_cons, un1, wipeD, List.getElem?_cons_zero, List.getElem?_cons_succ, List.set_cons_zero, List.set_cons_succ, List.set_nil, isD, beq_self_eq_true]
              exact ⟨_, _, rfl, rfl, h1⟩
            · unfold allO
              simp only [blsOf_map, List.all_map]
              have ha : (r.all (id ∘ fun y => isSigns (.str y) ((j : Int) + 1))) = r.all (fun y => isSigns (.str y) ((j : Int) + 1)) := rfl
              rw [ha]
              simp only [h1, h2, decide_true, Bool.and_self, if_true, hj'] at q
              cases hA : r.all (fun y => isSigns (.str y) ((j : Int) + 1)) with
              | false => rw [hA] at q; exact q
              | true => rw [hA] at q; exact ⟨by decide, q⟩
          · have h3 : decide ((64 : Int) < (r.length : Int)) = true := by simp; omega
            simp only [h3, TSeq, IZip, TRet, TRetN, DL.TSet, TDrop, TIf, TPar, TAsg, TFor, TFrz, frz, TSetOwn, TApp, TExt, TVar, TC, TBin, TTst, TChain, TAnd, TOr, TNot, TAndV, TOrV, TNotV, TIfE, TNil, TCons, TTup, TLst, TCB, TBM, TBM0, TPart, TNoPart, TSl, TNeg, GName, GNil, GCons, GTup, IList, ITup, IRng1, IRng2, IStr, TLstF, TCall, TYes, TNext, TPur, GPur, TRetP, unown_nil, unown_cons, un1, wipeD, List.getElem?_cons_zero, List.getElem?_cons_succ, List.set_cons_zero, List.set_cons_succ, List.set_nil, isD, beq_self_eq_true]
            simp only [h2, decide_false, Bool.and_false] at q
            exact q
        · simp only [h1, decide_false, Bool.not_false, TSeq, IZip, TRet, TRetN, DL.TSet, TDrop, TIf, TPar, TAsg, TFor, TFrz, frz, TSetOwn, TApp, TExt, TVar, TC, TBin, TTst, TChain, TAnd, TOr, TNot, TAndV, TOrV, TNotV, TIfE, TNil, TCons, TTup, TLst, TCB, TBM, TBM0, TPart, TNoPart, TSl, TNeg, GName, GNil, GCons, GTup, IList, ITup, IRng1, IRng2, IStr, TLstF, TCall, TYes, TNext, TPur, GPur, TRetP, unown_nil, unown_cons, un1, wipeD, List.getElem?_cons_zero, List.getElem?_cons_succ, List.set_cons_zero, List.set_cons_succ, List.set_nil, isD, beq_self_eq_true]
          simp only [h1, decide_false, Bool.false_and] at q
          exact q
  | _ => first | (cases hv; done) | exact q
end DL

namespace DL
open PySem PySem.Spec PyProof.Rows L2 TL
/-! ## faults; the law's own small functions -/
def kok2 (v : D) : Bool := kok v && (match v with | .tup xs => xs.all kok | _ => true)
theorem kok_of {v : D} (h : kok2 v = true) : kok v = true := (Bool.and_eq_true_iff.mp h).1
def isFault (v : D) (many : Int) : Bool := match v with
  | .tup [a, b, c] => isNum a 0 (many - 1) && ((match a with | .int i => isNum b (i + 1) (many - 1) | _ => false) && (match c with | .str s => decide (s ∈ WAYSZ) | _ => false))
  | _ => false
def sp_is_fault : SpD := fun ds M Q => ∃ v many, ds = [v, .int many] ∧ kok2 v = true ∧ Q (.bl (isFault v many)) M
def T_is_fault : TSd := TSeq (TIf (TOr (TNot (TTst (TCB isiO (TCons (TVar 0) (TCons (TC (.ty "tuple")) (TNil)))))) (TTst (TBin neOp (TCB lenO (TCons (TVar 0) (TNil))) (TC (.int 3))))) (TRet (TC (.bl false))) (TNext))
  (TSeq (TAsg (TVar 0) (GTup 3 (GCons (GName 2) (GCons (GName 3) (GCons (GName 4) (GNil))))))
  (TSeq (TIf (TOr (TNot (TTst (TCall sp_is_number (TCons (TVar 2) (TCons (TC (.int 0)) (TCons (TBin subO (TVar 1) (TC (.int 1))) (TNil))))))) (TNot (TTst (TCall sp_is_number (TCons (TVar 3) (TCons (TBin addO (TVar 2) (TC (.int 1))) (TCons (TBin subO (TVar 1) (TC (.int 1))) (TNil)))))))) (TRet (TC (.bl false))) (TNext))
  (TRet (TAndV (TCB isiO (TCons (TVar 4) (TCons (TC (.ty "str")) (TNil)))) (TBin (inO false) (TVar 4) (TC (.tup WAYSD)))))))
theorem len_is_fault : ∀ ds M Q, sp_is_fault ds M Q → ds.length = 2 := fun _ _ _ ⟨_, _, e, _⟩ => by rw [e]; rfl
theorem isNum_int {v : D} {lo hi : Int} (h : isNum v lo hi = true) : ∃ i, v = .int i ∧ lo ≤ i ∧ i ≤ hi := by
  cases v with
  | int i => simp [isNum] at h; exact ⟨i, rfl, h.1, h.2⟩
  | _ => cases h
theorem isFault_ne {xs : List D} {many : Int} (h : xs.length ≠ 3) : isFault (.tup xs) many = false := by
  match xs, h with
  | [], _ => rfl
  | [_], _ => rfl
  | [_, _], _ => rfl
  | [_, _, _], h => exact absurd rfl h
  | _ :: _ :: _ :: _ :: _, _ => rfl
theorem body_is_fault : ∀ (ds : List D) (M : Mem) (Q : D → Mem → Prop), sp_is_fault ds M Q → T_is_fault ⟨fun _ M' => Q .non M', Q, fun _ _ => False, fun _ _ => False⟩ (startD ["value", "many", "one", "other", "way"] ds) M := by
  rintro _ M Q ⟨v, many, rfl, hv, q⟩
  show T_is_fault _ [.val v, .val (.int many), .no, .no, .no] M
  have hk := kok_of hv
  simp only [T_is_fault, TSeq, IZip, TRet, TRetN, DL.TSet, TDrop, TIf, TPar, TAsg, TFor, TFrz, frz, TSetOwn, TApp, TExt, TVar, TC, TBin, TTst, TChain, TAnd, TOr, TNot, TAndV, TOrV, TNotV, TIfE, TNil, TCons, TTup, TLst, TCB, TBM, TBM0, TPart, TNoPart, TSl, TNeg, GName, GNil, GCons, GTup, IList, ITup, IRng1, IRng2, IStr, TLstF, TCall, TYes, TNext, TPur, GPur, TRetP, unown_nil, unown_cons, un1, wipeD, List.getElem?_cons_zero, List.getElem?_cons_succ, List.set_cons_zero, List.set_cons_succ, List.set_nil, isD, beq_self_eq_true, isiO_tup hk]
  cases v with
  | tup xs =>
    simp only [isTup, Bool.not_true, TSeq, IZip, TRet, TRetN, DL.TSet, TDrop, TIf, TPar, TAsg, TFor, TFrz, frz, TSetOwn, TApp, TExt, TVar, TC, TBin, TTst, TChain, TAnd, TOr, TNot, TAndV, TOrV, TNotV, TIfE, TNil, TCons, TTup, TLst, TCB, TBM, TBM0, TPart, TNoPart, TSl, TNeg, GName, GNil, GCons, GTup, IList, ITup, IRng1, IRng2, IStr, TLstF, TCall, TYes, TNext, TPur, GPur, TRetP, unown_nil, unown_cons, un1, wipeD, List.getElem?_cons_zero, List.getElem?_cons_succ, List.set_cons_zero, List.set_cons_succ, List.set_nil, isD, beq_self_eq_true, lenO, lenD, ne_ii]
    by_cases h3 : xs.length = 3
    · match xs, h3 with
      | [a, b, c], _ =>
        have hall := (Bool.and_eq_true_iff.mp hv).2
        simp only [List.all_cons, List.all_nil, Bool.and_true, Bool.and_eq_true] at hall
        obtain ⟨ka, kb, kc⟩ := hall
        simp only [List.length_cons, List.length_nil, show ((0 + 1 + 1 + 1 : Nat) : Int) = 3 from rfl, decide_true, Bool.not_true, TSeq, IZip, TRet, TRetN, DL.TSet, TDrop, TIf, TPar, TAsg, TFor, TFrz, frz, TSetOwn, TApp, TExt, TVar, TC, TBin, TTst, TChain, TAnd, TOr, TNot, TAndV, TOrV, TNotV, TIfE, TNil, TCons, TTup, TLst, TCB, TBM, TBM0, TPart, TNoPart, TSl, TNeg, GName, GNil, GCons, GTup, IList, ITup, IRng1, IRng2, IStr, TLstF, TCall, TYes, TNext, TPur, GPur, TRetP, unown_nil, unown_cons, un1, wipeD, List.getElem?_cons_zero, List.getElem?_cons_succ, List.set_cons_zero, List.set_cons_succ, List.set_nil, isD, beq_self_eq_true, subO, i20]
        refine ⟨trivial, a, 0, many - 1, rfl, ka, ?_⟩
        simp only [isFault] at q
        cases hA : isNum a 0 (many - 1) with
        | false => rw [hA] at q; exact q
        | true =>
          rw [hA] at q
          obtain ⟨i, rfl, _, _⟩ := isNum_int hA
          simp only [Bool.true_and, Bool.not_true] at q ⊢
          simp only [addO]
          refine ⟨b, i + 1, many - 1, rfl, kb, ?_⟩
          cases hB : isNum b (i + 1) (many - 1) with
          | false => rw [hB] at q; exact q
          | true =>
            rw [hB] at q
            simp only [Bool.true_and, Bool.not_true, isiO_str kc] at q ⊢
            cases c with
            | str s =>
              simp only [isStr, inO] at q ⊢
              refine ⟨⟨rfl, flat_strs _⟩, ?_⟩
              rw [WAYSD, inD_strs]
              exact q
            | _ => exact q
    · rw [isFault_ne h3] at q
      have : decide (((xs.length : Nat) : Int) = 3) = false := by simp; omega
      simp only [this, Bool.not_false]
      exact q
  | _ => exact q
-- signs of a row
def sg (r : Str) (i : Int) : Str := ⟨#[(tl r).getD i.toNat 0]⟩
def seen (i j : Int) (r : Str) : Str := sg r i ++ sg r j
theorem atI_int {α : Type} {xs : List α} {i : Int} (d : α) (h0 : 0 ≤ i) (h1 : i < xs.length) : atI xs i = some (xs.getD i.toNat d) := by
  obtain ⟨k, rfl⟩ := Int.eq_ofNat_of_zero_le h0
  rw [atI_nat]
  have : k < xs.length := by omega
  rw [List.getD_eq_getElem?_getD]
  simp [this]
theorem ix_sg {r : Str} {i : Int} {k : D → Prop} (h0 : 0 ≤ i) (h1 : i < r.length) (q : k (.str (sg r i))) : ixO (.str r) (.int i) k := by
  show match atI (tl r) i with | some c => k (.str ⟨#[c]⟩) | none => False
  rw [atI_int 0 h0 (by rw [← len_tl]; exact h1)]
  exact q
theorem sg_len (r : Str) (i : Int) : (sg r i).length = 1 := rfl
theorem add_sg {r : Str} {i j : Int} {k : D → Prop} (q : k (.str (seen i j r))) : addO (.str (sg r i)) (.str (sg r j)) k := ⟨by rw [sg_len, sg_len]; decide, q⟩
def lackB (ws : List Str) (many : Int) (rows : List Str) (v : D) : Bool := isFault v many && (match v with
  | .tup [.int i, .int j, .str s] => decide (s ∈ ws) && !decide (s ∈ rows.map (seen i j))
  | _ => false)
/-- a plan that was read -/
structure GoodP (many : Int) (rows : List Str) : Prop where
  lo : 1 ≤ many
  hi : many ≤ 64
  len : rows.length ≤ 64
  row : ∀ r ∈ rows, (r.length : Int) = many
theorem isFault_tup {v : D} {many : Int} (h : isFault v many = true) : ∃ i j s, v = .tup [.int i, .int j, .str s] ∧ 0 ≤ i ∧ i < j ∧ j < many ∧ s ∈ WAYSZ := by
  unfold isFault at h
  split at h
  · rename_i a b c
    simp only [Bool.and_eq_true] at h
    obtain ⟨h1, h2, h3⟩ := h
    obtain ⟨i, rfl, e1, e2⟩ := isNum_int h1
    obtain ⟨j, rfl, e3, e4⟩ := isNum_int h2
    cases c with
    | str s => exact ⟨i, j, s, rfl, e1, by omega, by omega, of_decide_eq_true h3⟩
    | _ => cases h3
  · cases h
def sp_shows_lacks : SpD := fun ds M Q => ∃ ws many rows v, ds = [tupS ws, .tup [.int many, lstS rows], v] ∧ GoodP many rows ∧ kok2 v = true ∧ Q (.bl (lackB ws many rows v)) M
def T_shows_lacks : TSd := TSeq (TAsg (TVar 1) (GTup 2 (GCons (GName 3) (GCons (GName 4) (GNil)))))
  (TSeq (TIf (TNot (TTst (TCall sp_is_fault (TCons (TVar 2) (TCons (TVar 3) (TNil)))))) (TRet (TC (.bl false))) (TNext))
  (TSeq (TAsg (TVar 2) (GTup 3 (GCons (GName 5) (GCons (GName 6) (GCons (GName 7) (GNil))))))
  (TRet (TAndV (TBin (inO false) (TVar 7) (TVar 0)) (TBin (inO true) (TVar 7) (TLc (IList (TVar 4)) (GName 8) (TYes) (TBin addO (TBin ixO (TVar 8) (TVar 5)) (TBin ixO (TVar 8) (TVar 6))) [8]))))))
theorem len_shows_lacks : ∀ ds M Q, sp_shows_lacks ds M Q → ds.length = 3 := fun _ _ _ ⟨_, _, _, _, e, _⟩ => by rw [e]; rfl
theorem seen_list {ρ : List Sl} {M : Mem} {c i j : Nat} {x y : Int} {rows : List Str} {many : Int} {Q : List D → Mem → Prop} (g : ∀ r ∈ rows, (r.length : Int) = many) (h0 : 0 ≤ x) (h1 : x < y) (h2 : y < many)
    (hi : ∀ v, (ρ.set c v)[i]? = some (.val (.int x))) (hj : ∀ v, (ρ.set c v)[j]? = some (.val (.int y))) (hc : c < ρ.length) (q : Q ((rows.map (seen x y)).map D.str) M) :
    lcD (GName c) TYes (TBin addO (TBin ixO (TVar c) (TVar i)) (TBin ixO (TVar c) (TVar j))) (rows.map D.str) ρ M Q := by
  refine lcD_m D.str (fun r => .str (seen x y r)) _ _ (fun r hr K1 h => ?_) (by rw [List.map_map] at q; exact q)
  have hl := g r hr
  simp only [TSeq, IZip, TRet, TRetN, DL.TSet, TDrop, TIf, TPar, TAsg, TFor, TFrz, frz, TSetOwn, TApp, TExt, TVar, TC, TBin, TTst, TChain, TAnd, TOr, TNot, TAndV, TOrV, TNotV, TIfE, TNil, TCons, TTup, TLst, TCB, TBM, TBM0, TPart, TNoPart, TSl, TNeg, GName, GNil, GCons, GTup, IList, ITup, IRng1, IRng2, IStr, TLstF, TCall, TYes, TNext, TPur, GPur, TRetP, unown_nil, unown_cons, un1, wipeD, List.getElem?_cons_zero, List.getElem?_cons_succ, List.set_cons_zero, List.set_cons_succ, List.set_nil, isD, beq_self_eq_true]
  rw [hi, hj, List.getElem?_set_self hc]
  simp only
  exact ix_sg h0 (by omega) (ix_sg (by omega) (by omega) (add_sg h))
theorem body_shows_lacks : ∀ (ds : List D) (M : Mem) (Q : D → Mem → Prop), sp_shows_lacks ds M Q → T_shows_lacks ⟨fun _ M' => Q .non M', Q, fun _ _ => False, fun _ _ => False⟩ (startD ["ways", "plan", "certificate", "many", "trials", "one", "other", "way", "trial"] ds) M := by
  rintro _ M Q ⟨ws, many, rows, v, rfl, g, hv, q⟩
  show T_shows_lacks _ [.val (tupS ws), .val (.tup [.int many, lstS rows]), .val v, .no, .no, .no, .no, .no, .no] M
  simp only [T_shows_lacks, TSeq, IZip, TRet, TRetN, DL.TSet, TDrop, TIf, TPar, TAsg, TFor, TFrz, frz, TSetOwn, TApp, TExt, TVar, TC, TBin, TTst, TChain, TAnd, TOr, TNot, TAndV, TOrV, TNotV, TIfE, TNil, TCons, TTup, TLst, TCB, TBM, TBM0, TPart, TNoPart, TSl, TNeg, GName, GNil, GCons, GTup, IList, ITup, IRng1, IRng2, IStr, TLstF, TCall, TYes, TNext, TPur, GPur, TRetP, unown_nil, unown_cons, un1, wipeD, List.getElem?_cons_zero, List.getElem?_cons_succ, List.set_cons_zero, List.set_cons_succ, List.set_nil, isD, beq_self_eq_true]
  refine ⟨rfl, v, many, rfl, hv, ?_⟩
  cases hF : isFault v many with
  | false =>
    have e : lackB ws many rows v = false := by unfold lackB; rw [hF]; rfl
    rw [e] at q
    exact q
  | true =>
    obtain ⟨i, j, s, rfl, h0, h1, h2, _⟩ := isFault_tup hF
    simp only [lackB, hF, Bool.true_and] at q
    simp only [Bool.not_true, TSeq, IZip, TRet, TRetN, DL.TSet, TDrop, TIf, TPar, TAsg, TFor, TFrz, frz, TSetOwn, TApp, TExt, TVar, TC, TBin, TTst, TChain, TAnd, TOr, TNot, TAndV, TOrV, TNotV, TIfE, TNil, TCons, TTup, TLst, TCB, TBM, TBM0, TPart, TNoPart, TSl, TNeg, GName, GNil, GCons, GTup, IList, ITup, IRng1, IRng2, IStr, TLstF, TCall, TYes, TNext, TPur, GPur, TRetP, unown_nil, unown_cons, un1, wipeD, List.getElem?_cons_zero, List.getElem?_cons_succ, List.set_cons_zero, List.set_cons_succ, List.set_nil, isD, beq_self_eq_true, tupS, inO, lstS]
    refine ⟨rfl, ⟨rfl, flat_strs _⟩, ?_⟩
    rw [inD_strs]
    cases hW : decide (s ∈ ws) with
    | false => rw [hW] at q; exact q
    | true =>
      simp only [hW, Bool.true_and] at q
      simp only [Bool.false_eq_true, if_false, TLc, TLcF, TSeq, IZip, TRet, TRetN, DL.TSet, TDrop, TIf, TPar, TAsg, TFor, TFrz, frz, TSetOwn, TApp, TExt, TVar, TC, TBin, TTst, TChain, TAnd, TOr, TNot, TAndV, TOrV, TNotV, TIfE, TNil, TCons, TTup, TLst, TCB, TBM, TBM0, TPart, TNoPart, TSl, TNeg, GName, GNil, GCons, GTup, IList, ITup, IRng1, IRng2, IStr, TLstF, TCall, TYes, TNext, TPur, GPur, TRetP, unown_nil, unown_cons, un1, wipeD, List.getElem?_cons_zero, List.getElem?_cons_succ, List.set_cons_zero, List.set_cons_succ, List.set_nil, isD, beq_self_eq_true]
      refine ⟨by rw [List.length_map]; have := g.len; omega, ?_⟩
      refine seen_list g.row h0 h1 h2 (fun _ => rfl) (fun _ => rfl) (by simp) ?_
      refine ⟨⟨rfl, flat_strs _⟩, ?_⟩
      simp only [if_true]
      rw [inD_strs]
      exact q
-- the purse
def sp_law_take : SpD := fun ds M Q => ∃ p n, ds = [.ref p, .int n] ∧ M p = some .purse ∧ 0 < n ∧ n < 1073741824 ∧ ∀ k : Int, 0 ≤ k → k < n → Q (.int k) M
-- ways
def waysOf (n : Int) : List Str := ([("00", 1), ("01", 2), ("10", 4), ("11", 8)] : List (Str × Int)).filterMap fun p => if n / p.2 % 2 = 1 then some p.1 else none
def sp_law_ways : SpD := fun ds M Q => ∃ n : Int, ds = [.int n] ∧ 0 ≤ n ∧ n < 16 ∧ Q (lstS (waysOf n)) M
def T__law_ways : TSd := TRet (TLc (IList (TLst (TCons (TTup (TCons (TC (.str "00")) (TCons (TC (.int 1)) (TNil)))) (TCons (TTup (TCons (TC (.str "01")) (TCons (TC (.int 2)) (TNil)))) (TCons (TTup (TCons (TC (.str "10")) (TCons (TC (.int 4)) (TNil)))) (TCons (TTup (TCons (TC (.str "11")) (TCons (TC (.int 8)) (TNil)))) (TNil))))))) (GTup 2 (GCons (GName 1) (GCons (GName 2) (GNil)))) (TTst (TBin eqOp (TBin modO (TCB intO (TCons (TBin fdivO (TVar 0) (TVar 2)) (TNil))) (TC (.int 2))) (TC (.int 1)))) (TVar 1) [1, 2])
theorem len__law_ways : ∀ ds M Q, sp_law_ways ds M Q → ds.length = 1 := fun _ _ _ ⟨_, e, _⟩ => by rw [e]; rfl
theorem cdiv_small {n z : Int} (h : 0 < z) (h2 : z < 1073741824) : CDiv n z := ⟨h, h2⟩
theorem body__law_ways : ∀ (ds : List D) (M : Mem) (Q : D → Mem → Prop), sp_law_ways ds M Q → T__law_ways ⟨fun _ M' => Q .non M', Q, fun _ _ => False, fun _ _ => False⟩ (startD ["_law_number", "_law_sign", "_law_size"] ds) M := by
  rintro _ M Q ⟨n, rfl, h0, h1, q⟩
  show T__law_ways _ [.val (.int n), .no, .no] M
  simp only [T__law_ways, TLc, TLcF, TSeq, IZip, TRet, TRetN, DL.TSet, TDrop, TIf, TPar, TAsg, TFor, TFrz, frz, TSetOwn, TApp, TExt, TVar, TC, TBin, TTst, TChain, TAnd, TOr, TNot, TAndV, TOrV, TNotV, TIfE, TNil, TCons, TTup, TLst, TCB, TBM, TBM0, TPart, TNoPart, TSl, TNeg, GName, GNil, GCons, GTup, IList, ITup, IRng1, IRng2, IStr, TLstF, TCall, TYes, TNext, TPur, GPur, TRetP, unown_nil, unown_cons, un1, wipeD, List.getElem?_cons_zero, List.getElem?_cons_succ, List.set_cons_zero, List.set_cons_succ, List.set_nil, isD, beq_self_eq_true, List.length_cons, List.length_nil]
  refine ⟨by decide, by decide, by decide, by decide, by decide, by decide, ?_⟩
  refine lcD_fm (xs := ([("00", 1), ("01", 2), ("10", 4), ("11", 8)] : List (Str × Int))) (fun p => .tup [.str p.1, .int p.2]) (fun p => if n / p.2 % 2 = 1 then some (.str p.1) else none) _ (fun p hp K1 K2 k => ?_) ?_
  · have hz : 0 < p.2 ∧ p.2 < 1073741824 := by
      simp only [List.mem_cons, List.not_mem_nil, or_false] at hp
      rcases hp with rfl | rfl | rfl | rfl <;> decide
    simp only [TSeq, IZip, TRet, TRetN, DL.TSet, TDrop, TIf, TPar, TAsg, TFor, TFrz, frz, TSetOwn, TApp, TExt, TVar, TC, TBin, TTst, TChain, TAnd, TOr, TNot, TAndV, TOrV, TNotV, TIfE, TNil, TCons, TTup, TLst, TCB, TBM, TBM0, TPart, TNoPart, TSl, TNeg, GName, GNil, GCons, GTup, IList, ITup, IRng1, IRng2, IStr, TLstF, TCall, TYes, TNext, TPur, GPur, TRetP, unown_nil, unown_cons, un1, wipeD, List.getElem?_cons_zero, List.getElem?_cons_succ, List.set_cons_zero, List.set_cons_succ, List.set_nil, isD, beq_self_eq_true, fdivO, i2, intO, modO, eq_ii, List.length_cons, List.length_nil]
    refine ⟨trivial, hz, by decide, ?_⟩
    by_cases h : n / p.2 % 2 = 1
    · simp only [h, decide_true, if_true] at k ⊢; exact k
    · simp only [h, decide_false, if_false] at k ⊢; exact k
  · have : (([("00", 1), ("01", 2), ("10", 4), ("11", 8)] : List (Str × Int)).filterMap fun p => if n / p.2 % 2 = 1 then some (D.str p.1) else none) = (waysOf n).map D.str := by
      unfold waysOf
      rw [List.map_filterMap]
      refine congrArg (fun f => List.filterMap f _) (funext fun p => ?_)
      split <;> rfl
    rw [this]
    exact q
-- lines
def lineZ (ws : List Str) : Str := if ws = [] then "none" else joinZ " " ws
theorem isPys_strs (xs : List Str) : isPys (xs.map D.str) = true := isPys_all _ fun d hd => by
  obtain ⟨x, _, rfl⟩ := List.mem_map.mp hd
  rfl
theorem deps_strs (xs : List Str) : deps (xs.map D.str) = 0 := Nat.le_zero.mp (deps_le _ fun d hd => by
  obtain ⟨x, _, rfl⟩ := List.mem_map.mp hd
  exact Nat.le_refl _)
theorem eqv_nil (xs : List D) : eqvD (.lst xs) (.lst []) = decide (xs = []) := by
  cases xs with
  | nil => rfl
  | cons x r => rfl
theorem eqv_nilT (xs : List D) : eqvD (.tup xs) (.tup []) = decide (xs = []) := by
  cases xs with
  | nil => rfl
  | cons x r => rfl
def sp_law_line : SpD := fun ds M Q => ∃ ws : List Str, ds = [lstS ws] ∧ (ws.map (·.length)).sum + ws.length ≤ 16777216 ∧ Q (.str (lineZ ws)) M
def T__law_line : TSd := TRet (TIfE (TTst (TBin neOp (TVar 0) (TLst (TNil)))) (TBM "str" joinO (TC (.str " ")) (TCons (TVar 0) (TNil))) (TC (.str "none")))
theorem len__law_line : ∀ ds M Q, sp_law_line ds M Q → ds.length = 1 := fun _ _ _ ⟨_, e, _⟩ => by rw [e]; rfl
theorem join_sp (ws : List Str) (k : D → Prop) (h : (ws.map (·.length)).sum + ws.length ≤ 16777216) (q : k (.str (joinZ " " ws))) : joinO (.str " ") [lstS ws] k := by
  unfold joinO lstS
  simp only [strsOf_map]
  exact ⟨by show _ + ws.length * 1 ≤ _; omega, q⟩
theorem body__law_line : ∀ (ds : List D) (M : Mem) (Q : D → Mem → Prop), sp_law_line ds M Q → T__law_line ⟨fun _ M' => Q .non M', Q, fun _ _ => False, fun _ _ => False⟩ (startD ["_law_ways_here"] ds) M := by
  rintro _ M Q ⟨ws, rfl, hl, q⟩
  show T__law_line _ [.val (lstS ws)] M
  simp only [T__law_line, TSeq, IZip, TRet, TRetN, DL.TSet, TDrop, TIf, TPar, TAsg, TFor, TFrz, frz, TSetOwn, TApp, TExt, TVar, TC, TBin, TTst, TChain, TAnd, TOr, TNot, TAndV, TOrV, TNotV, TIfE, TNil, TCons, TTup, TLst, TCB, TBM, TBM0, TPart, TNoPart, TSl, TNeg, GName, GNil, GCons, GTup, IList, ITup, IRng1, IRng2, IStr, TLstF, TCall, TYes, TNext, TPur, GPur, TRetP, unown_nil, unown_cons, un1, wipeD, List.getElem?_cons_zero, List.getElem?_cons_succ, List.set_cons_zero, List.set_cons_succ, List.set_nil, isD, beq_self_eq_true, List.length_nil]
  refine ⟨by decide, ⟨isPys_strs ws, rfl, by show deps (ws.map D.str) + 1 ≤ 64; rw [deps_strs]; decide, by decide⟩, ?_⟩
  unfold lineZ at q
  rw [lstS, eqv_nil]
  by_cases h : ws = []
  · subst h
    exact q
  · have : ¬ ws.map D.str = [] := fun e => h (List.map_eq_nil_iff.mp e)
    simp only [this, decide_false, Bool.not_false]
    rw [if_neg h] at q
    exact ⟨trivial, join_sp ws _ hl q⟩
def planZ (many : Int) (rows : List Str) : Str := joinZ " " ((numS many.toNat ++ Str.ofString ":") :: rows)
theorem GoodP.sum {many : Int} {rows : List Str} (g : GoodP many rows) : (rows.map (·.length)).sum ≤ 4096 := by
  have h1 : ∀ (l : List Str), (∀ r ∈ l, r.length ≤ 64) → (l.map (·.length)).sum ≤ l.length * 64 := by
    intro l
    induction l with
    | nil => intro _; simp
    | cons a r ih =>
      intro h
      have := h a List.mem_cons_self
      have := ih fun b hb => h b (List.mem_cons_of_mem _ hb)
      simp only [List.map_cons, List.sum_cons, List.length_cons]
      omega
  have h2 := h1 rows fun r hr => by have := g.row r hr; have := g.hi; omega
  have := g.len
  omega
theorem numS_len64 {n : Int} (h0 : 1 ≤ n) (h1 : n ≤ 64) : (numS n.toNat).length ≤ 2 := by
  have := numS_len (n.toNat - 1) (by omega)
  rwa [show n.toNat - 1 + 1 = n.toNat by omega] at this
def sp_law_plan_line : SpD := fun ds M Q => ∃ many rows, ds = [.int many, lstS rows] ∧ GoodP many rows ∧ Q (.str (planZ many rows)) M
-- pairs
def pairs (n : Nat) : List (Nat × Nat) := (List.range n).flatMap fun i => (List.range (n - (i + 1))).map fun k => (i, i + 1 + k)
def pairD (p : Nat × Nat) : D := .tup [.int (p.1 : Int), .int (p.2 : Int)]
theorem flat_len {α β : Type} {f : α → List β} {c : Nat} : ∀ {l : List α}, (∀ a ∈ l, (f a).length ≤ c) → (l.flatMap f).length ≤ l.length * c
  | [], _ => by simp
  | a :: r, h => by
    have := h a List.mem_cons_self
    have := flat_len (f := f) (c := c) (l := r) fun b hb => h b (List.mem_cons_of_mem _ hb)
    rw [List.flatMap_cons, List.length_append, List.length_cons, Nat.succ_mul]
    omega
theorem pairs_mem {n : Nat} {p : Nat × Nat} (h : p ∈ pairs n) : p.1 < p.2 ∧ p.2 < n := by
  obtain ⟨i, hi, h⟩ := List.mem_flatMap.mp h
  obtain ⟨k, hk, rfl⟩ := List.mem_map.mp h
  have := List.mem_range.mp hk
  constructor
  · show i < i + 1 + k; omega
  · show i + 1 + k < n; omega
def sp_law_pairs : SpD := fun ds M Q => ∃ n : Nat, ds = [.int (n : Int)] ∧ n ≤ 64 ∧ Q (.lst ((pairs n).map pairD)) M
-- rows
def bits (s : Str) (n : Int) : Prop := (s.length : Int) = n ∧ ∀ c ∈ tl s, c = 48 ∨ c = 49
def sp_law_row : SpD := fun ds M Q => ∃ p n, ds = [.ref p, .int n] ∧ M p = some .purse ∧ 0 ≤ n ∧ n ≤ 64 ∧ ∀ s, bits s n → Q (.str s) M
theorem bits_app {s : Str} {n : Int} {c : Nat} (h : bits s n) (hc : c = 48 ∨ c = 49) : bits (s ++ ⟨#[c]⟩) (n + 1) := by
  refine ⟨?_, fun d hd => ?_⟩
  · rw [len_app]
    have := h.1
    show ((s.length + 1 : Nat) : Int) = n + 1
    omega
  · rw [tl_app] at hd
    rcases List.mem_append.mp hd with hd | hd
    · exact h.2 d hd
    · have : d = c := by simpa [tl] using hd
      rw [this]; exact hc
theorem ix01 {k : Int} {K : D → Prop} (h0 : 0 ≤ k) (h1 : k < 2) (q : ∀ c : Nat, c = 48 ∨ c = 49 → K (.str ⟨#[c]⟩)) : ixO (.str "01") (.int k) K := by
  have : k = 0 ∨ k = 1 := by omega
  rcases this with rfl | rfl
  · exact q 48 (.inl rfl)
  · exact q 49 (.inr rfl)
end DL

namespace DL
open PySem PySem.Spec PyProof.Rows L2 TL
/-! ## the purse: what is drawn -/
def T__law_take : TSd := TSeq (TIf (TTst (TBin gtO (TPur (TVar 0) (TC (.int 0))) (TC (.int 0)))) (TSeq (TSet 2 (TBin modO (TCB intO (TCons (TPur (TVar 0) (TC (.int 0))) (TNil))) (TVar 1)))
  (TSeq (TAsg (TBin fdivO (TPur (TVar 0) (TC (.int 0))) (TVar 1)) (GPur (TVar 0) (TC (.int 0))))
  (TRet (TVar 2)))) (TNext))
  (TSeq (TAsg (TBin modO (TCB intO (TCons (TBin addO (TBin mulAllO (TPur (TVar 0) (TC (.int 1))) (TC (.int 1730508156817413461))) (TC (.int 2691343689449507681))) (TNil))) (TC (.int 2305843009213693951))) (GPur (TVar 0) (TC (.int 1))))
  (TRet (TBin modO (TCB intO (TCons (TBin addO (TBin fdivO (TPur (TVar 0) (TC (.int 1))) (TC (.int 8388608))) (TBin fdivO (TPur (TVar 0) (TC (.int 1))) (TC (.int 11)))) (TNil))) (TVar 1))))
theorem len__law_take : ∀ ds M Q, sp_law_take ds M Q → ds.length = 2 := fun _ _ _ ⟨_, _, e, _⟩ => by rw [e]; rfl
theorem purV0 {v : Int} (h : purV 0 v) : 0 ≤ v ∧ v.toNat < purseB := by
  rcases h with ⟨_, h⟩ | ⟨h, _⟩
  · exact h
  · cases h
theorem purV1 {v : Int} (h : purV 1 v) : 0 ≤ v ∧ v < 2305843009213693951 := by
  rcases h with ⟨h, _⟩ | ⟨_, h⟩
  · cases h
  · exact h
theorem body__law_take : ∀ (ds : List D) (M : Mem) (Q : D → Mem → Prop), sp_law_take ds M Q → T__law_take ⟨fun _ M' => Q .non M', Q, fun _ _ => False, fun _ _ => False⟩ (startD ["_law_purse_here", "_law_many", "_law_digit"] ds) M := by
  rintro _ M Q ⟨p, n, rfl, hp, n0, n1, q⟩
  show T__law_take _ [.val (.ref p), .val (.int n), .no] M
  simp only [T__law_take, TSeq, IZip, TRet, TRetN, DL.TSet, TDrop, TIf, TPar, TAsg, TFor, TFrz, frz, TSetOwn, TApp, TExt, TVar, TC, TBin, TTst, TChain, TAnd, TOr, TNot, TAndV, TOrV, TNotV, TIfE, TNil, TCons, TTup, TLst, TCB, TBM, TBM0, TPart, TNoPart, TSl, TNeg, GName, GNil, GCons, GTup, IList, ITup, IRng1, IRng2, IStr, TLstF, TCall, TYes, TNext, TPur, GPur, TRetP, unown_nil, unown_cons, un1, wipeD, List.getElem?_cons_zero, List.getElem?_cons_succ, List.set_cons_zero, List.set_cons_succ, List.set_nil, isD, beq_self_eq_true, purO, gtO, i20]
  refine ⟨hp, by simp, fun v hv => ?_⟩
  by_cases h : 0 < v
  · simp only [h, decide_true]
    refine ⟨hp, by simp, fun v2 hv2 => ?_⟩
    simp only [intO, modO, i2]
    refine ⟨n0, hp, by simp, fun v3 hv3 => ?_⟩
    simp only [fdivO, i2]
    obtain ⟨v30, v31⟩ := purV0 hv3
    refine ⟨⟨n0, n1⟩, hp, .inl ⟨rfl, Int.ediv_nonneg v30 (by omega), ?_⟩, ?_⟩
    · have h1 : v3 / n ≤ v3 := Int.ediv_le_self n v30
      exact Nat.lt_of_le_of_lt (Int.toNat_le_toNat h1) v31
    · exact q _ (Int.emod_nonneg _ (by omega)) (Int.emod_lt_of_pos _ n0)
  · simp only [h, decide_false]
    refine ⟨hp, by simp, fun v2 hv2 => ?_⟩
    simp only [mulAllO, addO, intO, modO, i2]
    refine ⟨.inr ⟨by decide, by decide⟩, by decide, hp, .inr ⟨rfl, Int.emod_nonneg _ (by decide), Int.emod_lt_of_pos _ (by decide)⟩, ?_⟩
    refine ⟨hp, by simp, fun v3 hv3 => ?_⟩
    simp only [fdivO, i2]
    refine ⟨⟨by decide, by decide⟩, hp, by simp, fun v4 hv4 => ?_⟩
    refine ⟨⟨by decide, by decide⟩, ?_⟩
    exact ⟨n0, q _ (Int.emod_nonneg _ (by omega)) (Int.emod_lt_of_pos _ n0)⟩
/-- the purse of cell k -/
def sp_law_purse : SpD := fun ds M Q => ∃ (ns : List Int) (k : Int), ds = [.fzl (ns.map D.int), .int k] ∧ ns.length ≤ 63 ∧ (∀ z ∈ ns, Builtin.Int.intBits z ≤ 1048576) ∧ 0 ≤ k ∧ k < 64 ∧ ∀ (p : Addr) (M' : Mem), M' p = some .purse → Q (.ref p) M'
def T__law_purse : TSd := TSeq (TSet 2 (TIfE (TTst (TBin ltO (TVar 1) (TCB lenO (TCons (TVar 0) (TNil))))) (TCB intO (TCons (TBin ixO (TVar 0) (TVar 1)) (TNil))) (TBin addO (TBin mulAllO (TBin mulAllO (TC (.int 41077)) (TVar 1)) (TVar 1)) (TC (.int 2903)))))
  (TSeq (TSet 3 (TBin addO (TC (.int 700001)) (TBin mulAllO (TC (.int 5003)) (TVar 1))))
  (TSeq (TFor (IList (TBin addO (TSl slO (TVar 0) (TNoPart) (TPart (TC (.int 5)))) (TLst (TCons (TVar 2) (TNil))))) (GName 4) (TSeq (TSet 3 (TBin addO (TBin addO (TBin mulAllO (TVar 3) (TC (.int 1181783497276652981))) (TBin modO (TCB intO (TCons (TVar 4) (TNil))) (TC (.int 2305843009213693951)))) (TCB intO (TCons (TBin ltO (TVar 4) (TC (.int 0))) (TNil)))))
  (TSet 3 (TBin modO (TCB intO (TCons (TVar 3) (TNil))) (TC (.int 2305843009213693951))))))
  (TRetP (TLstF (TCons (TIfE (TTst (TBin geO (TCB absO (TCons (TVar 2) (TNil))) (TBin powO (TC (.int 10)) (TC (.int 18))))) (TCB absO (TCons (TVar 2) (TNil))) (TC (.int 0))) (TCons (TVar 3) (TNil)))))))
theorem len__law_purse : ∀ ds M Q, sp_law_purse ds M Q → ds.length = 2 := fun _ _ _ ⟨_, _, e, _⟩ => by rw [e]; rfl
theorem cutD_map {α β : Type} (f : α → β) (xs : List α) (lo hi : Option Int) : cutD (xs.map f) lo hi = (cutD xs lo hi).map f := by
  unfold cutD
  rw [List.length_map, ← List.map_drop, ← List.map_take]
theorem powB : purseB = 2 ^ 1100000 := rfl
theorem bits_lt {z : Int} (h : Builtin.Int.intBits z ≤ 1048576) : z.natAbs < purseB := by
  unfold Builtin.Int.intBits at h
  have h3 : (0 : Nat) < purseB := by rw [powB]; exact Nat.pow_pos (by decide)
  by_cases hz : z = 0
  · subst hz; exact h3
  · have hz' : (z == 0) = false := by simpa using hz
    rw [hz'] at h
    simp only [Bool.false_eq_true, if_false] at h
    have h1 : z.natAbs.log2 < 1048576 := h
    have h2 : z.natAbs < 2 ^ 1048576 := (Nat.log2_lt (by omega)).mp h1
    rw [powB]
    exact Nat.lt_of_lt_of_le h2 (Nat.pow_le_pow_right (by decide) (by decide))
theorem small_lt {n : Nat} (h : n < 2 ^ 64) : n < purseB := by
  rw [powB]
  exact Nat.lt_of_lt_of_le h (Nat.pow_le_pow_right (by decide) (by decide))
theorem body__law_purse : ∀ (ds : List D) (M : Mem) (Q : D → Mem → Prop), sp_law_purse ds M Q → T__law_purse ⟨fun _ M' => Q .non M', Q, fun _ _ => False, fun _ _ => False⟩ (startD ["_law_script", "_law_k", "_law_cell", "_law_state", "_law_one"] ds) M := by
  rintro _ M Q ⟨ns, k, rfl, hl, hb, k0, k1, q⟩
  show T__law_purse _ [.val (.fzl (ns.map D.int)), .val (.int k), .no, .no, .no] M
  have cell : ∀ K : D → Mem → Prop, (∀ c : Int, c.natAbs < purseB → K (.int c) M) → (TIfE (TTst (TBin ltO (TVar 1) (TCB lenO (TCons (TVar 0) (TNil))))) (TCB intO (TCons (TBin ixO (TVar 0) (TVar 1)) (TNil))) (TBin addO (TBin mulAllO (TBin mulAllO (TC (.int 41077)) (TVar 1)) (TVar 1)) (TC (.int 2903)))) [.val (.fzl (ns.map D.int)), .val (.int k), .no, .no, .no] M K := by
    intro K hK
    simp only [TSeq, IZip, TRet, TRetN, DL.TSet, TDrop, TIf, TPar, TAsg, TFor, TFrz, frz, TSetOwn, TApp, TExt, TVar, TC, TBin, TTst, TChain, TAnd, TOr, TNot, TAndV, TOrV, TNotV, TIfE, TNil, TCons, TTup, TLst, TCB, TBM, TBM0, TPart, TNoPart, TSl, TNeg, GName, GNil, GCons, GTup, IList, ITup, IRng1, IRng2, IStr, TLstF, TCall, TYes, TNext, TPur, GPur, TRetP, unown_nil, unown_cons, un1, wipeD, List.getElem?_cons_zero, List.getElem?_cons_succ, List.set_cons_zero, List.set_cons_succ, List.set_nil, isD, beq_self_eq_true, lenO, lenD, ltO, i20, List.length_map]
    by_cases h : k < (ns.length : Int)
    · simp only [h, decide_true]
      obtain ⟨m, rfl⟩ := Int.eq_ofNat_of_zero_le k0
      have hm : m < ns.length := by omega
      have e : atI (ns.map D.int) (m : Int) = some (.int ns[m]) := by rw [atI_nat, List.getElem?_map]; simp [hm]
      simp only [ixO, e, intO]
      exact hK _ (bits_lt (hb _ (List.getElem_mem hm)))
    · simp only [h, decide_false, mulAllO, addO]
      refine ⟨.inl ⟨by decide, by decide⟩, .inr ⟨by omega, by omega⟩, hK _ ?_⟩
      have h1 : 41077 * k * k ≤ 41077 * 64 * 64 := Int.mul_le_mul (by omega) (by omega) k0 (by decide)
      have h2 : 0 ≤ 41077 * k * k := Int.mul_nonneg (by omega) k0
      exact small_lt (by omega)
  simp only [T__law_purse, TSeq, DL.TSet]
  refine cell _ fun c hc => ?_
  simp only [TSeq, IZip, TRet, TRetN, DL.TSet, TDrop, TIf, TPar, TAsg, TFor, TFrz, frz, TSetOwn, TApp, TExt, TVar, TC, TBin, TTst, TChain, TAnd, TOr, TNot, TAndV, TOrV, TNotV, TIfE, TNil, TCons, TTup, TLst, TCB, TBM, TBM0, TPart, TNoPart, TSl, TNeg, GName, GNil, GCons, GTup, IList, ITup, IRng1, IRng2, IStr, TLstF, TCall, TYes, TNext, TPur, GPur, TRetP, unown_nil, unown_cons, un1, wipeD, List.getElem?_cons_zero, List.getElem?_cons_succ, List.set_cons_zero, List.set_cons_succ, List.set_nil, isD, beq_self_eq_true, mulAllO, addO, slO, List.length_map, cutD_map]
  refine ⟨.inl ⟨by decide, by decide⟩, by simp, ?_⟩
  have hcl := cutD_len ns none (some 5)
  refine ⟨by simp; omega, ?_⟩
  have e : (cutD ns none (some 5)).map D.int ++ [D.int c] = ((cutD ns none (some 5)) ++ [c]).map D.int := by rw [List.map_append]; rfl
  rw [e]
  refine forD_inv D.int _ (fun _ ρ M' => M' = M ∧ ∃ (st : Int) (a : Sl), 0 ≤ st ∧ st < 2305843009213693951 ∧ ρ = [.val (.fzl (ns.map D.int)), .val (.int k), .val (.int c), .val (.int st), a]) _ _ (fun z r ρ M' Kn _ ⟨hM, st, a, s0, s1, hρ⟩ kk => ?step) ⟨rfl, _, _, by omega, by omega, rfl⟩ (fun ρ M' ⟨hM, st, a, s0, s1, hρ⟩ => ?fin)
  case step =>
    subst hM hρ
    simp only [TSeq, IZip, TRet, TRetN, DL.TSet, TDrop, TIf, TPar, TAsg, TFor, TFrz, frz, TSetOwn, TApp, TExt, TVar, TC, TBin, TTst, TChain, TAnd, TOr, TNot, TAndV, TOrV, TNotV, TIfE, TNil, TCons, TTup, TLst, TCB, TBM, TBM0, TPart, TNoPart, TSl, TNeg, GName, GNil, GCons, GTup, IList, ITup, IRng1, IRng2, IStr, TLstF, TCall, TYes, TNext, TPur, GPur, TRetP, unown_nil, unown_cons, un1, wipeD, List.getElem?_cons_zero, List.getElem?_cons_succ, List.set_cons_zero, List.set_cons_succ, List.set_nil, isD, beq_self_eq_true, mulAllO, addO, intO, modO, i2, ltO, i20]
    refine ⟨.inl ⟨by omega, by omega⟩, by decide, by decide, kk _ _ ⟨rfl, _, _, Int.emod_nonneg _ (by decide), Int.emod_lt_of_pos _ (by decide), rfl⟩⟩
  case fin =>
    subst hM hρ
    simp only [TSeq, IZip, TRet, TRetN, DL.TSet, TDrop, TIf, TPar, TAsg, TFor, TFrz, frz, TSetOwn, TApp, TExt, TVar, TC, TBin, TTst, TChain, TAnd, TOr, TNot, TAndV, TOrV, TNotV, TIfE, TNil, TCons, TTup, TLst, TCB, TBM, TBM0, TPart, TNoPart, TSl, TNeg, GName, GNil, GCons, GTup, IList, ITup, IRng1, IRng2, IStr, TLstF, TCall, TYes, TNext, TPur, GPur, TRetP, unown_nil, unown_cons, un1, wipeD, List.getElem?_cons_zero, List.getElem?_cons_succ, List.set_cons_zero, List.set_cons_succ, List.set_nil, isD, beq_self_eq_true, absO, geO, i20, powO, i2]
    have ha : 0 ≤ (if c < 0 then -c else c) ∧ (if c < 0 then -c else c).toNat < purseB := by
      split
      · refine ⟨by omega, ?_⟩
        have : (-c).toNat = c.natAbs := by omega
        rw [this]; exact hc
      · refine ⟨by omega, ?_⟩
        have : c.toNat = c.natAbs := by omega
        rw [this]; exact hc
    have h0 : (0 : Nat) < purseB := small_lt (by decide)
    refine ⟨⟨by decide, by decide, by decide⟩, ?_⟩
    generalize (if c < 0 then -c else c) = b at ha
    cases hd : decide ((10 : Int) ^ (18 : Int).toNat ≤ b) with
    | true => exact ⟨by simp, ⟨ha.1, ha.2, s0, s1⟩, fun p hp => q p _ updM_same⟩
    | false => exact ⟨by simp, ⟨by decide, h0, s0, s1⟩, fun p hp => q p _ updM_same⟩
end DL

namespace DL
open PySem PySem.Spec PyProof.Rows L2 TL
/-! ## lines that are read back -/
theorem pieces_join {ps : List Str} (hne : ps ≠ []) (h : ∀ p ∈ ps, 32 ∉ tl p) : pieces (joinZ " " ps) = ps := by
  unfold pieces splitZ joinZ
  rw [tl_mkS]
  have e : tl (Str.ofString " ") = [32] := by decide +kernel
  rw [e, spl_join (by simpa using hne) (fun p hp => by
    obtain ⟨x, hx, rfl⟩ := List.mem_map.mp hp
    exact h x hx), List.map_map]
  exact (List.map_congr_left fun x _ => mkS_tl x).trans (List.map_id ps)
theorem joinZ_len (ps : List Str) : (joinZ " " ps).length ≤ (ps.map (·.length)).sum + ps.length := by
  have := joinL_len (tl (Str.ofString " ")) (ps.map tl)
  have e : (tl (Str.ofString " ")).length = 1 := by decide +kernel
  have e2 : ((ps.map tl).map List.length) = ps.map (·.length) := by
    rw [List.map_map]
    exact List.map_congr_left fun x _ => (len_tl x).symm
  rw [e, e2, List.length_map] at this
  rw [len_tl, joinZ, tl_mkS]
  omega
def lineOk (ws : List Str) : Bool := decide (ws = []) || (decide (lineZ ws ≠ "none") && decide (pieces (lineZ ws) = ws) && ws.all (fun y => decide (y ∈ WAYSZ)) && rising ws)
theorem lines_ok : ∀ k < 16, lineOk (waysOf (k : Nat)) = true ∧ (lineZ (waysOf (k : Nat))).length ≤ 20 ∧ ((waysOf (k : Nat)).map (·.length)).sum + (waysOf (k : Nat)).length ≤ 20 ∧ (waysOf (k : Nat)).length ≤ 4 ∧ (waysOf (k : Nat)).all (fun y => decide (y ∈ WAYSZ)) = true := by decide +kernel
structure GoodW (ws : List Str) : Prop where
  read : waysIn (.str (lineZ ws)) = tupS ws
  len : (lineZ ws).length ≤ 20
  sum : (ws.map (·.length)).sum + ws.length ≤ 20
  few : ws.length ≤ 4
  sub : ∀ y ∈ ws, y ∈ WAYSZ
theorem goodW {n : Int} (h0 : 0 ≤ n) (h1 : n < 16) : GoodW (waysOf n) := by
  obtain ⟨k, rfl⟩ := Int.eq_ofNat_of_zero_le h0
  obtain ⟨a, b, c, d, e⟩ := lines_ok k (by omega)
  refine ⟨?_, b, c, d, fun y hy => of_decide_eq_true (List.all_eq_true.mp e y hy)⟩
  unfold lineOk at a
  generalize waysOf (k : Int) = ws at a ⊢
  by_cases hw : ws = []
  · subst hw; rfl
  · simp only [hw, decide_false, Bool.false_or, Bool.and_eq_true, decide_eq_true_eq] at a
    obtain ⟨⟨⟨a1, a2⟩, a3⟩, a4⟩ := a
    simp only [waysIn, a1, if_false, a2, a3, a4, Bool.and_self, if_true]
end DL

namespace DL
open PySem PySem.Spec PyProof.Rows L2 TL
/-! ## fewest trials -/
/-- the loop's product -/
def chN (m s : Nat) : Nat := (List.range (min s (m - s))).foldl (fun f k => f * (m - k) / (k + 1)) 1
def chI (m s : Int) : Int := if 0 ≤ s ∧ s ≤ m then (chN m.toNat s.toNat : Int) else 0
theorem ch_loop {m s : Int} (h0 : 0 ≤ s) (h1 : s ≤ m) : ((List.range (min s.toNat (m - s).toNat)).map fun (k : Nat) => (0 : Int) + (k : Int)).foldl (fun (f : Int) (k : Int) => f * (m - k) / (k + 1)) 1 = chI m s := by
  rw [chI, if_pos ⟨h0, h1⟩, chN, List.foldl_map]
  have e : (m - s).toNat = m.toNat - s.toNat := by omega
  rw [e]
  have hle : min s.toNat (m.toNat - s.toNat) ≤ m.toNat := by omega
  generalize min s.toNat (m.toNat - s.toNat) = c at hle
  have : ∀ (ks : List Nat) (f : Nat), (∀ k ∈ ks, k ≤ m.toNat) → ks.foldl (fun (f : Int) (k : Nat) => f * (m - (0 + (k : Int))) / (0 + (k : Int) + 1)) (f : Int) = ((ks.foldl (fun f k => f * (m.toNat - k) / (k + 1)) f : Nat) : Int) := by
    intro ks
    induction ks with
    | nil => intro f _; rfl
    | cons k r ih =>
      intro f hk
      rw [List.foldl_cons, List.foldl_cons]
      have hk1 := hk k List.mem_cons_self
      have e1 : (f : Int) * (m - (0 + (k : Int))) / (0 + (k : Int) + 1) = ((f * (m.toNat - k) / (k + 1) : Nat) : Int) := by
        rw [Int.natCast_ediv, Int.natCast_mul]
        have a1 : ((m.toNat - k : Nat) : Int) = m - (0 + (k : Int)) := by omega
        have a2 : ((k + 1 : Nat) : Int) = 0 + (k : Int) + 1 := by omega
        rw [a1, a2]
      rw [e1]
      exact ih _ fun j hj => hk j (List.mem_cons_of_mem _ hj)
  exact this _ 1 fun k hk => by have := List.mem_range.mp hk; omega
theorem chain_le (a b c : Int) {ta tb tc : TEd} {ρ : List Sl} {M : Mem} {Q : D → Mem → Prop} (q : Q (.bl (decide (a ≤ b ∧ b ≤ c))) M) : TChain leO leO (TC (.int a)) (TC (.int b)) (TC (.int c)) ρ M Q := by
  simp only [TChain, TC, leO, i20]
  by_cases h : a ≤ b
  · simp only [h, decide_true, true_and] at q ⊢; exact q
  · simp only [h, decide_false, false_and] at q ⊢; exact q
def sp_chosen : SpD := fun ds M Q => ∃ m s : Int, ds = [.int m, .int s] ∧ m < 1000000 ∧ Q (.int (chI m s)) M
def T_chosen : TSd := TSeq (TIf (TNot (TTst (TChain leO leO (TC (.int 0)) (TVar 1) (TVar 0)))) (TRet (TC (.int 0))) (TNext))
  (TSeq (TSet 2 (TC (.int 1)))
  (TSeq (TFor (IRng1 (TCons (TCB minO (TCons (TVar 1) (TCons (TBin subO (TVar 0) (TVar 1)) (TNil)))) (TNil))) (GName 3) (TSet 2 (TBin fdivO (TBin mulAllO (TVar 2) (TBin subO (TVar 0) (TVar 3))) (TBin addO (TVar 3) (TC (.int 1))))))
  (TRet (TVar 2))))
theorem len_chosen : ∀ ds M Q, sp_chosen ds M Q → ds.length = 2 := fun _ _ _ ⟨_, _, e, _⟩ => by rw [e]; rfl
theorem body_chosen : ∀ (ds : List D) (M : Mem) (Q : D → Mem → Prop), sp_chosen ds M Q → T_chosen ⟨fun _ M' => Q .non M', Q, fun _ _ => False, fun _ _ => False⟩ (startD ["many", "some", "found", "k"] ds) M := by
  rintro _ M Q ⟨m, s, rfl, hm, q⟩
  show T_chosen _ [.val (.int m), .val (.int s), .no, .no] M
  simp only [T_chosen, TSeq, IZip, TRet, TRetN, DL.TSet, TDrop, TIf, TPar, TAsg, TFor, TFrz, frz, TSetOwn, TApp, TExt, TVar, TC, TBin, TTst, TChain, TAnd, TOr, TNot, TAndV, TOrV, TNotV, TIfE, TNil, TCons, TTup, TLst, TCB, TBM, TBM0, TPart, TNoPart, TSl, TNeg, GName, GNil, GCons, GTup, IList, ITup, IRng1, IRng2, IStr, TLstF, TCall, TYes, TNext, TPur, GPur, TRetP, unown_nil, unown_cons, un1, wipeD, List.getElem?_cons_zero, List.getElem?_cons_succ, List.set_cons_zero, List.set_cons_succ, List.set_nil, isD, beq_self_eq_true, TChain, leO, i20]
  have bad : ¬ (0 ≤ s ∧ s ≤ m) → Q (.int 0) M := fun h => by rw [chI, if_neg h] at q; exact q
  by_cases h0 : 0 ≤ s
  · by_cases h1 : s ≤ m
    · simp only [h0, h1, decide_true, Bool.not_true, minO, subO, i20]
      refine ⟨⟨by omega, by omega⟩, ?_⟩
      rw [rangeD_map]
      have e : (min s (m - s) - 0).toNat = min s.toNat (m - s).toNat := by omega
      rw [e]
      refine forD_fold D.int (fun (f : Int) ρ => ∃ a, ρ = [.val (.int m), .val (.int s), .val (.int f), a]) (fun (f : Int) (k : Int) => f * (m - k) / (k + 1)) M _ 1 _ (fun k hk f ρ Kn ⟨a, hρ⟩ kn => ?step) ⟨_, rfl⟩ (fun ρ ⟨a, hρ⟩ => ?fin)
      case step =>
        subst hρ
        obtain ⟨y, hy, rfl⟩ := List.mem_map.mp hk
        have hy := List.mem_range.mp hy
        simp only [TSeq, IZip, TRet, TRetN, DL.TSet, TDrop, TIf, TPar, TAsg, TFor, TFrz, frz, TSetOwn, TApp, TExt, TVar, TC, TBin, TTst, TChain, TAnd, TOr, TNot, TAndV, TOrV, TNotV, TIfE, TNil, TCons, TTup, TLst, TCB, TBM, TBM0, TPart, TNoPart, TSl, TNeg, GName, GNil, GCons, GTup, IList, ITup, IRng1, IRng2, IStr, TLstF, TCall, TYes, TNext, TPur, GPur, TRetP, unown_nil, unown_cons, un1, wipeD, List.getElem?_cons_zero, List.getElem?_cons_succ, List.set_cons_zero, List.set_cons_succ, List.set_nil, isD, beq_self_eq_true, mulAllO, fdivO, i2, subO, addO, i20]
        exact ⟨.inr ⟨by omega, by omega⟩, ⟨by omega, by omega⟩, kn _ ⟨_, rfl⟩⟩
      case fin =>
        subst hρ
        rw [ch_loop h0 h1]
        exact q
    · simp only [h0, h1, decide_true, decide_false, Bool.not_false]
      exact bad fun h => h1 h.2
  · simp only [h0, decide_false, Bool.not_false]
    exact bad fun h => h0 h.1
def pwI (k : Int) : Int := if k < 0 then 0 else 2 ^ k.toNat
def sp_powered : SpD := fun ds M Q => ∃ k : Int, ds = [.int k] ∧ k ≤ 1000000 ∧ Q (.int (pwI k)) M
def T_powered : TSd := TRet (TIfE (TTst (TBin ltO (TVar 0) (TC (.int 0)))) (TC (.int 0)) (TBin shlO (TC (.int 1)) (TVar 0)))
theorem len_powered : ∀ ds M Q, sp_powered ds M Q → ds.length = 1 := fun _ _ _ ⟨_, e, _⟩ => by rw [e]; rfl
theorem body_powered : ∀ (ds : List D) (M : Mem) (Q : D → Mem → Prop), sp_powered ds M Q → T_powered ⟨fun _ M' => Q .non M', Q, fun _ _ => False, fun _ _ => False⟩ (startD ["times"] ds) M := by
  rintro _ M Q ⟨k, rfl, hk, q⟩
  show T_powered _ [.val (.int k)] M
  simp only [T_powered, TSeq, IZip, TRet, TRetN, DL.TSet, TDrop, TIf, TPar, TAsg, TFor, TFrz, frz, TSetOwn, TApp, TExt, TVar, TC, TBin, TTst, TChain, TAnd, TOr, TNot, TAndV, TOrV, TNotV, TIfE, TNil, TCons, TTup, TLst, TCB, TBM, TBM0, TPart, TNoPart, TSl, TNeg, GName, GNil, GCons, GTup, IList, ITup, IRng1, IRng2, IStr, TLstF, TCall, TYes, TNext, TPur, GPur, TRetP, unown_nil, unown_cons, un1, wipeD, List.getElem?_cons_zero, List.getElem?_cons_succ, List.set_cons_zero, List.set_cons_succ, List.set_nil, isD, beq_self_eq_true, ltO, i20]
  unfold pwI at q
  by_cases h : k < 0
  · simp only [h, decide_true, if_true] at q ⊢; exact q
  · simp only [h, decide_false, if_false, shlO, i2] at q ⊢
    rw [Int.one_mul]
    exact ⟨⟨by omega, hk, by decide⟩, q⟩
/-- how many of a demand's ways are unlike, alike -/
def unl (ws : List Str) : Int := bN (decide (Str.ofString "01" ∈ ws)) + bN (decide (Str.ofString "10" ∈ ws))
def alk (ws : List Str) : Int := (ws.length : Int) - unl ws
def sp_split_of : SpD := fun ds M Q => ∃ ws : List Str, ds = [tupS ws] ∧ Q (.tup [.int (unl ws), .int (alk ws)]) M
def T_split_of : TSd := TSeq (TSet 1 (TBin addBO (TBin (inO false) (TC (.str "01")) (TVar 0)) (TBin (inO false) (TC (.str "10")) (TVar 0))))
  (TRet (TTup (TCons (TVar 1) (TCons (TBin subO (TCB lenO (TCons (TVar 0) (TNil))) (TVar 1)) (TNil)))))
theorem len_split_of : ∀ ds M Q, sp_split_of ds M Q → ds.length = 1 := fun _ _ _ ⟨_, e, _⟩ => by rw [e]; rfl
theorem body_split_of : ∀ (ds : List D) (M : Mem) (Q : D → Mem → Prop), sp_split_of ds M Q → T_split_of ⟨fun _ M' => Q .non M', Q, fun _ _ => False, fun _ _ => False⟩ (startD ["ways", "unlike"] ds) M := by
  rintro _ M Q ⟨ws, rfl, q⟩
  show T_split_of _ [.val (tupS ws), .no] M
  simp only [T_split_of, TSeq, IZip, TRet, TRetN, DL.TSet, TDrop, TIf, TPar, TAsg, TFor, TFrz, frz, TSetOwn, TApp, TExt, TVar, TC, TBin, TTst, TChain, TAnd, TOr, TNot, TAndV, TOrV, TNotV, TIfE, TNil, TCons, TTup, TLst, TCB, TBM, TBM0, TPart, TNoPart, TSl, TNeg, GName, GNil, GCons, GTup, IList, ITup, IRng1, IRng2, IStr, TLstF, TCall, TYes, TNext, TPur, GPur, TRetP, unown_nil, unown_cons, un1, wipeD, List.getElem?_cons_zero, List.getElem?_cons_succ, List.set_cons_zero, List.set_cons_succ, List.set_nil, isD, beq_self_eq_true, inO, tupS, lenO, lenD, List.length_map, List.length_cons, List.length_nil]
  refine ⟨⟨rfl, flat_strs _⟩, ⟨rfl, flat_strs _⟩, ?_⟩
  rw [inD_strs, inD_strs]
  simp only [Bool.false_eq_true, if_false, addBO, subO, i20]
  exact ⟨by decide, q⟩
/-- the most switches for t trials -/
def mostO (u a t : Int) : Option Int := if u = 0 then (if a ≤ t then none else some 1) else if u = 1 then some (max 1 (pwI (t - a))) else if a = 2 then some (max 1 (chI (t - 1) (t / 2 - 1))) else some (max 1 (chI t (t / 2 + a)))
def optD : Option Int → D
  | none => .non
  | some i => .int i
def sp_most_for : SpD := fun ds M Q => ∃ (ws : List Str) (t : Int), ds = [tupS ws, .int t] ∧ 0 ≤ alk ws ∧ t < 1000000 ∧ Q (optD (mostO (unl ws) (alk ws) t)) M
def T_most_for : TSd := TSeq (TAsg (TCall sp_split_of (TCons (TVar 0) (TNil))) (GTup 2 (GCons (GName 2) (GCons (GName 3) (GNil)))))
  (TSeq (TIf (TAnd (TTst (TBin eqOp (TVar 2) (TC (.int 0)))) (TTst (TBin geO (TVar 1) (TVar 3)))) (TRet (TC .non)) (TNext))
  (TSeq (TIf (TTst (TBin eqOp (TVar 2) (TC (.int 0)))) (TRet (TC (.int 1))) (TNext))
  (TSeq (TIf (TTst (TBin eqOp (TVar 2) (TC (.int 1)))) (TRet (TCB maxO (TCons (TC (.int 1)) (TCons (TCall sp_powered (TCons (TBin subO (TVar 1) (TVar 3)) (TNil))) (TNil))))) (TNext))
  (TSeq (TIf (TTst (TBin eqOp (TVar 3) (TC (.int 2)))) (TRet (TCB maxO (TCons (TC (.int 1)) (TCons (TCall sp_chosen (TCons (TBin subO (TVar 1) (TC (.int 1))) (TCons (TBin subO (TBin fdivO (TVar 1) (TC (.int 2))) (TC (.int 1))) (TNil)))) (TNil))))) (TNext))
  (TRet (TCB maxO (TCons (TC (.int 1)) (TCons (TCall sp_chosen (TCons (TVar 1) (TCons (TBin addO (TBin fdivO (TVar 1) (TC (.int 2))) (TVar 3)) (TNil)))) (TNil)))))))))
theorem len_most_for : ∀ ds M Q, sp_most_for ds M Q → ds.length = 2 := fun _ _ _ ⟨_, _, e, _⟩ => by rw [e]; rfl
theorem body_most_for : ∀ (ds : List D) (M : Mem) (Q : D → Mem → Prop), sp_most_for ds M Q → T_most_for ⟨fun _ M' => Q .non M', Q, fun _ _ => False, fun _ _ => False⟩ (startD ["ways", "trials", "unlike", "alike"] ds) M := by
  rintro _ M Q ⟨ws, t, rfl, ha, ht, q⟩
  show T_most_for _ [.val (tupS ws), .val (.int t), .no, .no] M
  simp only [T_most_for, TSeq, IZip, TRet, TRetN, DL.TSet, TDrop, TIf, TPar, TAsg, TFor, TFrz, frz, TSetOwn, TApp, TExt, TVar, TC, TBin, TTst, TChain, TAnd, TOr, TNot, TAndV, TOrV, TNotV, TIfE, TNil, TCons, TTup, TLst, TCB, TBM, TBM0, TPart, TNoPart, TSl, TNeg, GName, GNil, GCons, GTup, IList, ITup, IRng1, IRng2, IStr, TLstF, TCall, TYes, TNext, TPur, GPur, TRetP, unown_nil, unown_cons, un1, wipeD, List.getElem?_cons_zero, List.getElem?_cons_succ, List.set_cons_zero, List.set_cons_succ, List.set_nil, isD, beq_self_eq_true]
  refine ⟨ws, rfl, ?_⟩
  generalize unl ws = u at q
  generalize alk ws = a at q ha
  simp only [TSeq, IZip, TRet, TRetN, DL.TSet, TDrop, TIf, TPar, TAsg, TFor, TFrz, frz, TSetOwn, TApp, TExt, TVar, TC, TBin, TTst, TChain, TAnd, TOr, TNot, TAndV, TOrV, TNotV, TIfE, TNil, TCons, TTup, TLst, TCB, TBM, TBM0, TPart, TNoPart, TSl, TNeg, GName, GNil, GCons, GTup, IList, ITup, IRng1, IRng2, IStr, TLstF, TCall, TYes, TNext, TPur, GPur, TRetP, unown_nil, unown_cons, un1, wipeD, List.getElem?_cons_zero, List.getElem?_cons_succ, List.set_cons_zero, List.set_cons_succ, List.set_nil, isD, beq_self_eq_true, eq_ii, geO, i20, List.length_cons, List.length_nil]
  refine ⟨trivial, ?_⟩
  unfold mostO at q
  by_cases h0 : u = 0
  · simp only [h0, decide_true, if_true] at q ⊢
    by_cases h1 : a ≤ t
    · simp only [h1, decide_true, if_true] at q ⊢; exact q
    · simp only [h1, decide_false, if_false] at q ⊢; exact q
  · simp only [h0, decide_false, if_false] at q ⊢
    by_cases h1 : u = 1
    · simp only [h1, decide_true, if_true, subO, i20, maxO] at q ⊢
      exact ⟨_, rfl, by omega, q⟩
    · simp only [h1, decide_false, if_false] at q ⊢
      by_cases h2 : a = 2
      · simp only [h2, decide_true, if_true, subO, i20, maxO, fdivO, i2] at q ⊢
        exact ⟨⟨by decide, by decide⟩, _, _, rfl, by omega, q⟩
      · simp only [h2, decide_false, if_false, addO, maxO, fdivO, i2] at q ⊢
        exact ⟨⟨by decide, by decide⟩, _, _, rfl, by omega, q⟩
/-- so many switches are let -/
def lets (u a m t : Int) : Bool := match mostO u a t with
  | none => true
  | some x => decide (m ≤ x)
def fewStep (u a m : Int) (t s : Int) : Int := if lets u a m (t + s - 1) then t else t + s
def fewI (u a m : Int) : Int := [128, 64, 32, 16, 8, 4, 2, 1].foldl (fewStep u a m) 0
theorem sum_nonneg : ∀ {r : List Int}, (∀ s ∈ r, 1 ≤ s) → 0 ≤ r.sum
  | [], _ => by decide
  | z :: r, h => by
    rw [List.sum_cons]
    have h1 := h z List.mem_cons_self
    have h2 := sum_nonneg (r := r) fun y hy => h y (List.mem_cons_of_mem _ hy)
    omega
theorem fewStep_t {u a m t s : Int} (h : lets u a m (t + s - 1) = true) : fewStep u a m t s = t := by unfold fewStep; rw [if_pos h]
theorem fewStep_f {u a m t s : Int} (h : lets u a m (t + s - 1) = false) : fewStep u a m t s = t + s := by unfold fewStep; rw [if_neg (by rw [h]; decide)]
def sp_fewest_for : SpD := fun ds M Q => ∃ (ws : List Str) (m : Int), ds = [tupS ws, .int m] ∧ 0 ≤ alk ws ∧ Q (.int (fewI (unl ws) (alk ws) m)) M
def T_fewest_for : TSd := TSeq (TSet 2 (TC (.int 0)))
  (TSeq (TFor (ITup (TTup (TCons (TC (.int 128)) (TCons (TC (.int 64)) (TCons (TC (.int 32)) (TCons (TC (.int 16)) (TCons (TC (.int 8)) (TCons (TC (.int 4)) (TCons (TC (.int 2)) (TCons (TC (.int 1)) (TNil))))))))))) (GName 3) (TSeq (TSet 4 (TCall sp_most_for (TCons (TVar 0) (TCons (TBin subO (TBin addO (TVar 2) (TVar 3)) (TC (.int 1))) (TNil)))))
  (TIf (TAnd (TTst (TBin notNO (TVar 4) (TC .non))) (TTst (TBin ltO (TVar 4) (TVar 1)))) (TSet 2 (TBin addO (TVar 2) (TVar 3))) (TNext))))
  (TRet (TVar 2)))
theorem len_fewest_for : ∀ ds M Q, sp_fewest_for ds M Q → ds.length = 2 := fun _ _ _ ⟨_, _, e, _⟩ => by rw [e]; rfl
theorem body_fewest_for : ∀ (ds : List D) (M : Mem) (Q : D → Mem → Prop), sp_fewest_for ds M Q → T_fewest_for ⟨fun _ M' => Q .non M', Q, fun _ _ => False, fun _ _ => False⟩ (startD ["ways", "switches", "trials", "step", "most"] ds) M := by
  rintro _ M Q ⟨ws, m, rfl, ha, q⟩
  show T_fewest_for _ [.val (tupS ws), .val (.int m), .no, .no, .no] M
  simp only [T_fewest_for, TSeq, IZip, TRet, TRetN, DL.TSet, TDrop, TIf, TPar, TAsg, TFor, TFrz, frz, TSetOwn, TApp, TExt, TVar, TC, TBin, TTst, TChain, TAnd, TOr, TNot, TAndV, TOrV, TNotV, TIfE, TNil, TCons, TTup, TLst, TCB, TBM, TBM0, TPart, TNoPart, TSl, TNeg, GName, GNil, GCons, GTup, IList, ITup, IRng1, IRng2, IStr, TLstF, TCall, TYes, TNext, TPur, GPur, TRetP, unown_nil, unown_cons, un1, wipeD, List.getElem?_cons_zero, List.getElem?_cons_succ, List.set_cons_zero, List.set_cons_succ, List.set_nil, isD, beq_self_eq_true, List.length_cons, List.length_nil]
  refine ⟨by decide, ?_⟩
  have e : [D.int 128, .int 64, .int 32, .int 16, .int 8, .int 4, .int 2, .int 1] = ([128, 64, 32, 16, 8, 4, 2, 1] : List Int).map D.int := rfl
  rw [e]
  refine forD_inv D.int _ (fun r ρ M' => M' = M ∧ (∀ s ∈ r, 1 ≤ s) ∧ ∃ (t : Int) (a b : Sl), t + r.sum ≤ 255 ∧ r.foldl (fewStep (unl ws) (alk ws) m) t = fewI (unl ws) (alk ws) m ∧ ρ = [.val (tupS ws), .val (.int m), .val (.int t), a, b]) _ _ (fun s r ρ M' Kn _ ⟨hM, hr, t, a, b, ht, hf, hρ⟩ kn => ?step) ⟨rfl, by decide, 0, _, _, by decide, rfl, rfl⟩ (fun ρ M' ⟨hM, _, t, a, b, ht, hf, hρ⟩ => ?fin)
  case fin =>
    subst hM hρ
    have hf : t = _ := hf
    simp only [TSeq, IZip, TRet, TRetN, DL.TSet, TDrop, TIf, TPar, TAsg, TFor, TFrz, frz, TSetOwn, TApp, TExt, TVar, TC, TBin, TTst, TChain, TAnd, TOr, TNot, TAndV, TOrV, TNotV, TIfE, TNil, TCons, TTup, TLst, TCB, TBM, TBM0, TPart, TNoPart, TSl, TNeg, GName, GNil, GCons, GTup, IList, ITup, IRng1, IRng2, IStr, TLstF, TCall, TYes, TNext, TPur, GPur, TRetP, unown_nil, unown_cons, un1, wipeD, List.getElem?_cons_zero, List.getElem?_cons_succ, List.set_cons_zero, List.set_cons_succ, List.set_nil, isD, beq_self_eq_true]
    rw [hf]
    exact q
  case step =>
    subst hM hρ
    have hs1 := hr s List.mem_cons_self
    have hr' : ∀ s ∈ r, 1 ≤ s := fun z hz => hr z (List.mem_cons_of_mem _ hz)
    rw [List.sum_cons] at ht
    have hrs : 0 ≤ r.sum := sum_nonneg hr'
    rw [List.foldl_cons] at hf
    simp only [TSeq, IZip, TRet, TRetN, DL.TSet, TDrop, TIf, TPar, TAsg, TFor, TFrz, frz, TSetOwn, TApp, TExt, TVar, TC, TBin, TTst, TChain, TAnd, TOr, TNot, TAndV, TOrV, TNotV, TIfE, TNil, TCons, TTup, TLst, TCB, TBM, TBM0, TPart, TNoPart, TSl, TNeg, GName, GNil, GCons, GTup, IList, ITup, IRng1, IRng2, IStr, TLstF, TCall, TYes, TNext, TPur, GPur, TRetP, unown_nil, unown_cons, un1, wipeD, List.getElem?_cons_zero, List.getElem?_cons_succ, List.set_cons_zero, List.set_cons_succ, List.set_nil, isD, beq_self_eq_true, addO, subO, i20]
    refine ⟨ws, _, rfl, ha, by omega, ?_⟩
    cases hm : mostO (unl ws) (alk ws) (t + s - 1) with
    | none =>
      rw [fewStep_t (by unfold lets; rw [hm])] at hf
      simp only [optD, TSeq, IZip, TRet, TRetN, DL.TSet, TDrop, TIf, TPar, TAsg, TFor, TFrz, frz, TSetOwn, TApp, TExt, TVar, TC, TBin, TTst, TChain, TAnd, TOr, TNot, TAndV, TOrV, TNotV, TIfE, TNil, TCons, TTup, TLst, TCB, TBM, TBM0, TPart, TNoPart, TSl, TNeg, GName, GNil, GCons, GTup, IList, ITup, IRng1, IRng2, IStr, TLstF, TCall, TYes, TNext, TPur, GPur, TRetP, unown_nil, unown_cons, un1, wipeD, List.getElem?_cons_zero, List.getElem?_cons_succ, List.set_cons_zero, List.set_cons_succ, List.set_nil, isD, beq_self_eq_true, notNO, isNon, Bool.not_true]
      exact kn _ _ ⟨rfl, hr', t, _, _, by omega, hf, rfl⟩
    | some x =>
      simp only [optD, TSeq, IZip, TRet, TRetN, DL.TSet, TDrop, TIf, TPar, TAsg, TFor, TFrz, frz, TSetOwn, TApp, TExt, TVar, TC, TBin, TTst, TChain, TAnd, TOr, TNot, TAndV, TOrV, TNotV, TIfE, TNil, TCons, TTup, TLst, TCB, TBM, TBM0, TPart, TNoPart, TSl, TNeg, GName, GNil, GCons, GTup, IList, ITup, IRng1, IRng2, IStr, TLstF, TCall, TYes, TNext, TPur, GPur, TRetP, unown_nil, unown_cons, un1, wipeD, List.getElem?_cons_zero, List.getElem?_cons_succ, List.set_cons_zero, List.set_cons_succ, List.set_nil, isD, beq_self_eq_true, notNO, isNon, Bool.not_false, ltO, i20]
      by_cases h : x < m
      · rw [fewStep_f (by unfold lets; rw [hm]; simp; omega)] at hf
        simp only [h, decide_true]
        exact kn _ _ ⟨rfl, hr', t + s, _, _, by omega, hf, rfl⟩
      · rw [fewStep_t (by unfold lets; rw [hm]; simp; omega)] at hf
        simp only [h, decide_false]
        exact kn _ _ ⟨rfl, hr', t, _, _, by omega, hf, rfl⟩
def isLets (u a m T : Int) : Prop := 0 ≤ T ∧ T ≤ 160 ∧ ∀ t, 0 ≤ t → t ≤ 254 → (lets u a m t = true ↔ T ≤ t)
/-- more trials let no less -/
def leO' (x y : Option Int) : Bool := match x, y with
  | _, none => true
  | none, some _ => false
  | some x, some y => decide (x ≤ y)
theorem most_mono : ∀ u < 3, ∀ a < 3, ∀ t < 254, leO' (mostO (u : Nat) (a : Nat) (t : Nat)) (mostO (u : Nat) (a : Nat) ((t + 1 : Nat))) = true := by decide +kernel
theorem most_top : ∀ u < 3, ∀ a < 3, leO' (some (10 ^ 40)) (mostO (u : Nat) (a : Nat) 160) = true := by decide +kernel
/-- a demand's ways -/
structure GoodU (ws : List Str) : Prop where
  u0 : 0 ≤ unl ws
  u1 : unl ws ≤ 2
  a0 : 0 ≤ alk ws
  a1 : alk ws ≤ 2
  cnt : ((ws.filter fun s => decide (s ∈ (["01", "10"] : List Str))).length : Int) = unl ws
theorem goodU_all : ∀ k < 16, (0 ≤ unl (waysOf (k : Nat)) ∧ unl (waysOf (k : Nat)) ≤ 2 ∧ 0 ≤ alk (waysOf (k : Nat)) ∧ alk (waysOf (k : Nat)) ≤ 2 ∧ (((waysOf (k : Nat)).filter fun s => decide (s ∈ (["01", "10"] : List Str))).length : Int) = unl (waysOf (k : Nat))) := by decide +kernel
theorem goodU {n : Int} (h0 : 0 ≤ n) (h1 : n < 16) : GoodU (waysOf n) := by
  obtain ⟨k, rfl⟩ := Int.eq_ofNat_of_zero_le h0
  obtain ⟨a, b, c, d, e⟩ := goodU_all k (by omega)
  exact ⟨a, b, c, d, e⟩
theorem lets_mono {u a m t : Int} (u0 : 0 ≤ u) (u1 : u ≤ 2) (a0 : 0 ≤ a) (a1 : a ≤ 2) (t0 : 0 ≤ t) (t1 : t < 254) (h : lets u a m t = true) : lets u a m (t + 1) = true := by
  obtain ⟨u, rfl⟩ := Int.eq_ofNat_of_zero_le u0
  obtain ⟨a, rfl⟩ := Int.eq_ofNat_of_zero_le a0
  obtain ⟨t, rfl⟩ := Int.eq_ofNat_of_zero_le t0
  have mm := most_mono u (by omega) a (by omega) t (by omega)
  have e : ((t + 1 : Nat) : Int) = (t : Int) + 1 := by omega
  rw [e] at mm
  unfold lets at h ⊢
  generalize mostO (u : Int) (a : Int) (t : Int) = x at h mm
  generalize mostO (u : Int) (a : Int) ((t : Int) + 1) = y at mm ⊢
  cases y with
  | none => rfl
  | some y =>
    cases x with
    | none => cases mm
    | some x =>
      have h1 : x ≤ y := of_decide_eq_true mm
      have h2 : m ≤ x := of_decide_eq_true h
      show decide (m ≤ y) = true
      simp; omega
theorem lets_up {u a m : Int} (u0 : 0 ≤ u) (u1 : u ≤ 2) (a0 : 0 ≤ a) (a1 : a ≤ 2) {T : Int} (T0 : 0 ≤ T) (h : lets u a m T = true) : ∀ k : Nat, T + (k : Int) ≤ 254 → lets u a m (T + (k : Int)) = true
  | 0, _ => by simpa using h
  | k + 1, hk => by
    have := lets_mono (m := m) u0 u1 a0 a1 (t := T + (k : Int)) (by omega) (by omega) (lets_up u0 u1 a0 a1 T0 h k (by omega))
    have e : T + ((k + 1 : Nat) : Int) = T + (k : Int) + 1 := by omega
    rw [e]
    exact this
theorem lets_first {u a m : Int} : ∀ n : Nat, lets u a m (n : Int) = true → ∃ T : Nat, T ≤ n ∧ lets u a m (T : Int) = true ∧ ∀ s : Nat, s < T → lets u a m (s : Int) = false
  | 0, h => ⟨0, Nat.le_refl _, h, fun s hs => by omega⟩
  | n + 1, h => by
    cases q : lets u a m (n : Int) with
    | true =>
      obtain ⟨T, h1, h2, h3⟩ := lets_first n q
      exact ⟨T, by omega, h2, h3⟩
    | false =>
      by_cases ex : ∃ s : Nat, s < n + 1 ∧ lets u a m (s : Int) = true
      · obtain ⟨s, hs, e⟩ := ex
        have hs' : s ≠ n := fun z => by rw [z, q] at e; cases e
        have : ∃ T : Nat, T ≤ s ∧ lets u a m (T : Int) = true ∧ ∀ s : Nat, s < T → lets u a m (s : Int) = false := by
          have : ∀ k ≤ n, lets u a m (k : Int) = true → ∃ T : Nat, T ≤ k ∧ lets u a m (T : Int) = true ∧ ∀ s : Nat, s < T → lets u a m (s : Int) = false := by
            intro k
            induction k using Nat.strongRecOn with
            | ind k ih =>
              intro hk ek
              by_cases ex2 : ∃ s : Nat, s < k ∧ lets u a m (s : Int) = true
              · obtain ⟨s', hs2, e2⟩ := ex2
                obtain ⟨T, z1, z2, z3⟩ := ih s' hs2 (by omega) e2
                exact ⟨T, by omega, z2, z3⟩
              · refine ⟨k, Nat.le_refl _, ek, fun s' hs2 => ?_⟩
                cases e3 : lets u a m (s' : Int) with
                | false => rfl
                | true => exact absurd ⟨s', hs2, e3⟩ ex2
          exact this s (by omega) e
        obtain ⟨T, z1, z2, z3⟩ := this
        exact ⟨T, by omega, z2, z3⟩
      · refine ⟨n + 1, Nat.le_refl _, h, fun s hs => ?_⟩
        cases e3 : lets u a m (s : Int) with
        | false => rfl
        | true => exact absurd ⟨s, hs, e3⟩ ex
theorem lets_ex {u a m : Int} (u0 : 0 ≤ u) (u1 : u ≤ 2) (a0 : 0 ≤ a) (a1 : a ≤ 2) (hm : m ≤ 10 ^ 40) : ∃ T, isLets u a m T := by
  have top : lets u a m 160 = true := by
    obtain ⟨u, rfl⟩ := Int.eq_ofNat_of_zero_le u0
    obtain ⟨a, rfl⟩ := Int.eq_ofNat_of_zero_le a0
    have mm := most_top u (by omega) a (by omega)
    unfold lets
    generalize mostO (u : Int) (a : Int) 160 = y at mm ⊢
    cases y with
    | none => rfl
    | some y =>
      have h1 : (10 ^ 40 : Int) ≤ y := of_decide_eq_true mm
      show decide (m ≤ y) = true
      simp; omega
  obtain ⟨T, h1, h2, h3⟩ := lets_first 160 top
  refine ⟨T, by omega, by omega, fun t t0 t1 => ⟨fun h => ?_, fun h => ?_⟩⟩
  · obtain ⟨k, rfl⟩ := Int.eq_ofNat_of_zero_le t0
    by_cases q : (T : Int) ≤ (k : Int)
    · exact q
    · have := h3 k (by omega)
      have h' : lets u a m (k : Int) = true := h
      rw [this] at h'
      cases h'
  · have := lets_up u0 u1 a0 a1 (T := (T : Int)) (by omega) h2 (t - T).toNat (by omega)
    have e : (T : Int) + ((t - T).toNat : Int) = t := by omega
    rwa [e] at this
theorem few_step {u a m T t s : Int} (h : isLets u a m T) (t0 : 0 ≤ t) (h1 : t ≤ T) (h2 : T < t + 2 * s) (h3 : t + 2 * s ≤ 256) (hs : 1 ≤ s) : 0 ≤ fewStep u a m t s ∧ fewStep u a m t s ≤ T ∧ T < fewStep u a m t s + s ∧ fewStep u a m t s + s ≤ 256 := by
  have key := h.2.2 (t + s - 1) (by omega) (by omega)
  cases q : lets u a m (t + s - 1) with
  | true =>
    rw [fewStep_t q]
    have := key.mp q
    omega
  | false =>
    rw [fewStep_f q]
    have : ¬ T ≤ t + s - 1 := fun z => by
      have := key.mpr z
      rw [q] at this
      cases this
    omega
theorem few_is {u a m T : Int} (h : isLets u a m T) : fewI u a m = T := by
  obtain ⟨h0, h1, _⟩ := id h
  obtain ⟨a1, b1, c1, d1⟩ := few_step (t := 0) (s := 128) h (by decide) h0 (by omega) (by decide) (by decide)
  obtain ⟨a2, b2, c2, d2⟩ := few_step (s := 64) h a1 b1 (by omega) (by omega) (by decide)
  obtain ⟨a3, b3, c3, d3⟩ := few_step (s := 32) h a2 b2 (by omega) (by omega) (by decide)
  obtain ⟨a4, b4, c4, d4⟩ := few_step (s := 16) h a3 b3 (by omega) (by omega) (by decide)
  obtain ⟨a5, b5, c5, d5⟩ := few_step (s := 8) h a4 b4 (by omega) (by omega) (by decide)
  obtain ⟨a6, b6, c6, d6⟩ := few_step (s := 4) h a5 b5 (by omega) (by omega) (by decide)
  obtain ⟨a7, b7, c7, d7⟩ := few_step (s := 2) h a6 b6 (by omega) (by omega) (by decide)
  obtain ⟨a8, b8, c8, d8⟩ := few_step (s := 1) h a7 b7 (by omega) (by omega) (by decide)
  unfold fewI
  simp only [List.foldl_cons, List.foldl_nil]
  omega
/-- the law's judgement -/
def isFew (ws : List Str) (sw tr : D) : Bool := match sw, tr with
  | .int m, .int t => decide (1 ≤ m ∧ m ≤ 10 ^ 40 ∧ 0 ≤ t ∧ t ≤ 200) && (lets (unl ws) (alk ws) m t && (decide (t = 0) || !lets (unl ws) (alk ws) m (t - 1)))
  | _, _ => false
theorem isFew_eq {ws : List Str} {m t T : Int} (h : isLets (unl ws) (alk ws) m T) (h1 : 1 ≤ m) (h2 : m ≤ 10 ^ 40) : isFew ws (.int m) (.int t) = decide (t = T) := by
  obtain ⟨T0, T1, key⟩ := h
  show (decide (1 ≤ m ∧ m ≤ 10 ^ 40 ∧ 0 ≤ t ∧ t ≤ 200) && (lets (unl ws) (alk ws) m t && (decide (t = 0) || !lets (unl ws) (alk ws) m (t - 1)))) = decide (t = T)
  rw [Bool.eq_iff_iff]
  simp only [Bool.and_eq_true, Bool.or_eq_true, decide_eq_true_eq, Bool.not_eq_true']
  constructor
  · rintro ⟨⟨_, _, t0, t1⟩, l1, l2⟩
    have k1 := (key t t0 (by omega)).mp l1
    rcases l2 with l2 | l2
    · omega
    · by_cases z : t = 0
      · omega
      · have k2 := key (t - 1) (by omega) (by omega)
        have : ¬ T ≤ t - 1 := fun q => by
          have := k2.mpr q
          rw [l2] at this
          cases this
        omega
  · rintro rfl
    refine ⟨⟨h1, h2, T0, by omega⟩, (key t T0 (by omega)).mpr (Int.le_refl _), ?_⟩
    by_cases z : t = 0
    · exact .inl z
    · refine .inr ?_
      cases q : lets (unl ws) (alk ws) m (t - 1) with
      | false => rfl
      | true =>
        have := (key (t - 1) (by omega) (by omega)).mp q
        omega
def sp_shows_fewest : SpD := fun ds M Q => ∃ (ws : List Str) (sw tr ce : D), ds = [tupS ws, sw, tr, ce] ∧ GoodU ws ∧ kok sw = true ∧ kok tr = true ∧ kok ce = true ∧ Q (.bl (isNon ce && isFew ws sw tr)) M
def T_shows_fewest : TSd := TSeq (TIf (TOr (TTst (TBin notNO (TVar 3) (TC .non))) (TOr (TNot (TTst (TCall sp_is_number (TCons (TVar 1) (TCons (TC (.int 1)) (TCons (TC (.int 10000000000000000000000000000000000000000)) (TNil))))))) (TNot (TTst (TCall sp_is_integer (TCons (TVar 2) (TNil))))))) (TRet (TC (.bl false))) (TNext))
  (TRet (TBin eqOp (TVar 2) (TCall sp_fewest_for (TCons (TVar 0) (TCons (TVar 1) (TNil))))))
theorem len_shows_fewest : ∀ ds M Q, sp_shows_fewest ds M Q → ds.length = 4 := fun _ _ _ ⟨_, _, _, _, e, _⟩ => by rw [e]; rfl
theorem isFew_s {ws : List Str} {sw tr : D} (h : isInt sw = false) : isFew ws sw tr = false := by
  cases sw <;> first | (cases h; done) | rfl
theorem isFew_t {ws : List Str} {sw tr : D} (h : isInt tr = false) : isFew ws sw tr = false := by
  cases tr <;> cases sw <;> first | (cases h; done) | rfl
theorem isFew_m {ws : List Str} {m : Int} {tr : D} (h : ¬ (1 ≤ m ∧ m ≤ 10 ^ 40)) : isFew ws (.int m) tr = false := by
  cases tr with
  | int t =>
    show (decide (1 ≤ m ∧ m ≤ 10 ^ 40 ∧ 0 ≤ t ∧ t ≤ 200) && _) = false
    rw [decide_eq_false fun q => h ⟨q.1, q.2.1⟩]
    rfl
  | _ => rfl
theorem body_shows_fewest : ∀ (ds : List D) (M : Mem) (Q : D → Mem → Prop), sp_shows_fewest ds M Q → T_shows_fewest ⟨fun _ M' => Q .non M', Q, fun _ _ => False, fun _ _ => False⟩ (startD ["ways", "switches", "trials", "certificate"] ds) M := by
  rintro _ M Q ⟨ws, sw, tr, ce, rfl, gu, ks, kt, kc, q⟩
  show T_shows_fewest _ [.val (tupS ws), .val sw, .val tr, .val ce] M
  simp only [T_shows_fewest, TSeq, IZip, TRet, TRetN, DL.TSet, TDrop, TIf, TPar, TAsg, TFor, TFrz, frz, TSetOwn, TApp, TExt, TVar, TC, TBin, TTst, TChain, TAnd, TOr, TNot, TAndV, TOrV, TNotV, TIfE, TNil, TCons, TTup, TLst, TCB, TBM, TBM0, TPart, TNoPart, TSl, TNeg, GName, GNil, GCons, GTup, IList, ITup, IRng1, IRng2, IStr, TLstF, TCall, TYes, TNext, TPur, GPur, TRetP, unown_nil, unown_cons, un1, wipeD, List.getElem?_cons_zero, List.getElem?_cons_succ, List.set_cons_zero, List.set_cons_succ, List.set_nil, isD, beq_self_eq_true, notNO]
  cases hc : isNon ce with
  | false =>
    rw [hc] at q
    simp only [Bool.not_false]
    exact q
  | true =>
    rw [hc, Bool.true_and] at q
    simp only [Bool.not_true]
    refine ⟨sw, 1, _, rfl, ks, ?_⟩
    cases hs : isInt sw with
    | false =>
      rw [isFew_s hs] at q
      cases sw <;> first | (cases hs; done) | exact q
    | true =>
      cases sw with
      | int m =>
        simp only [isNum]
        by_cases c0 : 1 ≤ m
        · by_cases c1 : m ≤ 10000000000000000000000000000000000000000
          · simp only [c0, c1, decide_true, Bool.and_self, Bool.not_true, TSeq, IZip, TRet, TRetN, DL.TSet, TDrop, TIf, TPar, TAsg, TFor, TFrz, frz, TSetOwn, TApp, TExt, TVar, TC, TBin, TTst, TChain, TAnd, TOr, TNot, TAndV, TOrV, TNotV, TIfE, TNil, TCons, TTup, TLst, TCB, TBM, TBM0, TPart, TNoPart, TSl, TNeg, GName, GNil, GCons, GTup, IList, ITup, IRng1, IRng2, IStr, TLstF, TCall, TYes, TNext, TPur, GPur, TRetP, unown_nil, unown_cons, un1, wipeD, List.getElem?_cons_zero, List.getElem?_cons_succ, List.set_cons_zero, List.set_cons_succ, List.set_nil, isD, beq_self_eq_true]
            refine ⟨tr, rfl, kt, ?_⟩
            cases ht : isInt tr with
            | false =>
              rw [isFew_t ht] at q
              exact q
            | true =>
              cases tr with
              | int t =>
                simp only [Bool.not_true]
                refine ⟨ws, m, rfl, gu.a0, ?_⟩
                have c1' : m ≤ 10 ^ 40 := c1
                obtain ⟨T, hT⟩ := lets_ex (m := m) gu.u0 gu.u1 gu.a0 gu.a1 c1'
                rw [isFew_eq hT c0 c1'] at q
                rw [few_is hT]
                show eqOp (.int t) (.int T) _
                rw [eq_ii]
                exact q
              | _ => cases ht
          · rw [isFew_m fun z => c1 z.2] at q
            simp only [c0, c1, decide_true, decide_false, Bool.and_false, Bool.not_false]
            exact q
        · rw [isFew_m fun z => c0 z.1] at q
          simp only [c0, decide_false, Bool.false_and, Bool.not_false]
          exact q
      | _ => cases hs
end DL

namespace DL
open PySem PySem.Spec PyProof.Rows L2 TL
/-! ## fewest trials judged -/
def HeadF (ws : List Str) (sw tr : D) (h : D) : Prop := ∃ lz, h = .tup [.str "fewest", .str lz, sw, tr] ∧ lz.length ≤ 16777213 ∧ waysIn (.str lz) = tupS ws
def sp_accepts : SpD := fun ds M Q => ∃ (h : D) (ws : List Str) (sw tr v : D), ds = [h, v] ∧ HeadF ws sw tr h ∧ GoodU ws ∧ kok sw = true ∧ kok tr = true ∧ kok v = true ∧ Q (.bl (isNon v && isFew ws sw tr)) M
def T_accepts : TSd := TSeq (TIf (TOr (TNot (TTst (TCB isiO (TCons (TVar 0) (TCons (TC (.ty "tuple")) (TNil)))))) (TOr (TTst (TBin eqOp (TCB lenO (TCons (TVar 0) (TNil))) (TC (.int 0)))) (TNot (TTst (TCB isiO (TCons (TBin ixO (TVar 0) (TC (.int 0))) (TCons (TC (.ty "str")) (TNil)))))))) (TRet (TC (.bl false))) (TNext))
  (TSeq (TSet 2 (TBin ixO (TVar 0) (TC (.int 0))))
  (TSeq (TIf (TTst (TBin neOp (TWGet SIZESD (TVar 2) (TC (.int 0))) (TCB lenO (TCons (TVar 0) (TNil))))) (TRet (TC (.bl false))) (TNext))
  (TSeq (TIf (TTst (TBin eqOp (TVar 2) (TC (.str "faults")))) (TNever) (TNext))
  (TSeq (TSet 3 (TCall sp_ways_in (TCons (TBin ixO (TVar 0) (TC (.int 1))) (TNil))))
  (TSeq (TIf (TTst (TBin isNO (TVar 3) (TC .non))) (TRet (TC (.bl false))) (TNext))
  (TSeq (TIf (TTst (TBin eqOp (TVar 2) (TC (.str "fewest")))) (TRet (TCall sp_shows_fewest (TCons (TVar 3) (TCons (TBin ixO (TVar 0) (TC (.int 2))) (TCons (TBin ixO (TVar 0) (TC (.int 3))) (TCons (TVar 1) (TNil))))))) (TNext))
  (TSeq (TIf (TTst (TBin eqOp (TVar 2) (TC (.str "column")))) (TNever) (TNext))
  (TNever))))))))
theorem len_accepts : ∀ ds M Q, sp_accepts ds M Q → ds.length = 2 := fun _ _ _ ⟨_, _, _, _, _, e, _⟩ => by rw [e]; rfl
theorem sizes_fewest : SIZESD.lookup (Str.ofString "fewest") = some (.int 4) := by rfl
theorem f1 : decide (Str.ofString "fewest" = Str.ofString "faults") = false := by decide +kernel
theorem at3 {a b c d : D} : atI [a, b, c, d] 3 = some d := rfl
theorem at2 {a b c d : D} : atI [a, b, c, d] 2 = some c := rfl
theorem body_accepts : ∀ (ds : List D) (M : Mem) (Q : D → Mem → Prop), sp_accepts ds M Q → T_accepts ⟨fun _ M' => Q .non M', Q, fun _ _ => False, fun _ _ => False⟩ (startD ["claim", "certificate", "word", "ways", "plan"] ds) M := by
  rintro _ M Q ⟨_, ws, sw, tr, v, rfl, ⟨lz, rfl, hl, hw⟩, gu, k1, k2, k3, q⟩
  show T_accepts _ [.val (.tup [.str "fewest", .str lz, sw, tr]), .val v, .no, .no, .no] M
  simp only [T_accepts, TSeq, IZip, TRet, TRetN, DL.TSet, TDrop, TIf, TPar, TAsg, TFor, TFrz, frz, TSetOwn, TApp, TExt, TVar, TC, TBin, TTst, TChain, TAnd, TOr, TNot, TAndV, TOrV, TNotV, TIfE, TNil, TCons, TTup, TLst, TCB, TBM, TBM0, TPart, TNoPart, TSl, TNeg, GName, GNil, GCons, GTup, IList, ITup, IRng1, IRng2, IStr, TLstF, TCall, TYes, TNext, TPur, GPur, TRetP, unown_nil, unown_cons, un1, wipeD, List.getElem?_cons_zero, List.getElem?_cons_succ, List.set_cons_zero, List.set_cons_succ, List.set_nil, isD, beq_self_eq_true, isiO_tup (d := D.tup [.str "fewest", .str lz, sw, tr]) rfl, isTup, lenO, lenD, eq_ii, ne_ii, List.length_cons, List.length_nil, Bool.not_true, ixO, atI_zero,
    isiO_str (d := D.str "fewest") rfl, isStr, show decide (((0 + 1 + 1 + 1 + 1 : Nat) : Int) = 0) = false from rfl, TWGet, sizes_fewest, Option.getD_some, show decide ((4 : Int) = ((0 + 1 + 1 + 1 + 1 : Nat) : Int)) = true from rfl, eq_ss, f1, decide_true]
  refine ⟨.str lz, rfl, rfl, fun z e => by cases e; exact hl, ?_⟩
  rw [hw]
  simp only [tupS, TSeq, IZip, TRet, TRetN, DL.TSet, TDrop, TIf, TPar, TAsg, TFor, TFrz, frz, TSetOwn, TApp, TExt, TVar, TC, TBin, TTst, TChain, TAnd, TOr, TNot, TAndV, TOrV, TNotV, TIfE, TNil, TCons, TTup, TLst, TCB, TBM, TBM0, TPart, TNoPart, TSl, TNeg, GName, GNil, GCons, GTup, IList, ITup, IRng1, IRng2, IStr, TLstF, TCall, TYes, TNext, TPur, GPur, TRetP, unown_nil, unown_cons, un1, wipeD, List.getElem?_cons_zero, List.getElem?_cons_succ, List.set_cons_zero, List.set_cons_succ, List.set_nil, isD, beq_self_eq_true, isNO, isNon, at2, at3]
  exact ⟨ws, sw, tr, v, rfl, gu, k1, k2, k3, q⟩
def sp_law_judged : SpD := fun ds M Q => ∃ (h : D) (ws : List Str) (sw tr v : D) (due : Bool), ds = [h, v, .bl due] ∧ HeadF ws sw tr h ∧ GoodU ws ∧ kok sw = true ∧ kok tr = true ∧ kok v = true ∧ due = (isNon v && isFew ws sw tr) ∧ Q (.bl true) M
def T__law_judged : TSd := TSeq (TSet 3 (TCall sp_accepts (TCons (TVar 0) (TCons (TVar 1) (TNil)))))
  (TRet (TAndV (TCB isiO (TCons (TVar 3) (TCons (TC (.ty "bool")) (TNil)))) (TBin eqOp (TVar 3) (TVar 2))))
theorem len__law_judged : ∀ ds M Q, sp_law_judged ds M Q → ds.length = 3 := fun _ _ _ ⟨_, _, _, _, _, _, e, _⟩ => by rw [e]; rfl
theorem body__law_judged : ∀ (ds : List D) (M : Mem) (Q : D → Mem → Prop), sp_law_judged ds M Q → T__law_judged ⟨fun _ M' => Q .non M', Q, fun _ _ => False, fun _ _ => False⟩ (startD ["_law_asked", "_law_paper", "_law_due", "_law_told"] ds) M := by
  rintro _ M Q ⟨h, ws, sw, tr, v, due, rfl, hh, gu, k1, k2, k3, rfl, q⟩
  show T__law_judged _ [.val h, .val v, .val (.bl (isNon v && isFew ws sw tr)), .no] M
  simp only [T__law_judged, TSeq, IZip, TRet, TRetN, DL.TSet, TDrop, TIf, TPar, TAsg, TFor, TFrz, frz, TSetOwn, TApp, TExt, TVar, TC, TBin, TTst, TChain, TAnd, TOr, TNot, TAndV, TOrV, TNotV, TIfE, TNil, TCons, TTup, TLst, TCB, TBM, TBM0, TPart, TNoPart, TSl, TNeg, GName, GNil, GCons, GTup, IList, ITup, IRng1, IRng2, IStr, TLstF, TCall, TYes, TNext, TPur, GPur, TRetP, unown_nil, unown_cons, un1, wipeD, List.getElem?_cons_zero, List.getElem?_cons_succ, List.set_cons_zero, List.set_cons_succ, List.set_nil, isD, beq_self_eq_true]
  refine ⟨h, ws, sw, tr, v, rfl, hh, gu, k1, k2, k3, ?_⟩
  simp only [isiO_bool (d := D.bl (isNon v && isFew ws sw tr)) rfl, isBl, eq_bb, beq_self_eq_true]
  exact q
def sp_law_big : SpD := fun ds M Q => ∃ (p : Addr) (n : Int), ds = [.ref p, .int n] ∧ M p = some .purse ∧ 0 < n ∧ ∀ k : Int, 0 ≤ k → k < n → Q (.int k) M
def T__law_big : TSd := TSeq (TSet 2 (TC (.int 0)))
  (TSeq (TFor (IRng1 (TCons (TC (.int 5)) (TNil))) (GName 3) (TSet 2 (TBin addO (TBin mulAllO (TVar 2) (TBin powO (TC (.int 10)) (TC (.int 9)))) (TCall sp_law_take (TCons (TVar 0) (TCons (TBin powO (TC (.int 10)) (TC (.int 9))) (TNil)))))))
  (TRet (TBin modO (TCB intO (TCons (TVar 2) (TNil))) (TVar 1))))
theorem len__law_big : ∀ ds M Q, sp_law_big ds M Q → ds.length = 2 := fun _ _ _ ⟨_, _, e, _⟩ => by rw [e]; rfl
theorem body__law_big : ∀ (ds : List D) (M : Mem) (Q : D → Mem → Prop), sp_law_big ds M Q → T__law_big ⟨fun _ M' => Q .non M', Q, fun _ _ => False, fun _ _ => False⟩ (startD ["_law_purse_here", "_law_many", "_law_found", "_law_turn"] ds) M := by
  rintro _ M Q ⟨p, n, rfl, hp, hn, q⟩
  show T__law_big _ [.val (.ref p), .val (.int n), .no, .no] M
  simp only [T__law_big, TSeq, IZip, TRet, TRetN, DL.TSet, TDrop, TIf, TPar, TAsg, TFor, TFrz, frz, TSetOwn, TApp, TExt, TVar, TC, TBin, TTst, TChain, TAnd, TOr, TNot, TAndV, TOrV, TNotV, TIfE, TNil, TCons, TTup, TLst, TCB, TBM, TBM0, TPart, TNoPart, TSl, TNeg, GName, GNil, GCons, GTup, IList, ITup, IRng1, IRng2, IStr, TLstF, TCall, TYes, TNext, TPur, GPur, TRetP, unown_nil, unown_cons, un1, wipeD, List.getElem?_cons_zero, List.getElem?_cons_succ, List.set_cons_zero, List.set_cons_succ, List.set_nil, isD, beq_self_eq_true]
  refine ⟨⟨by decide, by decide⟩, ?_⟩
  rw [rangeD_map]
  refine forD_sm D.int _ (fun ρ => ∃ (f : Int) (a : Sl), ρ = [.val (.ref p), .val (.int n), .val (.int f), a]) _ M (fun z hz ρ Kn ⟨f, a, hρ⟩ k => ?step) ⟨_, _, rfl⟩ (fun ρ ⟨f, a, hρ⟩ => ?fin)
  case step =>
    subst hρ
    simp only [TSeq, IZip, TRet, TRetN, DL.TSet, TDrop, TIf, TPar, TAsg, TFor, TFrz, frz, TSetOwn, TApp, TExt, TVar, TC, TBin, TTst, TChain, TAnd, TOr, TNot, TAndV, TOrV, TNotV, TIfE, TNil, TCons, TTup, TLst, TCB, TBM, TBM0, TPart, TNoPart, TSl, TNeg, GName, GNil, GCons, GTup, IList, ITup, IRng1, IRng2, IStr, TLstF, TCall, TYes, TNext, TPur, GPur, TRetP, unown_nil, unown_cons, un1, wipeD, List.getElem?_cons_zero, List.getElem?_cons_succ, List.set_cons_zero, List.set_cons_succ, List.set_nil, isD, beq_self_eq_true, powO, i2, mulAllO, addO]
    refine ⟨⟨by decide, by decide, by decide⟩, .inr ⟨by decide, by decide⟩, ⟨by decide, by decide, by decide⟩, ?_⟩
    exact ⟨p, _, rfl, hp, by decide, by decide, fun x _ _ => k _ ⟨_, _, rfl⟩⟩
  case fin =>
    subst hρ
    simp only [TSeq, IZip, TRet, TRetN, DL.TSet, TDrop, TIf, TPar, TAsg, TFor, TFrz, frz, TSetOwn, TApp, TExt, TVar, TC, TBin, TTst, TChain, TAnd, TOr, TNot, TAndV, TOrV, TNotV, TIfE, TNil, TCons, TTup, TLst, TCB, TBM, TBM0, TPart, TNoPart, TSl, TNeg, GName, GNil, GCons, GTup, IList, ITup, IRng1, IRng2, IStr, TLstF, TCall, TYes, TNext, TPur, GPur, TRetP, unown_nil, unown_cons, un1, wipeD, List.getElem?_cons_zero, List.getElem?_cons_succ, List.set_cons_zero, List.set_cons_succ, List.set_nil, isD, beq_self_eq_true, intO, modO, i2]
    exact ⟨hn, q _ (Int.emod_nonneg _ (by omega)) (Int.emod_lt_of_pos _ hn)⟩
def sp_law_choose : SpD := sp_chosen
def T__law_choose : TSd := TSeq (TIf (TOr (TTst (TBin ltO (TVar 1) (TC (.int 0)))) (TTst (TBin gtO (TVar 1) (TVar 0)))) (TRet (TC (.int 0))) (TNext))
  (TSeq (TSet 2 (TC (.int 1)))
  (TSeq (TFor (IRng1 (TCons (TCB minO (TCons (TVar 1) (TCons (TBin subO (TVar 0) (TVar 1)) (TNil)))) (TNil))) (GName 3) (TSet 2 (TBin fdivO (TBin mulAllO (TVar 2) (TBin subO (TVar 0) (TVar 3))) (TBin addO (TVar 3) (TC (.int 1))))))
  (TRet (TVar 2))))
theorem len__law_choose : ∀ ds M Q, sp_law_choose ds M Q → ds.length = 2 := len_chosen
theorem body__law_choose : ∀ (ds : List D) (M : Mem) (Q : D → Mem → Prop), sp_law_choose ds M Q → T__law_choose ⟨fun _ M' => Q .non M', Q, fun _ _ => False, fun _ _ => False⟩ (startD ["_law_many", "_law_some", "_law_found", "_law_k"] ds) M := by
  rintro _ M Q ⟨m, s, rfl, hm, q⟩
  show T__law_choose _ [.val (.int m), .val (.int s), .no, .no] M
  simp only [T__law_choose, TSeq, IZip, TRet, TRetN, DL.TSet, TDrop, TIf, TPar, TAsg, TFor, TFrz, frz, TSetOwn, TApp, TExt, TVar, TC, TBin, TTst, TChain, TAnd, TOr, TNot, TAndV, TOrV, TNotV, TIfE, TNil, TCons, TTup, TLst, TCB, TBM, TBM0, TPart, TNoPart, TSl, TNeg, GName, GNil, GCons, GTup, IList, ITup, IRng1, IRng2, IStr, TLstF, TCall, TYes, TNext, TPur, GPur, TRetP, unown_nil, unown_cons, un1, wipeD, List.getElem?_cons_zero, List.getElem?_cons_succ, List.set_cons_zero, List.set_cons_succ, List.set_nil, isD, beq_self_eq_true, ltO, gtO, i20]
  have bad : ¬ (0 ≤ s ∧ s ≤ m) → Q (.int 0) M := fun h => by rw [chI, if_neg h] at q; exact q
  by_cases h0 : s < 0
  · simp only [h0, decide_true]
    exact bad fun h => by omega
  · by_cases h1 : m < s
    · simp only [h0, h1, decide_true, decide_false]
      exact bad fun h => by omega
    · simp only [h0, h1, decide_false, minO, subO, i20]
      have z0 : 0 ≤ s := by omega
      have z1 : s ≤ m := by omega
      refine ⟨⟨by omega, by omega⟩, ?_⟩
      rw [rangeD_map]
      have e : (min s (m - s) - 0).toNat = min s.toNat (m - s).toNat := by omega
      rw [e]
      refine forD_fold D.int (fun (f : Int) ρ => ∃ a, ρ = [.val (.int m), .val (.int s), .val (.int f), a]) (fun (f : Int) (k : Int) => f * (m - k) / (k + 1)) M _ 1 _ (fun k hk f ρ Kn ⟨a, hρ⟩ kn => ?step) ⟨_, rfl⟩ (fun ρ ⟨a, hρ⟩ => ?fin)
      case step =>
        subst hρ
        obtain ⟨y, hy, rfl⟩ := List.mem_map.mp hk
        have hy := List.mem_range.mp hy
        simp only [TSeq, IZip, TRet, TRetN, DL.TSet, TDrop, TIf, TPar, TAsg, TFor, TFrz, frz, TSetOwn, TApp, TExt, TVar, TC, TBin, TTst, TChain, TAnd, TOr, TNot, TAndV, TOrV, TNotV, TIfE, TNil, TCons, TTup, TLst, TCB, TBM, TBM0, TPart, TNoPart, TSl, TNeg, GName, GNil, GCons, GTup, IList, ITup, IRng1, IRng2, IStr, TLstF, TCall, TYes, TNext, TPur, GPur, TRetP, unown_nil, unown_cons, un1, wipeD, List.getElem?_cons_zero, List.getElem?_cons_succ, List.set_cons_zero, List.set_cons_succ, List.set_nil, isD, beq_self_eq_true, mulAllO, fdivO, i2, subO, addO, i20]
        exact ⟨.inr ⟨by omega, by omega⟩, ⟨by omega, by omega⟩, kn _ ⟨_, rfl⟩⟩
      case fin =>
        subst hρ
        rw [ch_loop z0 z1]
        exact q
theorem twice_loop : ∀ (xs : List Int) (f : Int), xs.foldl (fun (f : Int) (_ : Int) => f * 2) f = f * 2 ^ xs.length
  | [], f => by simp
  | x :: r, f => by
    rw [List.foldl_cons, twice_loop r, List.length_cons, Int.pow_succ, Int.mul_assoc, Int.mul_comm 2]
theorem pw_max (k : Int) : (2 : Int) ^ k.toNat = max 1 (pwI k) := by
  unfold pwI
  by_cases h : k < 0
  · rw [if_pos h]
    have : k.toNat = 0 := by omega
    rw [this]
    decide
  · rw [if_neg h]
    have : (0 : Int) < 2 ^ k.toNat := Int.pow_pos (by decide)
    omega
def sp_law_most : SpD := fun ds M Q => ∃ (ws : List Str) (t : Int), ds = [lstS ws, .int t] ∧ GoodU ws ∧ ws.length ≤ 4 ∧ t < 1000 ∧ -1000 < t ∧ Q (optD (mostO (unl ws) (alk ws) t)) M
def T__law_most : TSd := TSeq (TSet 2 (TLc (IList (TVar 0)) (GName 6) (TTst (TBin (inO false) (TVar 6) (TLst (TCons (TC (.str "01")) (TCons (TC (.str "10")) (TNil)))))) (TVar 6) [6]))
  (TSeq (TSet 3 (TBin subO (TCB lenO (TCons (TVar 0) (TNil))) (TCB lenO (TCons (TVar 2) (TNil)))))
  (TSeq (TIf (TTst (TBin eqOp (TVar 2) (TLst (TNil)))) (TRet (TIfE (TTst (TBin geO (TVar 1) (TVar 3))) (TC .non) (TC (.int 1)))) (TNext))
  (TSeq (TIf (TTst (TBin eqOp (TCB lenO (TCons (TVar 2) (TNil))) (TC (.int 1)))) (TSeq (TSet 4 (TC (.int 1)))
  (TSeq (TFor (IRng1 (TCons (TBin subO (TVar 1) (TVar 3)) (TNil))) (GName 5) (TSet 4 (TBin mulAllO (TVar 4) (TC (.int 2)))))
  (TRet (TVar 4)))) (TNext))
  (TSeq (TIf (TTst (TBin eqOp (TVar 3) (TC (.int 2)))) (TRet (TCB maxO (TCons (TC (.int 1)) (TCons (TCall sp_law_choose (TCons (TBin subO (TVar 1) (TC (.int 1))) (TCons (TBin subO (TBin fdivO (TVar 1) (TC (.int 2))) (TC (.int 1))) (TNil)))) (TNil))))) (TNext))
  (TRet (TCB maxO (TCons (TC (.int 1)) (TCons (TCall sp_law_choose (TCons (TVar 1) (TCons (TBin addO (TBin fdivO (TVar 1) (TC (.int 2))) (TVar 3)) (TNil)))) (TNil)))))))))
theorem len__law_most : ∀ ds M Q, sp_law_most ds M Q → ds.length = 2 := fun _ _ _ ⟨_, _, e, _⟩ => by rw [e]; rfl
theorem eq_lnil {xs : List Str} {k : D → Prop} : eqOp (.lst (xs.map D.str)) (.lst []) k = k (.bl (decide (xs = []))) := by
  unfold eqOp
  rw [eqv_nil]
  have h1 : isPy (.lst (xs.map D.str)) = true := isPys_strs xs
  have h2 : dep (.lst (xs.map D.str)) ≤ 64 := by show deps (xs.map D.str) + 1 ≤ 64; rw [deps_strs]; decide
  simp [h1, h2, show isPy (.lst []) = true from rfl, show dep (.lst []) ≤ 64 from by decide]
theorem body__law_most : ∀ (ds : List D) (M : Mem) (Q : D → Mem → Prop), sp_law_most ds M Q → T__law_most ⟨fun _ M' => Q .non M', Q, fun _ _ => False, fun _ _ => False⟩ (startD ["_law_ways_here", "_law_deep", "_law_unlike", "_law_alike", "_law_found", "_law_turn", "_law_sign"] ds) M := by
  rintro _ M Q ⟨ws, t, rfl, gu, hw, ht, ht2, q⟩
  show T__law_most _ [.val (lstS ws), .val (.int t), .no, .no, .no, .no, .no] M
  simp only [T__law_most, TSeq, IZip, TRet, TRetN, DL.TSet, TDrop, TIf, TPar, TAsg, TFor, TFrz, frz, TSetOwn, TApp, TExt, TVar, TC, TBin, TTst, TChain, TAnd, TOr, TNot, TAndV, TOrV, TNotV, TIfE, TNil, TCons, TTup, TLst, TCB, TBM, TBM0, TPart, TNoPart, TSl, TNeg, GName, GNil, GCons, GTup, IList, ITup, IRng1, IRng2, IStr, TLstF, TCall, TYes, TNext, TPur, GPur, TRetP, unown_nil, unown_cons, un1, wipeD, List.getElem?_cons_zero, List.getElem?_cons_succ, List.set_cons_zero, List.set_cons_succ, List.set_nil, isD, beq_self_eq_true, TLc, TLcF, lstS, List.length_cons, List.length_nil]
  refine ⟨by rw [List.length_map]; omega, ?_⟩
  refine lcD_f D.str (fun s => decide (s ∈ (["01", "10"] : List Str))) D.str _ _ (fun s hs K1 K2 k1 k2 => ?_) ?_
  · simp only [TSeq, IZip, TRet, TRetN, DL.TSet, TDrop, TIf, TPar, TAsg, TFor, TFrz, frz, TSetOwn, TApp, TExt, TVar, TC, TBin, TTst, TChain, TAnd, TOr, TNot, TAndV, TOrV, TNotV, TIfE, TNil, TCons, TTup, TLst, TCB, TBM, TBM0, TPart, TNoPart, TSl, TNeg, GName, GNil, GCons, GTup, IList, ITup, IRng1, IRng2, IStr, TLstF, TCall, TYes, TNext, TPur, GPur, TRetP, unown_nil, unown_cons, un1, wipeD, List.getElem?_cons_zero, List.getElem?_cons_succ, List.set_cons_zero, List.set_cons_succ, List.set_nil, isD, beq_self_eq_true, inO, List.length_cons, List.length_nil]
    refine ⟨by decide, ⟨rfl, rfl⟩, ?_⟩
    have e : inD (.str s) [D.str (Str.ofString "01"), D.str (Str.ofString "10")] = decide (s ∈ (["01", "10"] : List Str)) := inD_strs s ["01", "10"]
    rw [e]
    simp only [Bool.false_eq_true, if_false]
    cases hh : decide (s ∈ (["01", "10"] : List Str)) with
    | true => exact k1 hh
    | false => exact k2 hh
  · have hc := gu.cnt
    have u0 := gu.u0
    have u1 := gu.u1
    have a0 := gu.a0
    have a1 := gu.a1
    have hal : (ws.length : Int) - unl ws = alk ws := rfl
    generalize ws.filter (fun s => decide (s ∈ (["01", "10"] : List Str))) = us at hc
    simp only [TSeq, IZip, TRet, TRetN, DL.TSet, TDrop, TIf, TPar, TAsg, TFor, TFrz, frz, TSetOwn, TApp, TExt, TVar, TC, TBin, TTst, TChain, TAnd, TOr, TNot, TAndV, TOrV, TNotV, TIfE, TNil, TCons, TTup, TLst, TCB, TBM, TBM0, TPart, TNoPart, TSl, TNeg, GName, GNil, GCons, GTup, IList, ITup, IRng1, IRng2, IStr, TLstF, TCall, TYes, TNext, TPur, GPur, TRetP, unown_nil, unown_cons, un1, wipeD, List.getElem?_cons_zero, List.getElem?_cons_succ, List.set_cons_zero, List.set_cons_succ, List.set_nil, isD, beq_self_eq_true, lenO, lenD, subO, i20, List.length_map, List.length_nil, hc, hal, eq_lnil, eq_ii]
    generalize unl ws = u at q hc u0 u1
    generalize alk ws = a at q a0 a1
    clear hal gu
    unfold mostO at q
    refine ⟨by decide, ?_⟩
    by_cases h0 : us = []
    · have hu : u = 0 := by rw [← hc, h0]; rfl
      simp only [h0, decide_true]
      rw [if_pos hu] at q
      simp only [geO, i20]
      by_cases h1 : a ≤ t
      · simp only [h1, decide_true, if_true] at q ⊢; exact q
      · simp only [h1, decide_false, if_false] at q ⊢; exact q
    · have hu : ¬ u = 0 := by
        intro z
        rw [z] at hc
        exact h0 (List.length_eq_zero_iff.mp (by omega))
      simp only [h0, decide_false]
      rw [if_neg hu] at q
      by_cases h1 : u = 1
      · simp only [h1, decide_true, if_true] at q ⊢
        refine ⟨⟨by omega, by omega⟩, ?_⟩
        rw [rangeD_map]
        refine forD_fold D.int (fun (f : Int) ρ => ∃ a5, ρ = [.val (.lst (ws.map D.str)), .val (.int t), .val (.lst (us.map D.str)), .val (.int a), .val (.int f), a5, .no]) (fun (f : Int) (_ : Int) => f * 2) M _ 1 _ (fun k hk f ρ Kn ⟨a5, hρ⟩ kn => ?step) ⟨_, rfl⟩ (fun ρ ⟨a5, hρ⟩ => ?fin)
        case step =>
          subst hρ
          simp only [TSeq, IZip, TRet, TRetN, DL.TSet, TDrop, TIf, TPar, TAsg, TFor, TFrz, frz, TSetOwn, TApp, TExt, TVar, TC, TBin, TTst, TChain, TAnd, TOr, TNot, TAndV, TOrV, TNotV, TIfE, TNil, TCons, TTup, TLst, TCB, TBM, TBM0, TPart, TNoPart, TSl, TNeg, GName, GNil, GCons, GTup, IList, ITup, IRng1, IRng2, IStr, TLstF, TCall, TYes, TNext, TPur, GPur, TRetP, unown_nil, unown_cons, un1, wipeD, List.getElem?_cons_zero, List.getElem?_cons_succ, List.set_cons_zero, List.set_cons_succ, List.set_nil, isD, beq_self_eq_true, mulAllO]
          exact ⟨.inr ⟨by decide, by decide⟩, kn _ ⟨_, rfl⟩⟩
        case fin =>
          subst hρ
          simp only [TSeq, IZip, TRet, TRetN, DL.TSet, TDrop, TIf, TPar, TAsg, TFor, TFrz, frz, TSetOwn, TApp, TExt, TVar, TC, TBin, TTst, TChain, TAnd, TOr, TNot, TAndV, TOrV, TNotV, TIfE, TNil, TCons, TTup, TLst, TCB, TBM, TBM0, TPart, TNoPart, TSl, TNeg, GName, GNil, GCons, GTup, IList, ITup, IRng1, IRng2, IStr, TLstF, TCall, TYes, TNext, TPur, GPur, TRetP, unown_nil, unown_cons, un1, wipeD, List.getElem?_cons_zero, List.getElem?_cons_succ, List.set_cons_zero, List.set_cons_succ, List.set_nil, isD, beq_self_eq_true]
          rw [twice_loop, List.length_map, List.length_range, Int.one_mul]
          have e : (t - a - 0).toNat = (t - a).toNat := by omega
          rw [e, pw_max]
          exact q
      · simp only [h1, decide_false, if_false] at q ⊢
        by_cases h2 : a = 2
        · simp only [h2, decide_true, if_true, subO, i20, maxO, fdivO, i2] at q ⊢
          exact ⟨⟨by decide, by decide⟩, _, _, rfl, by omega, q⟩
        · simp only [h2, decide_false, if_false, addO, maxO, fdivO, i2] at q ⊢
          exact ⟨⟨by decide, by decide⟩, _, _, rfl, by omega, q⟩
def sp_law_fewest : SpD := fun ds M Q => ∃ (ws : List Str) (m T : Int), ds = [lstS ws, .int m] ∧ GoodU ws ∧ ws.length ≤ 4 ∧ isLets (unl ws) (alk ws) m T ∧ Q (.int T) M
def T__law_fewest : TSd := TSeq (TAsg (TTup (TCons (TC (.int 0)) (TCons (TC (.int 160)) (TNil)))) (GTup 2 (GCons (GName 3) (GCons (GName 4) (GNil)))))
  (TSeq (TFor (IRng1 (TCons (TC (.int 9)) (TNil))) (GName 2) (TIf (TTst (TBin ltO (TVar 3) (TVar 4))) (TSeq (TSet 5 (TBin fdivO (TBin addO (TVar 3) (TVar 4)) (TC (.int 2))))
  (TSeq (TSet 6 (TCall sp_law_most (TCons (TVar 0) (TCons (TVar 5) (TNil)))))
  (TIf (TOr (TTst (TBin isNO (TVar 6) (TC .non))) (TTst (TBin geO (TVar 6) (TVar 1)))) (TSet 4 (TVar 5)) (TSet 3 (TBin addO (TVar 5) (TC (.int 1))))))) (TNext)))
  (TRet (TVar 4)))
theorem len__law_fewest : ∀ ds M Q, sp_law_fewest ds M Q → ds.length = 2 := fun _ _ _ ⟨_, _, _, e, _⟩ => by rw [e]; rfl
theorem body__law_fewest : ∀ (ds : List D) (M : Mem) (Q : D → Mem → Prop), sp_law_fewest ds M Q → T__law_fewest ⟨fun _ M' => Q .non M', Q, fun _ _ => False, fun _ _ => False⟩ (startD ["_law_ways_here", "_law_many", "_law_turn", "_law_low", "_law_high", "_law_middle", "_law_most_here"] ds) M := by
  rintro _ M Q ⟨ws, m, T, rfl, gu, hw, hT, q⟩
  show T__law_fewest _ [.val (lstS ws), .val (.int m), .no, .no, .no, .no, .no] M
  simp only [T__law_fewest, TSeq, IZip, TRet, TRetN, DL.TSet, TDrop, TIf, TPar, TAsg, TFor, TFrz, frz, TSetOwn, TApp, TExt, TVar, TC, TBin, TTst, TChain, TAnd, TOr, TNot, TAndV, TOrV, TNotV, TIfE, TNil, TCons, TTup, TLst, TCB, TBM, TBM0, TPart, TNoPart, TSl, TNeg, GName, GNil, GCons, GTup, IList, ITup, IRng1, IRng2, IStr, TLstF, TCall, TYes, TNext, TPur, GPur, TRetP, unown_nil, unown_cons, un1, wipeD, List.getElem?_cons_zero, List.getElem?_cons_succ, List.set_cons_zero, List.set_cons_succ, List.set_nil, isD, beq_self_eq_true, List.length_cons, List.length_nil]
  refine ⟨by decide, trivial, ⟨by decide, by decide⟩, ?_⟩
  obtain ⟨T0, T1, key⟩ := hT
  have e9 : rangeD 0 9 = ([0, 1, 2, 3, 4, 5, 6, 7, 8] : List Int).map D.int := rfl
  rw [e9]
  refine forD_inv D.int _ (fun r ρ M' => M' = M ∧ ∃ (lo hi : Int) (a b c : Sl), 0 ≤ lo ∧ lo ≤ T ∧ T ≤ hi ∧ hi ≤ 160 ∧ hi - lo < 2 ^ r.length ∧ ρ = [.val (lstS ws), .val (.int m), a, .val (.int lo), .val (.int hi), b, c]) _ _ (fun z r ρ M' Kn _ ⟨hM, lo, hi, a, b, c, l0, l1, l2, l3, l4, hρ⟩ kn => ?step) ⟨rfl, 0, 160, _, _, _, by decide, T0, T1, by decide, by decide, rfl⟩ (fun ρ M' ⟨hM, lo, hi, a, b, c, l0, l1, l2, l3, l4, hρ⟩ => ?fin)
  case fin =>
    subst hM hρ
    have : hi = T := by
      have l4' : hi - lo < 1 := l4
      omega
    simp only [TSeq, IZip, TRet, TRetN, DL.TSet, TDrop, TIf, TPar, TAsg, TFor, TFrz, frz, TSetOwn, TApp, TExt, TVar, TC, TBin, TTst, TChain, TAnd, TOr, TNot, TAndV, TOrV, TNotV, TIfE, TNil, TCons, TTup, TLst, TCB, TBM, TBM0, TPart, TNoPart, TSl, TNeg, GName, GNil, GCons, GTup, IList, ITup, IRng1, IRng2, IStr, TLstF, TCall, TYes, TNext, TPur, GPur, TRetP, unown_nil, unown_cons, un1, wipeD, List.getElem?_cons_zero, List.getElem?_cons_succ, List.set_cons_zero, List.set_cons_succ, List.set_nil, isD, beq_self_eq_true, this]
    exact q
  case step =>
    subst hM hρ
    have l5 : hi - lo < 2 * 2 ^ r.length := by
      have : (2 : Int) ^ (z :: r).length = 2 * 2 ^ r.length := by rw [List.length_cons, Int.pow_succ, Int.mul_comm]
      rwa [this] at l4
    generalize (2 : Int) ^ r.length = P at l5 kn
    simp only [TSeq, IZip, TRet, TRetN, DL.TSet, TDrop, TIf, TPar, TAsg, TFor, TFrz, frz, TSetOwn, TApp, TExt, TVar, TC, TBin, TTst, TChain, TAnd, TOr, TNot, TAndV, TOrV, TNotV, TIfE, TNil, TCons, TTup, TLst, TCB, TBM, TBM0, TPart, TNoPart, TSl, TNeg, GName, GNil, GCons, GTup, IList, ITup, IRng1, IRng2, IStr, TLstF, TCall, TYes, TNext, TPur, GPur, TRetP, unown_nil, unown_cons, un1, wipeD, List.getElem?_cons_zero, List.getElem?_cons_succ, List.set_cons_zero, List.set_cons_succ, List.set_nil, isD, beq_self_eq_true, ltO, i20, addO, fdivO, i2]
    by_cases hl : lo < hi
    · simp only [hl, decide_true]
      refine ⟨⟨by decide, by decide⟩, ws, _, rfl, gu, hw, by omega, by omega, ?_⟩
      have km := key ((lo + hi) / 2) (by omega) (by omega)
      have em : lets (unl ws) (alk ws) m ((lo + hi) / 2) = (match mostO (unl ws) (alk ws) ((lo + hi) / 2) with | none => true | some x => decide (m ≤ x)) := rfl
      rw [em] at km
      cases hm : mostO (unl ws) (alk ws) ((lo + hi) / 2) with
      | none =>
        rw [hm] at km
        have := km.mp rfl
        simp only [optD, TSeq, IZip, TRet, TRetN, DL.TSet, TDrop, TIf, TPar, TAsg, TFor, TFrz, frz, TSetOwn, TApp, TExt, TVar, TC, TBin, TTst, TChain, TAnd, TOr, TNot, TAndV, TOrV, TNotV, TIfE, TNil, TCons, TTup, TLst, TCB, TBM, TBM0, TPart, TNoPart, TSl, TNeg, GName, GNil, GCons, GTup, IList, ITup, IRng1, IRng2, IStr, TLstF, TCall, TYes, TNext, TPur, GPur, TRetP, unown_nil, unown_cons, un1, wipeD, List.getElem?_cons_zero, List.getElem?_cons_succ, List.set_cons_zero, List.set_cons_succ, List.set_nil, isD, beq_self_eq_true, isNO, isNon]
        exact kn _ _ ⟨rfl, lo, (lo + hi) / 2, _, _, _, l0, l1, this, by omega, by omega, rfl⟩
      | some x =>
        rw [hm] at km
        simp only [optD, TSeq, IZip, TRet, TRetN, DL.TSet, TDrop, TIf, TPar, TAsg, TFor, TFrz, frz, TSetOwn, TApp, TExt, TVar, TC, TBin, TTst, TChain, TAnd, TOr, TNot, TAndV, TOrV, TNotV, TIfE, TNil, TCons, TTup, TLst, TCB, TBM, TBM0, TPart, TNoPart, TSl, TNeg, GName, GNil, GCons, GTup, IList, ITup, IRng1, IRng2, IStr, TLstF, TCall, TYes, TNext, TPur, GPur, TRetP, unown_nil, unown_cons, un1, wipeD, List.getElem?_cons_zero, List.getElem?_cons_succ, List.set_cons_zero, List.set_cons_succ, List.set_nil, isD, beq_self_eq_true, isNO, isNon, geO, i20]
        by_cases hx : m ≤ x
        · have := km.mp (by simp [hx])
          simp only [hx, decide_true]
          exact kn _ _ ⟨rfl, lo, (lo + hi) / 2, _, _, _, l0, l1, this, by omega, by omega, rfl⟩
        · have : ¬ T ≤ (lo + hi) / 2 := fun z => hx (by simpa using km.mpr z)
          simp only [hx, decide_false]
          exact kn _ _ ⟨rfl, (lo + hi) / 2 + 1, hi, _, _, _, by omega, by omega, l2, l3, by omega, rfl⟩
    · simp only [hl, decide_false]
      exact kn _ _ ⟨rfl, lo, hi, _, _, _, l0, l1, l2, l3, by omega, rfl⟩
def sp_law_some_many : SpD := fun ds M Q => ∃ (p : Addr) (ws : List Str), ds = [.ref p, lstS ws] ∧ M p = some .purse ∧ GoodU ws ∧ ws.length ≤ 4 ∧ ∀ m : Int, 1 ≤ m → m ≤ 10 ^ 40 → Q (.int m) M
def T__law_some_many : TSd := TSeq (TSet 2 (TCall sp_law_take (TCons (TVar 0) (TCons (TBin ixO (TLst (TCons (TC (.int 12)) (TCons (TC (.int 12)) (TCons (TC (.int 40)) (TCons (TC (.int 146)) (TNil)))))) (TCall sp_law_take (TCons (TVar 0) (TCons (TC (.int 4)) (TNil))))) (TNil)))))
  (TSeq (TPar 3 4 (TCons (TCall sp_law_take (TCons (TVar 0) (TCons (TC (.int 5)) (TNil)))) (TCons (TCall sp_law_most (TCons (TVar 1) (TCons (TVar 2) (TNil)))) (TNil))))
  (TSeq (TIf (TOr (TTst (TBin isNO (TVar 4) (TC .non))) (TTst (TBin eqOp (TVar 3) (TC (.int 0))))) (TRet (TBin addO (TC (.int 1)) (TCall sp_law_big (TCons (TVar 0) (TCons (TBin ixO (TLst (TCons (TC (.int 8)) (TCons (TC (.int 70)) (TCons (TBin powO (TC (.int 10)) (TC (.int 9))) (TCons (TBin powO (TC (.int 10)) (TC (.int 20))) (TCons (TBin powO (TC (.int 10)) (TC (.int 40))) (TNil))))))) (TCall sp_law_take (TCons (TVar 0) (TCons (TC (.int 5)) (TNil))))) (TNil)))))) (TNext))
  (TSeq (TIf (TTst (TBin eqOp (TVar 3) (TC (.int 1)))) (TRet (TCB minO (TCons (TBin addO (TC (.int 1)) (TCall sp_law_big (TCons (TVar 0) (TCons (TVar 4) (TNil))))) (TCons (TBin powO (TC (.int 10)) (TC (.int 40))) (TNil))))) (TNext))
  (TRet (TCB minO (TCons (TCB maxO (TCons (TC (.int 1)) (TCons (TBin addO (TVar 4) (TBin ixO (TLst (TCons (TC (.int 0)) (TCons (TC (.int 1)) (TCons (TNeg (TC (.int 1))) (TNil))))) (TBin subO (TVar 3) (TC (.int 2))))) (TNil)))) (TCons (TBin powO (TC (.int 10)) (TC (.int 40))) (TNil))))))))
theorem len__law_some_many : ∀ ds M Q, sp_law_some_many ds M Q → ds.length = 2 := fun _ _ _ ⟨_, _, e, _⟩ => by rw [e]; rfl
theorem at4d {k : Int} (h0 : 0 ≤ k) (h1 : k < 4) : ∃ d : Int, atI [D.int 12, .int 12, .int 40, .int 146] k = some (.int d) ∧ 0 < d ∧ d ≤ 146 := by
  have : k = 0 ∨ k = 1 ∨ k = 2 ∨ k = 3 := by omega
  rcases this with rfl | rfl | rfl | rfl <;> exact ⟨_, rfl, by decide, by decide⟩
theorem at5d {k : Int} (h0 : 0 ≤ k) (h1 : k < 5) : ∃ d : Int, atI [D.int 8, .int 70, .int ((10 : Int) ^ (9 : Int).toNat), .int ((10 : Int) ^ (20 : Int).toNat), .int ((10 : Int) ^ (40 : Int).toNat)] k = some (.int d) ∧ 0 < d ∧ d ≤ 10 ^ 40 := by
  have : k = 0 ∨ k = 1 ∨ k = 2 ∨ k = 3 ∨ k = 4 := by omega
  rcases this with rfl | rfl | rfl | rfl | rfl <;> exact ⟨_, rfl, by decide, by decide⟩
theorem most_pos {u a t x : Int} (h : mostO u a t = some x) : 1 ≤ x := by
  unfold mostO at h
  split at h
  · split at h
    · cases h
    · cases h; decide
  · split at h
    · cases h; omega
    · split at h <;> (cases h; omega)
theorem body__law_some_many : ∀ (ds : List D) (M : Mem) (Q : D → Mem → Prop), sp_law_some_many ds M Q → T__law_some_many ⟨fun _ M' => Q .non M', Q, fun _ _ => False, fun _ _ => False⟩ (startD ["_law_purse_here", "_law_ways_here", "_law_deep", "_law_form", "_law_most_here"] ds) M := by
  rintro _ M Q ⟨p, ws, rfl, hp, gu, hw, q⟩
  show T__law_some_many _ [.val (.ref p), .val (lstS ws), .no, .no, .no] M
  simp only [T__law_some_many, TSeq, IZip, TRet, TRetN, DL.TSet, TDrop, TIf, TPar, TAsg, TFor, TFrz, frz, TSetOwn, TApp, TExt, TVar, TC, TBin, TTst, TChain, TAnd, TOr, TNot, TAndV, TOrV, TNotV, TIfE, TNil, TCons, TTup, TLst, TCB, TBM, TBM0, TPart, TNoPart, TSl, TNeg, GName, GNil, GCons, GTup, IList, ITup, IRng1, IRng2, IStr, TLstF, TCall, TYes, TNext, TPur, GPur, TRetP, unown_nil, unown_cons, un1, wipeD, List.getElem?_cons_zero, List.getElem?_cons_succ, List.set_cons_zero, List.set_cons_succ, List.set_nil, isD, beq_self_eq_true, List.length_cons, List.length_nil]
  refine ⟨by decide, p, 4, rfl, hp, by decide, by decide, fun k k0 k1 => ?_⟩
  obtain ⟨d, e, d0, d1⟩ := at4d k0 k1
  simp only [ixO, e]
  refine ⟨p, d, rfl, hp, d0, by omega, fun t t0 t1 => ?_⟩
  refine ⟨p, 5, rfl, hp, by decide, by decide, fun f f0 f1 => ?_⟩
  refine ⟨ws, t, rfl, gu, hw, by omega, by omega, ?_⟩
  have big : ∀ K : D → Mem → Prop, (∀ z : Int, 0 ≤ z → z < 10 ^ 40 → K (.int z) M) → (0 + 1 + 1 + 1 + 1 + 1 ≤ 16777216 ∧ sp_law_take [.ref p, .int 5] M fun y M2 => ixO (.lst [.int 8, .int 70, .int ((10 : Int) ^ (9 : Int).toNat), .int ((10 : Int) ^ (20 : Int).toNat), .int ((10 : Int) ^ (40 : Int).toNat)]) y fun z => sp_law_big [.ref p, z] M2 K) := fun K hK => by
    refine ⟨by decide, p, 5, rfl, hp, by decide, by decide, fun k k0 k1 => ?_⟩
    obtain ⟨d, e, d0, d1⟩ := at5d k0 k1
    simp only [ixO, e]
    exact ⟨p, d, rfl, hp, d0, fun z z0 z1 => hK z z0 (by omega)⟩
  cases hm : mostO (unl ws) (alk ws) t with
  | none =>
    simp only [optD, TSeq, IZip, TRet, TRetN, DL.TSet, TDrop, TIf, TPar, TAsg, TFor, TFrz, frz, TSetOwn, TApp, TExt, TVar, TC, TBin, TTst, TChain, TAnd, TOr, TNot, TAndV, TOrV, TNotV, TIfE, TNil, TCons, TTup, TLst, TCB, TBM, TBM0, TPart, TNoPart, TSl, TNeg, GName, GNil, GCons, GTup, IList, ITup, IRng1, IRng2, IStr, TLstF, TCall, TYes, TNext, TPur, GPur, TRetP, unown_nil, unown_cons, un1, wipeD, List.getElem?_cons_zero, List.getElem?_cons_succ, List.set_cons_zero, List.set_cons_succ, List.set_nil, isD, beq_self_eq_true, isNO, isNon, powO, i2, addO]
    exact ⟨⟨by decide, by decide, by decide⟩, ⟨by decide, by decide, by decide⟩, ⟨by decide, by decide, by decide⟩, big _ fun z z0 z1 => q _ (by omega) (by omega)⟩
  | some x =>
    have x1 := most_pos hm
    have e40 : (10 : Int) ^ (40 : Int).toNat = 10 ^ 40 := rfl
    simp only [optD, TSeq, IZip, TRet, TRetN, DL.TSet, TDrop, TIf, TPar, TAsg, TFor, TFrz, frz, TSetOwn, TApp, TExt, TVar, TC, TBin, TTst, TChain, TAnd, TOr, TNot, TAndV, TOrV, TNotV, TIfE, TNil, TCons, TTup, TLst, TCB, TBM, TBM0, TPart, TNoPart, TSl, TNeg, GName, GNil, GCons, GTup, IList, ITup, IRng1, IRng2, IStr, TLstF, TCall, TYes, TNext, TPur, GPur, TRetP, unown_nil, unown_cons, un1, wipeD, List.getElem?_cons_zero, List.getElem?_cons_succ, List.set_cons_zero, List.set_cons_succ, List.set_nil, isD, beq_self_eq_true, isNO, isNon, eq_ii]
    by_cases c0 : f = 0
    · simp only [c0, decide_true, powO, i2, addO]
      exact ⟨⟨by decide, by decide, by decide⟩, ⟨by decide, by decide, by decide⟩, ⟨by decide, by decide, by decide⟩, big _ fun z z0 z1 => q _ (by omega) (by omega)⟩
    · simp only [c0, decide_false]
      by_cases c1 : f = 1
      · simp only [c1, decide_true]
        refine ⟨p, x, rfl, hp, by omega, fun z z0 z1 => ?_⟩
        simp only [addO, powO, i2, minO]
        rw [e40]
        exact ⟨⟨by decide, by decide, by decide⟩, q _ (by omega) (by omega)⟩
      · simp only [c1, decide_false, subO, i20]
        refine ⟨by decide, ?_⟩
        have : f = 2 ∨ f = 3 ∨ f = 4 := by omega
        have three : ∃ d : Int, atI [D.int 0, .int 1, .int (-1)] (f - 2) = some (.int d) ∧ -1 ≤ d ∧ d ≤ 1 := by
          rcases this with rfl | rfl | rfl <;> exact ⟨_, rfl, by decide, by decide⟩
        obtain ⟨d, e, d0, d1⟩ := three
        simp only [e, addO, maxO, powO, i2, minO]
        rw [e40]
        exact ⟨⟨by decide, by decide, by decide⟩, q _ (by omega) (by omega)⟩
def sp_law_is_fewest : SpD := fun ds M Q => ∃ (ws : List Str) (sw tr : D), ds = [lstS ws, sw, tr] ∧ GoodU ws ∧ ws.length ≤ 4 ∧ kok sw = true ∧ kok tr = true ∧ Q (.bl (isFew ws sw tr)) M
def T__law_is_fewest : TSd := TSeq (TFor (IList (TLst (TCons (TVar 1) (TCons (TVar 2) (TNil))))) (GName 3) (TIf (TOr (TNot (TTst (TCB isiO (TCons (TVar 3) (TCons (TC (.ty "int")) (TNil)))))) (TTst (TCB isiO (TCons (TVar 3) (TCons (TC (.ty "bool")) (TNil)))))) (TRet (TC (.bl false))) (TNext)))
  (TSeq (TIf (TOr (TTst (TBin ltO (TVar 1) (TC (.int 1)))) (TOr (TTst (TBin gtO (TVar 1) (TBin powO (TC (.int 10)) (TC (.int 40))))) (TOr (TTst (TBin ltO (TVar 2) (TC (.int 0)))) (TTst (TBin gtO (TVar 2) (TC (.int 200))))))) (TRet (TC (.bl false))) (TNext))
  (TSeq (TSet 4 (TCall sp_law_most (TCons (TVar 0) (TCons (TVar 2) (TNil)))))
  (TSeq (TIf (TAnd (TTst (TBin notNO (TVar 4) (TC .non))) (TTst (TBin ltO (TVar 4) (TVar 1)))) (TRet (TC (.bl false))) (TNext))
  (TSeq (TSet 5 (TIfE (TTst (TBin gtO (TVar 2) (TC (.int 0)))) (TCall sp_law_most (TCons (TVar 0) (TCons (TBin subO (TVar 2) (TC (.int 1))) (TNil)))) (TC (.int 0))))
  (TRet (TAndV (TBin notNO (TVar 5) (TC .non)) (TBin ltO (TVar 5) (TVar 1))))))))
theorem len__law_is_fewest : ∀ ds M Q, sp_law_is_fewest ds M Q → ds.length = 3 := fun _ _ _ ⟨_, _, _, e, _⟩ => by rw [e]; rfl
theorem body__law_is_fewest : ∀ (ds : List D) (M : Mem) (Q : D → Mem → Prop), sp_law_is_fewest ds M Q → T__law_is_fewest ⟨fun _ M' => Q .non M', Q, fun _ _ => False, fun _ _ => False⟩ (startD ["_law_ways_here", "_law_many", "_law_deep", "_law_value", "_law_most_here", "_law_less"] ds) M := by
  rintro _ M Q ⟨ws, sw, tr, rfl, gu, hw, ks, kt, q⟩
  show T__law_is_fewest _ [.val (lstS ws), .val sw, .val tr, .no, .no, .no] M
  simp only [T__law_is_fewest, TSeq, IZip, TRet, TRetN, DL.TSet, TDrop, TIf, TPar, TAsg, TFor, TFrz, frz, TSetOwn, TApp, TExt, TVar, TC, TBin, TTst, TChain, TAnd, TOr, TNot, TAndV, TOrV, TNotV, TIfE, TNil, TCons, TTup, TLst, TCB, TBM, TBM0, TPart, TNoPart, TSl, TNeg, GName, GNil, GCons, GTup, IList, ITup, IRng1, IRng2, IStr, TLstF, TCall, TYes, TNext, TPur, GPur, TRetP, unown_nil, unown_cons, un1, wipeD, List.getElem?_cons_zero, List.getElem?_cons_succ, List.set_cons_zero, List.set_cons_succ, List.set_nil, isD, beq_self_eq_true, List.length_cons, List.length_nil]
  refine ⟨by decide, ?_⟩
  simp only [forD, TSeq, IZip, TRet, TRetN, DL.TSet, TDrop, TIf, TPar, TAsg, TFor, TFrz, frz, TSetOwn, TApp, TExt, TVar, TC, TBin, TTst, TChain, TAnd, TOr, TNot, TAndV, TOrV, TNotV, TIfE, TNil, TCons, TTup, TLst, TCB, TBM, TBM0, TPart, TNoPart, TSl, TNeg, GName, GNil, GCons, GTup, IList, ITup, IRng1, IRng2, IStr, TLstF, TCall, TYes, TNext, TPur, GPur, TRetP, unown_nil, unown_cons, un1, wipeD, List.getElem?_cons_zero, List.getElem?_cons_succ, List.set_cons_zero, List.set_cons_succ, List.set_nil, isD, beq_self_eq_true, isiO_int ks, isiO_bool ks]
  cases hs : isInt sw with
  | false =>
    rw [isFew_s hs] at q
    cases sw <;> first | (cases hs; done) | exact q
  | true =>
    cases sw with
    | int m =>
      simp only [isBl, Bool.or_false, Bool.not_true, TSeq, IZip, TRet, TRetN, DL.TSet, TDrop, TIf, TPar, TAsg, TFor, TFrz, frz, TSetOwn, TApp, TExt, TVar, TC, TBin, TTst, TChain, TAnd, TOr, TNot, TAndV, TOrV, TNotV, TIfE, TNil, TCons, TTup, TLst, TCB, TBM, TBM0, TPart, TNoPart, TSl, TNeg, GName, GNil, GCons, GTup, IList, ITup, IRng1, IRng2, IStr, TLstF, TCall, TYes, TNext, TPur, GPur, TRetP, unown_nil, unown_cons, un1, wipeD, List.getElem?_cons_zero, List.getElem?_cons_succ, List.set_cons_zero, List.set_cons_succ, List.set_nil, isD, beq_self_eq_true, isiO_int kt, isiO_bool kt]
      cases ht : isInt tr with
      | false =>
        rw [isFew_t ht] at q
        cases tr <;> first | (cases ht; done) | exact q
      | true =>
        cases tr with
        | int t =>
          simp only [isBl, Bool.or_false, Bool.not_true, TSeq, IZip, TRet, TRetN, DL.TSet, TDrop, TIf, TPar, TAsg, TFor, TFrz, frz, TSetOwn, TApp, TExt, TVar, TC, TBin, TTst, TChain, TAnd, TOr, TNot, TAndV, TOrV, TNotV, TIfE, TNil, TCons, TTup, TLst, TCB, TBM, TBM0, TPart, TNoPart, TSl, TNeg, GName, GNil, GCons, GTup, IList, ITup, IRng1, IRng2, IStr, TLstF, TCall, TYes, TNext, TPur, GPur, TRetP, unown_nil, unown_cons, un1, wipeD, List.getElem?_cons_zero, List.getElem?_cons_succ, List.set_cons_zero, List.set_cons_succ, List.set_nil, isD, beq_self_eq_true, ltO, gtO, i20, powO, i2]
          have q' : Q (.bl (decide (1 ≤ m ∧ m ≤ 10 ^ 40 ∧ 0 ≤ t ∧ t ≤ 200) && (lets (unl ws) (alk ws) m t && (decide (t = 0) || !lets (unl ws) (alk ws) m (t - 1))))) M := q
          have e40 : (10 : Int) ^ (40 : Int).toNat = 10 ^ 40 := rfl
          rw [e40]
          have bad : ¬ (1 ≤ m ∧ m ≤ 10 ^ 40 ∧ 0 ≤ t ∧ t ≤ 200) → Q (.bl false) M := fun h => by
            rw [decide_eq_false h, Bool.false_and] at q'
            exact q'
          by_cases c1 : m < 1
          · simp only [c1, decide_true]
            exact bad fun h => by omega
          simp only [c1, decide_false]
          refine ⟨⟨by decide, by decide, by decide⟩, ?_⟩
          by_cases c2 : (10 : Int) ^ 40 < m
          · rw [decide_eq_true c2]
            exact bad fun h => by omega
          rw [decide_eq_false c2]
          simp only
          by_cases c3 : t < 0
          · simp only [c3, decide_true]
            exact bad fun h => by omega
          simp only [c3, decide_false]
          by_cases c4 : 200 < t
          · simp only [c4, decide_true]
            exact bad fun h => by omega
          simp only [c4, decide_false, TSeq, IZip, TRet, TRetN, DL.TSet, TDrop, TIf, TPar, TAsg, TFor, TFrz, frz, TSetOwn, TApp, TExt, TVar, TC, TBin, TTst, TChain, TAnd, TOr, TNot, TAndV, TOrV, TNotV, TIfE, TNil, TCons, TTup, TLst, TCB, TBM, TBM0, TPart, TNoPart, TSl, TNeg, GName, GNil, GCons, GTup, IList, ITup, IRng1, IRng2, IStr, TLstF, TCall, TYes, TNext, TPur, GPur, TRetP, unown_nil, unown_cons, un1, wipeD, List.getElem?_cons_zero, List.getElem?_cons_succ, List.set_cons_zero, List.set_cons_succ, List.set_nil, isD, beq_self_eq_true]
          rw [decide_eq_true (show 1 ≤ m ∧ m ≤ 10 ^ 40 ∧ 0 ≤ t ∧ t ≤ 200 by omega), Bool.true_and] at q'
          refine ⟨ws, t, rfl, gu, hw, by omega, by omega, ?_⟩
          have l1 : ∀ t, lets (unl ws) (alk ws) m t = (match mostO (unl ws) (alk ws) t with | none => true | some x => decide (m ≤ x)) := fun t => rfl
          have fin : lets (unl ws) (alk ws) m t = true → (match decide (0 < t) with | true => sp_law_most [lstS ws, .int (t - 1)] M fun d M1 => (match D.bl !match d with | D.non => true | x => false with | D.bl true => (match d, D.int m with | D.int i, D.int j => Q (D.bl (decide (i < j))) M1 | x, x_1 => False) | D.bl false => Q (D.bl false) M1 | x => False) | false => Q (.bl (decide (0 < m))) M) := fun hl => by
            rw [hl, Bool.true_and] at q'
            by_cases c5 : 0 < t
            · rw [decide_eq_true c5]
              refine ⟨ws, t - 1, rfl, gu, hw, by omega, by omega, ?_⟩
              rw [decide_eq_false (show ¬ t = 0 by omega), Bool.false_or, l1] at q'
              cases hm : mostO (unl ws) (alk ws) (t - 1) with
              | none =>
                rw [hm] at q'
                exact q'
              | some y =>
                rw [hm] at q'
                simp only [optD, Bool.not_false]
                have e : (!decide (m ≤ y)) = decide (y < m) := by
                  by_cases z : m ≤ y
                  · rw [decide_eq_true z, decide_eq_false (by omega)]; rfl
                  · rw [decide_eq_false z, decide_eq_true (by omega)]; rfl
                rw [← e]
                exact q'
            · rw [decide_eq_false c5]
              rw [decide_eq_true (show t = 0 by omega), Bool.true_or] at q'
              rw [decide_eq_true (show 0 < m by omega)]
              exact q'
          cases hm : mostO (unl ws) (alk ws) t with
          | none =>
            simp only [optD, TSeq, IZip, TRet, TRetN, DL.TSet, TDrop, TIf, TPar, TAsg, TFor, TFrz, frz, TSetOwn, TApp, TExt, TVar, TC, TBin, TTst, TChain, TAnd, TOr, TNot, TAndV, TOrV, TNotV, TIfE, TNil, TCons, TTup, TLst, TCB, TBM, TBM0, TPart, TNoPart, TSl, TNeg, GName, GNil, GCons, GTup, IList, ITup, IRng1, IRng2, IStr, TLstF, TCall, TYes, TNext, TPur, GPur, TRetP, unown_nil, unown_cons, un1, wipeD, List.getElem?_cons_zero, List.getElem?_cons_succ, List.set_cons_zero, List.set_cons_succ, List.set_nil, isD, beq_self_eq_true, notNO, isNon, Bool.not_true, subO, gtO, i20]
            have := fin (by rw [l1, hm])
            exact this
          | some x =>
            simp only [optD, TSeq, IZip, TRet, TRetN, DL.TSet, TDrop, TIf, TPar, TAsg, TFor, TFrz, frz, TSetOwn, TApp, TExt, TVar, TC, TBin, TTst, TChain, TAnd, TOr, TNot, TAndV, TOrV, TNotV, TIfE, TNil, TCons, TTup, TLst, TCB, TBM, TBM0, TPart, TNoPart, TSl, TNeg, GName, GNil, GCons, GTup, IList, ITup, IRng1, IRng2, IStr, TLstF, TCall, TYes, TNext, TPur, GPur, TRetP, unown_nil, unown_cons, un1, wipeD, List.getElem?_cons_zero, List.getElem?_cons_succ, List.set_cons_zero, List.set_cons_succ, List.set_nil, isD, beq_self_eq_true, notNO, isNon, Bool.not_false, ltO, subO, gtO, i20]
            by_cases hx : x < m
            · simp only [hx, decide_true]
              rw [l1, hm] at q'
              have : decide (m ≤ x) = false := by simp; omega
              simp only [this, Bool.false_and] at q'
              exact q'
            · simp only [hx, decide_false]
              have := fin (by rw [l1, hm]; simp; omega)
              exact this
        | _ => cases ht
    | _ => cases hs
theorem ne_bb (i j : Bool) (k : D → Prop) : neOp (.bl i) (.bl j) k = k (.bl (!(i == j))) := by
  have : eqvD (.bl i) (.bl j) = (i == j) := rfl
  unfold neOp
  rw [this]
  simp [isPy, dep]
def sp_law_right : SpD := fun ds M Q => ∃ p, ds = [.ref p] ∧ M p = some .purse ∧ Q (.bl true) M
def T__law_right : TSd := TSeq (TSet 1 (TCall sp_law_ways (TCons (TCall sp_law_take (TCons (TVar 0) (TCons (TC (.int 16)) (TNil)))) (TNil))))
  (TSeq (TPar 9 10 (TCons (TCall sp_law_line (TCons (TVar 1) (TNil))) (TCons (TCall sp_law_some_many (TCons (TVar 0) (TCons (TVar 1) (TNil)))) (TNil))))
  (TSeq (TSet 2 (TCall sp_law_fewest (TCons (TVar 1) (TCons (TVar 10) (TNil)))))
  (TSeq (TSet 3 (TBin addO (TLc (IRng2 (TCons (TNeg (TC (.int 3))) (TCons (TC (.int 4)) (TNil)))) (GName 13) (TYes) (TBin addO (TVar 2) (TVar 13)) [13]) (TLst (TCons (TC (.int 0)) (TCons (TCall sp_law_take (TCons (TVar 0) (TCons (TC (.int 200)) (TNil)))) (TCons (TBin powO (TC (.int 10)) (TC (.int 30))) (TNil)))))))
  (TSeq (TFor (IList (TBin addO (TVar 3) (TLst (TCons (TC .non) (TCons (TC (.bl true)) (TCons (TC (.bl false)) (TCons (TCB strWO (TCons (TVar 2) (TNil))) (TCons (TTup (TCons (TVar 2) (TNil))) (TCons (TLst (TCons (TVar 2) (TNil))) (TNil)))))))))) (GName 4) (TIf (TNot (TTst (TCall sp_law_judged (TCons (TTup (TCons (TC (.str "fewest")) (TCons (TVar 9) (TCons (TVar 10) (TCons (TVar 4) (TNil)))))) (TCons (TC .non) (TCons (TCall sp_law_is_fewest (TCons (TVar 1) (TCons (TVar 10) (TCons (TVar 4) (TNil))))) (TNil))))))) (TRet (TC (.bl false))) (TNext)))
  (TSeq (TFor (IList (TLst (TCons (TC (.int 0)) (TCons (TC (.bl false)) (TCons (TC (.bl true)) (TCons (TTup (TNil)) (TCons (TC (.str "")) (TCons (TVar 2) (TCons (TVar 10) (TCons (TC (.str "None")) (TCons (TLst (TNil)) (TCons (TTup (TCons (TC .non) (TNil))) (TNil))))))))))))) (GName 5) (TIf (TNot (TTst (TCall sp_law_judged (TCons (TTup (TCons (TC (.str "fewest")) (TCons (TVar 9) (TCons (TVar 10) (TCons (TVar 2) (TNil)))))) (TCons (TVar 5) (TCons (TC (.bl false)) (TNil))))))) (TRet (TC (.bl false))) (TNext)))
  (TSeq (TFor (IList (TLst (TCons (TC (.int 0)) (TCons (TNeg (TVar 10)) (TCons (TBin addO (TVar 10) (TC (.int 1))) (TCons (TBin powO (TC (.int 10)) (TC (.int 40))) (TCons (TBin addO (TBin powO (TC (.int 10)) (TC (.int 40))) (TC (.int 1))) (TCons (TBin powO (TC (.int 10)) (TC (.int 60))) (TCons (TC (.bl true)) (TCons (TC .non) (TCons (TCB strWO (TCons (TVar 10) (TNil))) (TCons (TTup (TCons (TVar 10) (TNil))) (TCons (TLst (TCons (TVar 10) (TNil))) (TCons (TDic0) (TNil))))))))))))))) (GName 6) (TIf (TNot (TTst (TCall sp_law_judged (TCons (TTup (TCons (TC (.str "fewest")) (TCons (TVar 9) (TCons (TVar 6) (TCons (TVar 2) (TNil)))))) (TCons (TC .non) (TCons (TCall sp_law_is_fewest (TCons (TVar 1) (TCons (TVar 6) (TCons (TVar 2) (TNil))))) (TNil))))))) (TRet (TC (.bl false))) (TNext)))
  (TSeq (TSet 7 (TBin addO (TC (.int 1)) (TCall sp_law_take (TCons (TVar 0) (TCons (TC (.int 70)) (TNil))))))
  (TSeq (TFor (IRng1 (TCons (TC (.int 16)) (TNil))) (GName 8) (TSeq (TSet 11 (TCall sp_law_ways (TCons (TVar 8) (TNil))))
  (TSeq (TSet 4 (TCall sp_law_fewest (TCons (TVar 11) (TCons (TVar 7) (TNil)))))
  (TFor (IList (TLst (TCons (TVar 4) (TCons (TBin addO (TVar 4) (TC (.int 1))) (TCons (TBin subO (TVar 4) (TC (.int 1))) (TNil)))))) (GName 5) (TSeq (TSet 12 (TCall sp_law_is_fewest (TCons (TVar 11) (TCons (TVar 7) (TCons (TVar 5) (TNil))))))
  (TIf (TOr (TTst (TBin neOp (TVar 12) (TBin eqOp (TVar 5) (TVar 4)))) (TNot (TTst (TCall sp_law_judged (TCons (TTup (TCons (TC (.str "fewest")) (TCons (TCall sp_law_line (TCons (TVar 11) (TNil))) (TCons (TVar 7) (TCons (TVar 5) (TNil)))))) (TCons (TC .non) (TCons (TVar 12) (TNil)))))))) (TRet (TC (.bl false))) (TNext)))))))
  (TRet (TC (.bl true)))))))))))
theorem len__law_right : ∀ ds M Q, sp_law_right ds M Q → ds.length = 1 := fun _ _ _ ⟨_, e, _⟩ => by rw [e]; rfl
theorem headF {ws : List Str} (gw : GoodW ws) (sw tr : D) : HeadF ws sw tr (.tup [.str "fewest", .str (lineZ ws), sw, tr]) := ⟨_, rfl, by have := gw.len; omega, gw.read⟩
theorem body__law_right : ∀ (ds : List D) (M : Mem) (Q : D → Mem → Prop), sp_law_right ds M Q → T__law_right ⟨fun _ M' => Q .non M', Q, fun _ _ => False, fun _ _ => False⟩ (startD ["_law_purse_here", "_law_ways_here", "_law_least", "_law_deeps", "_law_deep", "_law_value", "_law_other", "_law_small", "_law_number", "_law_line_here", "_law_many", "_law_others", "_law_due", "_law_step"] ds) M := by
  rintro _ M Q ⟨p, rfl, hp, q⟩
  show T__law_right _ [.val (.ref p), .no, .no, .no, .no, .no, .no, .no, .no, .no, .no, .no, .no, .no] M
  unfold T__law_right
  refine cut4 (fun ρ M' => M' = M ∧ ∃ (ws : List Str) (m T : Int) (L : List D) (a13 : Sl), GoodW ws ∧ GoodU ws ∧ 1 ≤ m ∧ m ≤ 10 ^ 40 ∧ isLets (unl ws) (alk ws) m T ∧ L.length ≤ 100 ∧ (∀ d ∈ L, kok d = true) ∧ ρ = [.val (.ref p), .val (lstS ws), .val (.int T), .val (.lst L), .no, .no, .no, .no, .no, .val (.str (lineZ ws)), .val (.int m), .no, .no, a13]) (fun nx knx => ?_) ?_
  · simp only [TSeq, IZip, TRet, TRetN, DL.TSet, TDrop, TIf, TPar, TAsg, TFor, TFrz, frz, TSetOwn, TApp, TExt, TVar, TC, TBin, TTst, TChain, TAnd, TOr, TNot, TAndV, TOrV, TNotV, TIfE, TNil, TCons, TTup, TLst, TCB, TBM, TBM0, TPart, TNoPart, TSl, TNeg, GName, GNil, GCons, GTup, IList, ITup, IRng1, IRng2, IStr, TLstF, TCall, TYes, TNext, TPur, GPur, TRetP, unown_nil, unown_cons, un1, wipeD, List.getElem?_cons_zero, List.getElem?_cons_succ, List.set_cons_zero, List.set_cons_succ, List.set_nil, isD, beq_self_eq_true, List.length_cons, List.length_nil]
    refine ⟨p, 16, rfl, hp, by decide, by decide, fun wn w0 w1 => ⟨wn, rfl, w0, w1, ?_⟩⟩
    have gw := goodW w0 w1
    have gu := goodU w0 w1
    generalize waysOf wn = ws at gw gu
    simp only [TSeq, IZip, TRet, TRetN, DL.TSet, TDrop, TIf, TPar, TAsg, TFor, TFrz, frz, TSetOwn, TApp, TExt, TVar, TC, TBin, TTst, TChain, TAnd, TOr, TNot, TAndV, TOrV, TNotV, TIfE, TNil, TCons, TTup, TLst, TCB, TBM, TBM0, TPart, TNoPart, TSl, TNeg, GName, GNil, GCons, GTup, IList, ITup, IRng1, IRng2, IStr, TLstF, TCall, TYes, TNext, TPur, GPur, TRetP, unown_nil, unown_cons, un1, wipeD, List.getElem?_cons_zero, List.getElem?_cons_succ, List.set_cons_zero, List.set_cons_succ, List.set_nil, isD, beq_self_eq_true]
    refine ⟨ws, rfl, by have := gw.sum; omega, p, ws, rfl, hp, gu, gw.few, fun m m0 m1 => ?_⟩
    obtain ⟨T, hT⟩ := lets_ex (m := m) gu.u0 gu.u1 gu.a0 gu.a1 m1
    refine ⟨ws, m, T, rfl, gu, gw.few, hT, ?_⟩
    simp only [TSeq, IZip, TRet, TRetN, DL.TSet, TDrop, TIf, TPar, TAsg, TFor, TFrz, frz, TSetOwn, TApp, TExt, TVar, TC, TBin, TTst, TChain, TAnd, TOr, TNot, TAndV, TOrV, TNotV, TIfE, TNil, TCons, TTup, TLst, TCB, TBM, TBM0, TPart, TNoPart, TSl, TNeg, GName, GNil, GCons, GTup, IList, ITup, IRng1, IRng2, IStr, TLstF, TCall, TYes, TNext, TPur, GPur, TRetP, unown_nil, unown_cons, un1, wipeD, List.getElem?_cons_zero, List.getElem?_cons_succ, List.set_cons_zero, List.set_cons_succ, List.set_nil, isD, beq_self_eq_true, TLc, TLcF]
    refine ⟨⟨by decide, by decide, by decide, by decide⟩, by decide, ?_⟩
    have e7 : rangeD (-3) 4 = ([-3, -2, -1, 0, 1, 2, 3] : List Int).map D.int := rfl
    rw [e7]
    refine lcD_m D.int (fun z => .int (T + z)) _ _ (fun z hz K1 h1 => ?_) ?_
    · simp only [TSeq, IZip, TRet, TRetN, DL.TSet, TDrop, TIf, TPar, TAsg, TFor, TFrz, frz, TSetOwn, TApp, TExt, TVar, TC, TBin, TTst, TChain, TAnd, TOr, TNot, TAndV, TOrV, TNotV, TIfE, TNil, TCons, TTup, TLst, TCB, TBM, TBM0, TPart, TNoPart, TSl, TNeg, GName, GNil, GCons, GTup, IList, ITup, IRng1, IRng2, IStr, TLstF, TCall, TYes, TNext, TPur, GPur, TRetP, unown_nil, unown_cons, un1, wipeD, List.getElem?_cons_zero, List.getElem?_cons_succ, List.set_cons_zero, List.set_cons_succ, List.set_nil, isD, beq_self_eq_true, addO]
      exact h1
    · refine ⟨p, 200, rfl, hp, by decide, by decide, fun x x0 x1 => ?_⟩
      simp only [powO, i2, addO, List.length_append, List.length_cons, List.length_nil, List.length_map]
      refine ⟨⟨by decide, by decide, by decide⟩, by decide, by decide, ?_⟩
      refine knx _ _ ⟨rfl, ws, m, T, _, _, gw, gu, m0, m1, hT, ?_, ?_, rfl⟩
      · simp only [List.length_append, List.length_cons, List.length_nil, List.length_map]; decide
      · intro d hd
        rcases List.mem_append.mp hd with hd | hd
        · obtain ⟨z, _, rfl⟩ := List.mem_map.mp hd
          rfl
        · simp only [List.mem_cons, List.not_mem_nil, or_false] at hd
          rcases hd with rfl | rfl | rfl <;> rfl
  · rintro ρ M' ⟨hM, ws, m, T, L, a13, gw, gu, m0, m1, hT, hL, hLk, hρ⟩
    subst hM hρ
    have few := gw.few
    refine cut3 (fun ρ M9 => M9 = M' ∧ ∃ b4 b5 b6, ρ = [.val (.ref p), .val (lstS ws), .val (.int T), .val (.lst L), b4, b5, b6, .no, .no, .val (.str (lineZ ws)), .val (.int m), .no, .no, a13]) (fun nx knx => ?_) ?_
    · refine cut1 (fun ρ M9 => M9 = M' ∧ ∃ b4, ρ = [.val (.ref p), .val (lstS ws), .val (.int T), .val (.lst L), b4, .no, .no, .no, .no, .val (.str (lineZ ws)), .val (.int m), .no, .no, a13]) (fun nx knx => ?_) ?_
      · simp only [TSeq, IZip, TRet, TRetN, DL.TSet, TDrop, TIf, TPar, TAsg, TFor, TFrz, frz, TSetOwn, TApp, TExt, TVar, TC, TBin, TTst, TChain, TAnd, TOr, TNot, TAndV, TOrV, TNotV, TIfE, TNil, TCons, TTup, TLst, TCB, TBM, TBM0, TPart, TNoPart, TSl, TNeg, GName, GNil, GCons, GTup, IList, ITup, IRng1, IRng2, IStr, TLstF, TCall, TYes, TNext, TPur, GPur, TRetP, unown_nil, unown_cons, un1, wipeD, List.getElem?_cons_zero, List.getElem?_cons_succ, List.set_cons_zero, List.set_cons_succ, List.set_nil, isD, beq_self_eq_true, strWO, addO, List.length_cons, List.length_nil, List.length_append]
        have hT1 := hT.1
        have hT2 := hT.2.1
        refine ⟨⟨hT1, Nat.lt_of_lt_of_le (show T.toNat < 10 ^ 3 by omega) (Nat.pow_le_pow_right (by decide) (by decide))⟩, by decide, by decide, by decide, by omega, ?_⟩
        have hk : ∀ d ∈ L ++ [D.non, D.bl true, D.bl false, D.str (numS T.toNat), D.tup [D.int T], D.lst [D.int T]], kok d = true := fun d hd => by
          rcases List.mem_append.mp hd with hd | hd
          · exact hLk d hd
          · simp only [List.mem_cons, List.not_mem_nil, or_false] at hd
            rcases hd with rfl | rfl | rfl | rfl | rfl | rfl <;> rfl
        generalize L ++ [D.non, D.bl true, D.bl false, D.str (numS T.toNat), D.tup [D.int T], D.lst [D.int T]] = L2 at hk
        rw [← List.map_id' L2]
        refine forD_sm (fun d : D => d) _ (fun ρ => ∃ b4, ρ = [.val (.ref p), .val (lstS ws), .val (.int T), .val (.lst L), b4, .no, .no, .no, .no, .val (.str (lineZ ws)), .val (.int m), .no, .no, a13]) _ M' (fun d hd ρ Kn ⟨b4, hρ⟩ k => ?step) ⟨_, rfl⟩ (fun ρ ⟨b4, hρ⟩ => ?fin)
        case fin => exact knx _ _ ⟨rfl, b4, hρ⟩
        case step =>
          subst hρ
          simp only [TSeq, IZip, TRet, TRetN, DL.TSet, TDrop, TIf, TPar, TAsg, TFor, TFrz, frz, TSetOwn, TApp, TExt, TVar, TC, TBin, TTst, TChain, TAnd, TOr, TNot, TAndV, TOrV, TNotV, TIfE, TNil, TCons, TTup, TLst, TCB, TBM, TBM0, TPart, TNoPart, TSl, TNeg, GName, GNil, GCons, GTup, IList, ITup, IRng1, IRng2, IStr, TLstF, TCall, TYes, TNext, TPur, GPur, TRetP, unown_nil, unown_cons, un1, wipeD, List.getElem?_cons_zero, List.getElem?_cons_succ, List.set_cons_zero, List.set_cons_succ, List.set_nil, isD, beq_self_eq_true, List.length_cons, List.length_nil]
          refine ⟨by decide, ws, .int m, d, rfl, gu, few, rfl, hk d hd, ?_⟩
          refine ⟨_, ws, .int m, d, .non, _, rfl, headF gw _ _, gu, rfl, hk d hd, rfl, rfl, ?_⟩
          exact k _ ⟨_, rfl⟩
      · rintro ρ M2 ⟨hM, b4, hρ⟩
        subst hM hρ
        refine cut1 (fun ρ M9 => M9 = M2 ∧ ∃ b5, ρ = [.val (.ref p), .val (lstS ws), .val (.int T), .val (.lst L), b4, b5, .no, .no, .no, .val (.str (lineZ ws)), .val (.int m), .no, .no, a13]) (fun nx2 knx2 => ?_) ?_
        · simp only [TSeq, IZip, TRet, TRetN, DL.TSet, TDrop, TIf, TPar, TAsg, TFor, TFrz, frz, TSetOwn, TApp, TExt, TVar, TC, TBin, TTst, TChain, TAnd, TOr, TNot, TAndV, TOrV, TNotV, TIfE, TNil, TCons, TTup, TLst, TCB, TBM, TBM0, TPart, TNoPart, TSl, TNeg, GName, GNil, GCons, GTup, IList, ITup, IRng1, IRng2, IStr, TLstF, TCall, TYes, TNext, TPur, GPur, TRetP, unown_nil, unown_cons, un1, wipeD, List.getElem?_cons_zero, List.getElem?_cons_succ, List.set_cons_zero, List.set_cons_succ, List.set_nil, isD, beq_self_eq_true, List.length_cons, List.length_nil]
          refine ⟨by decide, by decide, by decide, by decide, ?_⟩
          rw [← List.map_id' [D.int 0, D.bl false, D.bl true, D.tup [], D.str (Str.ofString ""), D.int T, D.int m, D.str (Str.ofString "None"), D.lst [], D.tup [D.non]]]
          refine forD_sm (fun d : D => d) _ (fun ρ => ∃ b5, ρ = [.val (.ref p), .val (lstS ws), .val (.int T), .val (.lst L), b4, b5, .no, .no, .no, .val (.str (lineZ ws)), .val (.int m), .no, .no, a13]) _ M2 (fun d hd ρ Kn ⟨b5, hρ⟩ k => ?step) ⟨_, rfl⟩ (fun ρ ⟨b5, hρ⟩ => ?fin)
          case fin => exact knx2 _ _ ⟨rfl, b5, hρ⟩
          case step =>
            subst hρ
            have hd2 : kok d = true ∧ isNon d = false := by
              simp only [List.mem_cons, List.not_mem_nil, or_false] at hd
              rcases hd with rfl | rfl | rfl | rfl | rfl | rfl | rfl | rfl | rfl | rfl <;> exact ⟨rfl, rfl⟩
            simp only [TSeq, IZip, TRet, TRetN, DL.TSet, TDrop, TIf, TPar, TAsg, TFor, TFrz, frz, TSetOwn, TApp, TExt, TVar, TC, TBin, TTst, TChain, TAnd, TOr, TNot, TAndV, TOrV, TNotV, TIfE, TNil, TCons, TTup, TLst, TCB, TBM, TBM0, TPart, TNoPart, TSl, TNeg, GName, GNil, GCons, GTup, IList, ITup, IRng1, IRng2, IStr, TLstF, TCall, TYes, TNext, TPur, GPur, TRetP, unown_nil, unown_cons, un1, wipeD, List.getElem?_cons_zero, List.getElem?_cons_succ, List.set_cons_zero, List.set_cons_succ, List.set_nil, isD, beq_self_eq_true, List.length_cons, List.length_nil]
            refine ⟨by decide, ?_⟩
            refine ⟨_, ws, .int m, .int T, d, _, rfl, headF gw _ _, gu, rfl, rfl, hd2.1, by rw [hd2.2]; rfl, ?_⟩
            exact k _ ⟨_, rfl⟩
        · rintro ρ M3 ⟨hM, b5, hρ⟩
          subst hM hρ
          simp only [TSeq, IZip, TRet, TRetN, DL.TSet, TDrop, TIf, TPar, TAsg, TFor, TFrz, frz, TSetOwn, TApp, TExt, TVar, TC, TBin, TTst, TChain, TAnd, TOr, TNot, TAndV, TOrV, TNotV, TIfE, TNil, TCons, TTup, TLst, TCB, TBM, TBM0, TPart, TNoPart, TSl, TNeg, GName, GNil, GCons, GTup, IList, ITup, IRng1, IRng2, IStr, TLstF, TCall, TYes, TNext, TPur, GPur, TRetP, unown_nil, unown_cons, un1, wipeD, List.getElem?_cons_zero, List.getElem?_cons_succ, List.set_cons_zero, List.set_cons_succ, List.set_nil, isD, beq_self_eq_true, subO, addO, i20, powO, i2, strWO, List.length_cons, List.length_nil]
          have cp : ∀ j : Int, 0 ≤ j → j ≤ 1000000 → CPow 10 j := fun j h0 h1 => ⟨h0, h1, by decide⟩
          refine ⟨cp 40 (by decide) (by decide), cp 40 (by decide) (by decide), cp 60 (by decide) (by decide), ⟨by omega, Nat.lt_of_lt_of_le (show m.toNat < 10 ^ 41 by omega) (Nat.pow_le_pow_right (by decide) (by decide))⟩, by decide, by decide, ?_⟩
          simp only [TDic0]
          refine ⟨by decide, ?_⟩
          rw [← List.map_id' [D.int 0, D.int (-m), D.int (m + 1), D.int ((10 : Int) ^ (40 : Int).toNat), D.int ((10 : Int) ^ (40 : Int).toNat + 1), D.int ((10 : Int) ^ (60 : Int).toNat), D.bl true, D.non, D.str (numS m.toNat), D.tup [D.int m], D.lst [D.int m], D.dct []]]
          refine forD_sm (fun d : D => d) _ (fun ρ => ∃ b6, ρ = [.val (.ref p), .val (lstS ws), .val (.int T), .val (.lst L), b4, b5, b6, .no, .no, .val (.str (lineZ ws)), .val (.int m), .no, .no, a13]) _ M3 (fun d hd ρ Kn ⟨b6, hρ⟩ k => ?step) ⟨_, rfl⟩ (fun ρ ⟨b6, hρ⟩ => ?fin)
          case fin => exact knx _ _ ⟨rfl, _, _, b6, hρ⟩
          case step =>
            subst hρ
            have hd2 : kok d = true := by
              simp only [List.mem_cons, List.not_mem_nil, or_false] at hd
              rcases hd with rfl | rfl | rfl | rfl | rfl | rfl | rfl | rfl | rfl | rfl | rfl | rfl <;> rfl
            simp only [TSeq, IZip, TRet, TRetN, DL.TSet, TDrop, TIf, TPar, TAsg, TFor, TFrz, frz, TSetOwn, TApp, TExt, TVar, TC, TBin, TTst, TChain, TAnd, TOr, TNot, TAndV, TOrV, TNotV, TIfE, TNil, TCons, TTup, TLst, TCB, TBM, TBM0, TPart, TNoPart, TSl, TNeg, GName, GNil, GCons, GTup, IList, ITup, IRng1, IRng2, IStr, TLstF, TCall, TYes, TNext, TPur, GPur, TRetP, unown_nil, unown_cons, un1, wipeD, List.getElem?_cons_zero, List.getElem?_cons_succ, List.set_cons_zero, List.set_cons_succ, List.set_nil, isD, beq_self_eq_true, List.length_cons, List.length_nil]
            refine ⟨by decide, ws, d, .int T, rfl, gu, few, hd2, rfl, ?_⟩
            refine ⟨_, ws, d, .int T, .non, _, rfl, headF gw _ _, gu, hd2, rfl, rfl, rfl, ?_⟩
            exact k _ ⟨_, rfl⟩
    · rintro ρ M2 ⟨hM, b4, b5, b6, hρ⟩
      subst hM hρ
      simp only [TSeq, IZip, TRet, TRetN, DL.TSet, TDrop, TIf, TPar, TAsg, TFor, TFrz, frz, TSetOwn, TApp, TExt, TVar, TC, TBin, TTst, TChain, TAnd, TOr, TNot, TAndV, TOrV, TNotV, TIfE, TNil, TCons, TTup, TLst, TCB, TBM, TBM0, TPart, TNoPart, TSl, TNeg, GName, GNil, GCons, GTup, IList, ITup, IRng1, IRng2, IStr, TLstF, TCall, TYes, TNext, TPur, GPur, TRetP, unown_nil, unown_cons, un1, wipeD, List.getElem?_cons_zero, List.getElem?_cons_succ, List.set_cons_zero, List.set_cons_succ, List.set_nil, isD, beq_self_eq_true, addO]
      refine ⟨p, 70, rfl, hp, by decide, by decide, fun sm s0 s1 => ⟨⟨by decide, by decide⟩, ?_⟩⟩
      rw [rangeD_map]
      refine forD_sm D.int _ (fun ρ => ∃ b4 b5 b8 b11 b12, ρ = [.val (.ref p), .val (lstS ws), .val (.int T), .val (.lst L), b4, b5, b6, .val (.int (1 + sm)), b8, .val (.str (lineZ ws)), .val (.int m), b11, b12, a13]) _ M2 (fun z hz ρ Kn ⟨b4, b5, b8, b11, b12, hρ⟩ k => ?step) ⟨_, _, _, _, _, rfl⟩ (fun ρ ⟨b4, b5, b8, b11, b12, hρ⟩ => ?fin)
      case fin =>
        subst hρ
        exact q
      case step =>
        subst hρ
        obtain ⟨y, hy, rfl⟩ := List.mem_map.mp hz
        have hy := List.mem_range.mp hy
        have z0 : (0 : Int) ≤ 0 + (y : Int) := by omega
        have z1 : (0 : Int) + (y : Int) < 16 := by omega
        have gwz := goodW z0 z1
        have guz := goodU z0 z1
        simp only [TSeq, IZip, TRet, TRetN, DL.TSet, TDrop, TIf, TPar, TAsg, TFor, TFrz, frz, TSetOwn, TApp, TExt, TVar, TC, TBin, TTst, TChain, TAnd, TOr, TNot, TAndV, TOrV, TNotV, TIfE, TNil, TCons, TTup, TLst, TCB, TBM, TBM0, TPart, TNoPart, TSl, TNeg, GName, GNil, GCons, GTup, IList, ITup, IRng1, IRng2, IStr, TLstF, TCall, TYes, TNext, TPur, GPur, TRetP, unown_nil, unown_cons, un1, wipeD, List.getElem?_cons_zero, List.getElem?_cons_succ, List.set_cons_zero, List.set_cons_succ, List.set_nil, isD, beq_self_eq_true]
        refine ⟨_, rfl, z0, z1, ?_⟩
        generalize waysOf (0 + (y : Int)) = wz at gwz guz
        have sm1 : (1 : Int) + sm ≤ 10 ^ 40 := by omega
        obtain ⟨Tz, hTz⟩ := lets_ex (m := 1 + sm) guz.u0 guz.u1 guz.a0 guz.a1 sm1
        refine ⟨wz, _, Tz, rfl, guz, gwz.few, hTz, ?_⟩
        simp only [TSeq, IZip, TRet, TRetN, DL.TSet, TDrop, TIf, TPar, TAsg, TFor, TFrz, frz, TSetOwn, TApp, TExt, TVar, TC, TBin, TTst, TChain, TAnd, TOr, TNot, TAndV, TOrV, TNotV, TIfE, TNil, TCons, TTup, TLst, TCB, TBM, TBM0, TPart, TNoPart, TSl, TNeg, GName, GNil, GCons, GTup, IList, ITup, IRng1, IRng2, IStr, TLstF, TCall, TYes, TNext, TPur, GPur, TRetP, unown_nil, unown_cons, un1, wipeD, List.getElem?_cons_zero, List.getElem?_cons_succ, List.set_cons_zero, List.set_cons_succ, List.set_nil, isD, beq_self_eq_true, addO, subO, i20, List.length_cons, List.length_nil]
        refine ⟨by decide, ?_⟩
        have e3 : [D.int Tz, D.int (Tz + 1), D.int (Tz - 1)] = ([Tz, Tz + 1, Tz - 1] : List Int).map D.int := rfl
        rw [e3]
        refine forD_sm D.int _ (fun ρ => ∃ b5 b12, ρ = [.val (.ref p), .val (lstS ws), .val (.int T), .val (.lst L), .val (.int Tz), b5, b6, .val (.int (1 + sm)), .val (.int (0 + (y : Int))), .val (.str (lineZ ws)), .val (.int m), .val (lstS wz), b12, a13]) _ M2 (fun v hv ρ Kn2 ⟨b5, b12, hρ⟩ k2 => ?step2) ⟨_, _, rfl⟩ (fun ρ ⟨b5, b12, hρ⟩ => ?fin2)
        case fin2 => exact k _ ⟨_, _, _, _, _, hρ⟩
        case step2 =>
          subst hρ
          simp only [TSeq, IZip, TRet, TRetN, DL.TSet, TDrop, TIf, TPar, TAsg, TFor, TFrz, frz, TSetOwn, TApp, TExt, TVar, TC, TBin, TTst, TChain, TAnd, TOr, TNot, TAndV, TOrV, TNotV, TIfE, TNil, TCons, TTup, TLst, TCB, TBM, TBM0, TPart, TNoPart, TSl, TNeg, GName, GNil, GCons, GTup, IList, ITup, IRng1, IRng2, IStr, TLstF, TCall, TYes, TNext, TPur, GPur, TRetP, unown_nil, unown_cons, un1, wipeD, List.getElem?_cons_zero, List.getElem?_cons_succ, List.set_cons_zero, List.set_cons_succ, List.set_nil, isD, beq_self_eq_true]
          refine ⟨wz, .int (1 + sm), .int v, rfl, guz, gwz.few, rfl, rfl, ?_⟩
          have ef : isFew wz (.int (1 + sm)) (.int v) = decide (v = Tz) := isFew_eq hTz (by omega) sm1
          simp only [TSeq, IZip, TRet, TRetN, DL.TSet, TDrop, TIf, TPar, TAsg, TFor, TFrz, frz, TSetOwn, TApp, TExt, TVar, TC, TBin, TTst, TChain, TAnd, TOr, TNot, TAndV, TOrV, TNotV, TIfE, TNil, TCons, TTup, TLst, TCB, TBM, TBM0, TPart, TNoPart, TSl, TNeg, GName, GNil, GCons, GTup, IList, ITup, IRng1, IRng2, IStr, TLstF, TCall, TYes, TNext, TPur, GPur, TRetP, unown_nil, unown_cons, un1, wipeD, List.getElem?_cons_zero, List.getElem?_cons_succ, List.set_cons_zero, List.set_cons_succ, List.set_nil, isD, beq_self_eq_true, eq_ii, ne_bb, ef, List.length_cons, List.length_nil, Bool.not_true]
          refine ⟨wz, rfl, by have := gwz.sum; omega, by decide, ?_⟩
          refine ⟨_, wz, .int (1 + sm), .int v, .non, _, rfl, headF gwz _ _, guz, rfl, rfl, rfl, by rw [ef]; rfl, ?_⟩
          exact k2 _ ⟨_, _, rfl⟩
/-- the law's own -/
def sp_law : SpD := fun ds M Q => ∃ ns : List Int, ds = [.fzl (ns.map D.int)] ∧ ns.length ≤ 63 ∧ (∀ z ∈ ns, Builtin.Int.intBits z ≤ 1048576) ∧ ∀ M', Q (.bl true) M'
def T_law : TSd := TSeq (TFor (IRng1 (TCons (TCB maxO (TCons (TC (.int 2)) (TCons (TCB minO (TCons (TCB lenO (TCons (TVar 0) (TNil))) (TCons (TC (.int 3)) (TNil)))) (TNil)))) (TNil))) (GName 1) (TIf (TNot (TTst (TCall sp_law_right (TCons (TCall sp_law_purse (TCons (TVar 0) (TCons (TVar 1) (TNil)))) (TNil))))) (TRet (TC (.bl false))) (TNext)))
  (TRet (TC (.bl true)))
theorem len_law : ∀ ds M Q, sp_law ds M Q → ds.length = 1 := fun _ _ _ ⟨_, e, _⟩ => by rw [e]; rfl
theorem body_law : ∀ (ds : List D) (M : Mem) (Q : D → Mem → Prop), sp_law ds M Q → T_law ⟨fun _ M' => Q .non M', Q, fun _ _ => False, fun _ _ => False⟩ (startD ["_law_script", "_law_k"] ds) M := by
  rintro _ M Q ⟨ns, rfl, hl, hb, q⟩
  show T_law _ [.val (.fzl (ns.map D.int)), .no] M
  simp only [T_law, TSeq, IZip, TRet, TRetN, DL.TSet, TDrop, TIf, TPar, TAsg, TFor, TFrz, frz, TSetOwn, TApp, TExt, TVar, TC, TBin, TTst, TChain, TAnd, TOr, TNot, TAndV, TOrV, TNotV, TIfE, TNil, TCons, TTup, TLst, TCB, TBM, TBM0, TPart, TNoPart, TSl, TNeg, GName, GNil, GCons, GTup, IList, ITup, IRng1, IRng2, IStr, TLstF, TCall, TYes, TNext, TPur, GPur, TRetP, unown_nil, unown_cons, un1, wipeD, List.getElem?_cons_zero, List.getElem?_cons_succ, List.set_cons_zero, List.set_cons_succ, List.set_nil, isD, beq_self_eq_true, lenO, lenD, minO, maxO]
  refine ⟨⟨by omega, by omega⟩, ?_⟩
  rw [rangeD_map]
  refine forD_inv D.int _ (fun _ ρ M' => ∃ a, ρ = [.val (.fzl (ns.map D.int)), a]) _ _ (fun z r ρ M' Kn ⟨pre, e⟩ ⟨a, hρ⟩ k => ?step) ⟨_, rfl⟩ (fun ρ M' ⟨a, hρ⟩ => ?fin)
  case fin =>
    subst hρ
    exact q _
  case step =>
    subst hρ
    have hz : z ∈ (List.range (max (2 : Int) (min (((ns.map D.int).length : Nat) : Int) 3) - 0).toNat).map fun (k : Nat) => (0 : Int) + (k : Int) := by rw [e]; simp
    obtain ⟨y, hy, rfl⟩ := List.mem_map.mp hz
    have hy := List.mem_range.mp hy
    simp only [TSeq, IZip, TRet, TRetN, DL.TSet, TDrop, TIf, TPar, TAsg, TFor, TFrz, frz, TSetOwn, TApp, TExt, TVar, TC, TBin, TTst, TChain, TAnd, TOr, TNot, TAndV, TOrV, TNotV, TIfE, TNil, TCons, TTup, TLst, TCB, TBM, TBM0, TPart, TNoPart, TSl, TNeg, GName, GNil, GCons, GTup, IList, ITup, IRng1, IRng2, IStr, TLstF, TCall, TYes, TNext, TPur, GPur, TRetP, unown_nil, unown_cons, un1, wipeD, List.getElem?_cons_zero, List.getElem?_cons_succ, List.set_cons_zero, List.set_cons_succ, List.set_nil, isD, beq_self_eq_true]
    refine ⟨ns, _, rfl, hl, hb, by omega, by omega, fun p M2 hp => ⟨p, rfl, hp, k _ _ ⟨_, rfl⟩⟩⟩
end DL

namespace DL
open PySem PySem.Spec PyProof.Rows L2 TL
abbrev Pg : Program := PySem.Challenge.pw_fourways_k53_fewest_trials_judged
def top (i : Nat) : Stmt := Pg.main.body.getD i (.Pass ⟨0, 0, 0, 0⟩)
abbrev FnP (K : PySem.W.Frag) (x : Str) (st : Stmt) (f : Addr) (fd : FuncData) : Prop := FunD K x x (defArgs st) (defBody st) (defScope st) [] [] f fd
def dd (x : Str) (i : Nat) : He.DefD := ⟨(x, none), x, x, defArgs (top i), defBody (top i), defScope (top i), [], []⟩
def fn : List He.DefD := [dd "is_integer" 7, dd "is_number" 8, dd "is_rising" 10, dd "ways_in" 11, dd "chosen" 18, dd "powered" 19, dd "split_of" 20, dd "most_for" 21, dd "fewest_for" 22, dd "shows_fewest" 25, dd "accepts" 34, dd "_law_take" 37, dd "_law_purse" 36, dd "_law_big" 38, dd "_law_ways" 39, dd "_law_line" 40, dd "_law_choose" 41, dd "_law_most" 42, dd "_law_fewest" 43, dd "_law_some_many" 44, dd "_law_judged" 45, dd "_law_is_fewest" 46, dd "_law_right" 47, dd "law" 48]
def fa : List He.Fa := [.glo "is_integer", .glo "is_number", .glo "is_rising", .glo "ways_in", .glo "chosen", .glo "powered", .glo "split_of", .glo "most_for", .glo "fewest_for", .glo "shows_fewest", .glo "accepts", .glo "_law_take", .glo "_law_purse", .glo "_law_big", .glo "_law_ways", .glo "_law_line", .glo "_law_choose", .glo "_law_most", .glo "_law_fewest", .glo "_law_some_many", .glo "_law_judged", .glo "_law_is_fewest", .glo "_law_right", .glo "law", .free "abs", .free "all", .free "bool", .free "int", .free "isinstance", .free "len", .free "max", .free "min", .free "range", .free "str", .free "tuple", .int "MOST_ASKED" 10000000000000000000000000000000000000000, .glo "WAYS", .glo "SIZES"]
def SIZESV : List (Str × Int) := [("keeps", 3), ("lacks", 3), ("fewest", 4), ("column", 5), ("room", 4), ("faults", 4), ("enough", 4)]
def ts : List He.Tab := [((fun K => He.ga K "SIZES"), SIZESV.map (·.1))]
def ex (K : PySem.W.Frag) : Bool := He.tupB K "WAYS" (WAYSZ.map He.Dv.str) && He.valsB K (He.ga K "SIZES") (SIZESV.map fun p => (p.1, .int p.2))
abbrev R : PySem.W.OpenRow := PySem.W.OpenLaw.row PySem.Challenge.rw_fourways_k53_fewest_trials_judged
abbrev hk : PySem.W.Hook := He.hookX 2 fa fn ts [] ex
def ob (s : PySem.W.SharedT) : He.AlX := He.obsX 2 fa fn ts [] ex (HandSHeadRun.getT s)
theorem ob_eq (s : PySem.W.SharedT) : ob s = hk.obs s.abs := He.obsX_eq (HandSHeadRun.getT_eq s)
def loose0 : List Str := ["MOST_SWITCHES", "MOST_TRIALS", "MOST_FREE", "WAYS", "MOST_ASKED", "SIZES", "is_integer", "is_number", "is_signs", "is_rising", "ways_in", "plan_in", "pairs_of", "missing_of"]
def loose1 : List Str := ["shows_keeps", "is_fault", "shows_lacks", "chosen", "powered", "split_of", "most_for", "fewest_for", "rank_of", "place_of", "shows_fewest", "shows_column", "share_of", "divisor_of"]
def loose2 : List Str := ["weight_of", "shows_room", "shows_faults", "can_be_shown", "shows_enough", "accepts", "_law_purse", "_law_take", "_law_big", "_law_ways", "_law_line", "_law_choose", "_law_most", "_law_fewest"]
def loose3 : List Str := ["_law_some_many", "_law_judged", "_law_is_fewest", "_law_right"]
def loose : List Str := loose0 ++ loose1 ++ loose2 ++ loose3
def RunP (w : World) : Prop := HandSHeadRun.RunEq R (PySem.W.view R.prog [48]) hk ob 1500 loose w
theorem runF (w : World) : RunP (w.withFollow "special-get-raises" false) := by
  intro os
  kernel_rfl
theorem runT (w : World) : RunP (w.withFollow "special-get-raises" true) := by
  intro os
  kernel_rfl
theorem run (w : World) : HandSHeadRun.RunEq R (PySem.W.view R.prog [48]) hk ob 1500 loose w := PySem.W.byRow2 "special-get-raises" (P := RunP) runF runT w
structure Hd (K : PySem.W.Frag) (w : World) (mg : Str → Option Value) where
  f_is_integer : Addr
  fd_is_integer : FuncData
  F_is_integer : FnP K "is_integer" (top 7) f_is_integer fd_is_integer
  g_is_integer : mg "is_integer" = some (.ref f_is_integer)
  f_is_number : Addr
  fd_is_number : FuncData
  F_is_number : FnP K "is_number" (top 8) f_is_number fd_is_number
  g_is_number : mg "is_number" = some (.ref f_is_number)
  f_is_rising : Addr
  fd_is_rising : FuncData
  F_is_rising : FnP K "is_rising" (top 10) f_is_rising fd_is_rising
  g_is_rising : mg "is_rising" = some (.ref f_is_rising)
  f_ways_in : Addr
  fd_ways_in : FuncData
  F_ways_in : FnP K "ways_in" (top 11) f_ways_in fd_ways_in
  g_ways_in : mg "ways_in" = some (.ref f_ways_in)
  f_chosen : Addr
  fd_chosen : FuncData
  F_chosen : FnP K "chosen" (top 18) f_chosen fd_chosen
  g_chosen : mg "chosen" = some (.ref f_chosen)
  f_powered : Addr
  fd_powered : FuncData
  F_powered : FnP K "powered" (top 19) f_powered fd_powered
  g_powered : mg "powered" = some (.ref f_powered)
  f_split_of : Addr
  fd_split_of : FuncData
  F_split_of : FnP K "split_of" (top 20) f_split_of fd_split_of
  g_split_of : mg "split_of" = some (.ref f_split_of)
  f_most_for : Addr
  fd_most_for : FuncData
  F_most_for : FnP K "most_for" (top 21) f_most_for fd_most_for
  g_most_for : mg "most_for" = some (.ref f_most_for)
  f_fewest_for : Addr
  fd_fewest_for : FuncData
  F_fewest_for : FnP K "fewest_for" (top 22) f_fewest_for fd_fewest_for
  g_fewest_for : mg "fewest_for" = some (.ref f_fewest_for)
  f_shows_fewest : Addr
  fd_shows_fewest : FuncData
  F_shows_fewest : FnP K "shows_fewest" (top 25) f_shows_fewest fd_shows_fewest
  g_shows_fewest : mg "shows_fewest" = some (.ref f_shows_fewest)
  f_accepts : Addr
  fd_accepts : FuncData
  F_accepts : FnP K "accepts" (top 34) f_accepts fd_accepts
  g_accepts : mg "accepts" = some (.ref f_accepts)
  f__law_take : Addr
  fd__law_take : FuncData
  F__law_take : FnP K "_law_take" (top 37) f__law_take fd__law_take
  g__law_take : mg "_law_take" = some (.ref f__law_take)
  f__law_purse : Addr
  fd__law_purse : FuncData
  F__law_purse : FnP K "_law_purse" (top 36) f__law_purse fd__law_purse
  g__law_purse : mg "_law_purse" = some (.ref f__law_purse)
  f__law_big : Addr
  fd__law_big : FuncData
  F__law_big : FnP K "_law_big" (top 38) f__law_big fd__law_big
  g__law_big : mg "_law_big" = some (.ref f__law_big)
  f__law_ways : Addr
  fd__law_ways : FuncData
  F__law_ways : FnP K "_law_ways" (top 39) f__law_ways fd__law_ways
  g__law_ways : mg "_law_ways" = some (.ref f__law_ways)
  f__law_line : Addr
  fd__law_line : FuncData
  F__law_line : FnP K "_law_line" (top 40) f__law_line fd__law_line
  g__law_line : mg "_law_line" = some (.ref f__law_line)
  f__law_choose : Addr
  fd__law_choose : FuncData
  F__law_choose : FnP K "_law_choose" (top 41) f__law_choose fd__law_choose
  g__law_choose : mg "_law_choose" = some (.ref f__law_choose)
  f__law_most : Addr
  fd__law_most : FuncData
  F__law_most : FnP K "_law_most" (top 42) f__law_most fd__law_most
  g__law_most : mg "_law_most" = some (.ref f__law_most)
  f__law_fewest : Addr
  fd__law_fewest : FuncData
  F__law_fewest : FnP K "_law_fewest" (top 43) f__law_fewest fd__law_fewest
  g__law_fewest : mg "_law_fewest" = some (.ref f__law_fewest)
  f__law_some_many : Addr
  fd__law_some_many : FuncData
  F__law_some_many : FnP K "_law_some_many" (top 44) f__law_some_many fd__law_some_many
  g__law_some_many : mg "_law_some_many" = some (.ref f__law_some_many)
  f__law_judged : Addr
  fd__law_judged : FuncData
  F__law_judged : FnP K "_law_judged" (top 45) f__law_judged fd__law_judged
  g__law_judged : mg "_law_judged" = some (.ref f__law_judged)
  f__law_is_fewest : Addr
  fd__law_is_fewest : FuncData
  F__law_is_fewest : FnP K "_law_is_fewest" (top 46) f__law_is_fewest fd__law_is_fewest
  g__law_is_fewest : mg "_law_is_fewest" = some (.ref f__law_is_fewest)
  f__law_right : Addr
  fd__law_right : FuncData
  F__law_right : FnP K "_law_right" (top 47) f__law_right fd__law_right
  g__law_right : mg "_law_right" = some (.ref f__law_right)
  f_law : Addr
  fd_law : FuncData
  F_law : FnP K "law" (top 48) f_law fd_law
  g_law : mg "law" = some (.ref f_law)
  b_abs : mg "abs" = none
  b_all : mg "all" = none
  b_bool : mg "bool" = none
  b_int : mg "int" = none
  b_isinstance : mg "isinstance" = none
  b_len : mg "len" = none
  b_max : mg "max" = none
  b_min : mg "min" = none
  b_range : mg "range" = none
  b_str : mg "str" = none
  b_tuple : mg "tuple" = none
  c_MOST_ASKED : ∃ t, mg "MOST_ASKED" = some (.int 10000000000000000000000000000000000000000 t)
  t_WAYS : Addr
  c_WAYS : mg "WAYS" = some (.ref t_WAYS) ∧ ∀ H, Rep K H (.ref t_WAYS) (.tup WAYSD)
  t_SIZES : Addr
  a_SIZES : mg "SIZES" = some (.ref t_SIZES)
  c_SIZES : WDic K w t_SIZES SIZESD
section
variable {P : Program} {w : World} {K : PySem.W.Frag} {mg : Str → Option Value} {base : Heap}
def N_is_integer : List Str := ["value"]
theorem sc_is_integer : FnScope N_is_integer ["value"] (defScope (top 7)) := ⟨rfl, rfl, rfl, by decide +kernel, rfl, by decide +kernel, by decide +kernel⟩
theorem b_is_integer (h : Hd K w mg) : Binds K h.fd_is_integer ["value"] [] := h.F_is_integer.bindsN fun _ _ _ _ _ _ us hl => match us, hl with | [_], _ => rfl
theorem ok_is_integer (h : Hd K w mg) : FnOk P w K mg base CX0 1 h.f_is_integer h.fd_is_integer ["value"] (spOf K sp_is_integer) :=
  fn_ok (N := N_is_integer) h.F_is_integer sc_is_integer len_is_integer fun cdv A outer s H E hr => ⟨_, T_is_integer, bd_one (sd_ret (ed_and (ed_cb (k_isi K rfl) sc_isi rfl h.b_isinstance rfl (ad_cons (ed_var (pv 0)) (ad_cons (ed_ty rfl h.b_int rfl) (ad_nil)))) (ed_one (ed_not (ed_cb (k_isi K rfl) sc_isi rfl h.b_isinstance rfl (ad_cons (ed_var (pv 0)) (ad_cons (ed_ty rfl h.b_bool rfl) (ad_nil)))))))), body_is_integer⟩
def N_is_number : List Str := ["value", "least", "most"]
theorem sc_is_number : FnScope N_is_number ["value", "least", "most"] (defScope (top 8)) := ⟨rfl, rfl, rfl, by decide +kernel, rfl, by decide +kernel, by decide +kernel⟩
theorem b_is_number (h : Hd K w mg) : Binds K h.fd_is_number ["value", "least", "most"] [] := h.F_is_number.bindsN fun _ _ _ _ _ _ us hl => match us, hl with | [_, _, _], _ => rfl
theorem ok_is_number (h : Hd K w mg) : FnOk P w K mg base CX0 2 h.f_is_number h.fd_is_number ["value", "least", "most"] (spOf K sp_is_number) :=
  fn_ok (N := N_is_number) h.F_is_number sc_is_number len_is_number fun cdv A outer s H E hr => ⟨_, T_is_number, bd_one (sd_ret (ed_and (ed_callK K rfl (k := 1) ((ok_is_integer h).mono (by decide)) hr rfl h.g_is_integer h.F_is_integer.kp (b_is_integer h) pass0 (ad_cons (ed_var (pv 0)) (ad_nil))) (ed_one (ed_chain op_le sr_le op_le sr_le (ed_var (pv 1)) (ed_var (pv 0)) (ed_var (pv 2)))))), body_is_number⟩
def N_is_rising : List Str := ["values", "k"]
theorem sc_is_rising : FnScope N_is_rising ["values"] (defScope (top 10)) := ⟨rfl, rfl, rfl, by decide +kernel, rfl, by decide +kernel, by decide +kernel⟩
theorem b_is_rising (h : Hd K w mg) : Binds K h.fd_is_rising ["values"] [] := h.F_is_rising.bindsN fun _ _ _ _ _ _ us hl => match us, hl with | [_], _ => rfl
theorem ok_is_rising (h : Hd K w mg) : FnOk P w K mg base CX0 1 h.f_is_rising h.fd_is_rising ["values"] (spOf K sp_is_rising) :=
  fn_ok (N := N_is_rising) h.F_is_rising sc_is_rising len_is_rising fun cdv A outer s H E hr => ⟨_, T_is_rising, bd_one (sd_ret (ed_cb (k_all K rfl rfl) sc_all rfl h.b_all rfl (ad_cons (ed_lc (own := [("k", 1)]) (g := gName 1)  rfl sc_is_rising.nd (id_range1 rfl h.b_range (ad_cons (ed_bin op_sub sr_sub (ed_cb (k_len K rfl) sc_len rfl h.b_len rfl (ad_cons (ed_var (pv 0)) (ad_nil))) (ed_int)) (ad_nil))) (blkOk_by (N := N_is_rising) (sc := defScope (top 10)) (by decide +kernel)) (go_name) (fun _ _ _ _ _ => gd_name (i := 1) sc_is_rising.nd rfl (Or.inl rfl)) (fun _ _ _ _ _ => ptd_nil) (fun _ _ _ _ _ => ed_cmp op_lt_str sr_ltS (ed_ix (k_ix K rfl) sr_ix (ed_var (pv 0)) (ed_var (pv 1))) (ed_ix (k_ix K rfl) sr_ix (ed_var (pv 0)) (ed_bin (k_add K rfl) sr_add (ed_var (pv 1)) (ed_int))) (nomark _))) (ad_nil)))), body_is_rising⟩
def N_ways_in : List Str := ["text", "ways", "way"]
theorem sc_ways_in : FnScope N_ways_in ["text"] (defScope (top 11)) := ⟨rfl, rfl, rfl, by decide +kernel, rfl, by decide +kernel, by decide +kernel⟩
theorem b_ways_in (h : Hd K w mg) : Binds K h.fd_ways_in ["text"] [] := h.F_ways_in.bindsN fun _ _ _ _ _ _ us hl => match us, hl with | [_], _ => rfl
theorem ok_ways_in (h : Hd K w mg) : FnOk P w K mg base CX0 2 h.f_ways_in h.fd_ways_in ["text"] (spOf K sp_ways_in) :=
  fn_ok (N := N_ways_in) h.F_ways_in sc_ways_in len_ways_in fun cdv A outer s H E hr => ⟨_, T_ways_in, bd_cons (sd_if (td_not (td_val (ed_cb (k_isi K rfl) sc_isi rfl h.b_isinstance rfl (ad_cons (ed_var (pv 0)) (ad_cons (ed_ty rfl h.b_str rfl) (ad_nil)))))) (bd_one (sd_ret (ed_non))) (bd_nil))
    (bd_cons (sd_if (td_cmp (k_eq K rfl hr.units) sr_eq (ed_var (pv 0)) (ed_str) (nomark _)) (bd_one (sd_ret (ed_tup (ad_nil)))) (bd_nil))
    (bd_cons (sd_set (i := 1) sc_ways_in.nd rfl (Or.inl rfl) (ed_bmK K rfl PySem.F.plainAttrs_str PySem.F.slot_str_split PySem.F.type_str_split mt_splitI sm_split (ed_var (pv 0)) (ad_cons (ed_str) (ad_nil))))
    (bd_one (sd_ret (ed_if (td_w (wd_and (td_val (ed_cb (k_all K rfl rfl) sc_all rfl h.b_all rfl (ad_cons (ed_lc (own := [("way", 2)]) (g := gName 2)  rfl sc_ways_in.nd (id_listK K rfl (ed_var (pv 1))) (blkOk_by (N := N_ways_in) (sc := defScope (top 11)) (by decide +kernel)) (go_name) (fun _ _ _ _ _ => gd_name (i := 2) sc_ways_in.nd rfl (Or.inl rfl)) (fun _ _ _ _ _ => ptd_nil) (fun _ _ _ _ _ => ed_cmp (k_in K rfl) (sr_in false) (ed_var (pv 2)) (ed_gtupK K rfl h.c_WAYS rfl) (by with_unfolding_all rfl))) (ad_nil)))) (wd_and1 (td_val (ed_callK K rfl (k := 1) ((ok_is_rising h).mono (by decide)) hr rfl h.g_is_rising h.F_is_rising.kp (b_is_rising h) pass0 (ad_cons (ed_var (pv 1)) (ad_nil))))))) (ed_ct (k_tup K rfl) sc_tup rfl h.b_tuple rfl (ad_cons (ed_var (pv 1)) (ad_nil))) (ed_non)))))), body_ways_in⟩
def N_chosen : List Str := ["many", "some", "found", "k"]
theorem sc_chosen : FnScope N_chosen ["many", "some"] (defScope (top 18)) := ⟨rfl, rfl, rfl, by decide +kernel, rfl, by decide +kernel, by decide +kernel⟩
theorem b_chosen (h : Hd K w mg) : Binds K h.fd_chosen ["many", "some"] [] := h.F_chosen.bindsN fun _ _ _ _ _ _ us hl => match us, hl with | [_, _], _ => rfl
theorem ok_chosen (h : Hd K w mg) : FnOk P w K mg base CX0 1 h.f_chosen h.fd_chosen ["many", "some"] (spOf K sp_chosen) :=
  fn_ok (N := N_chosen) h.F_chosen sc_chosen len_chosen fun cdv A outer s H E hr => ⟨_, T_chosen, bd_cons (sd_if (td_not (td_chain op_le sr_le op_le sr_le (ed_int) (ed_var (pv 1)) (ed_var (pv 0)))) (bd_one (sd_ret (ed_int))) (bd_nil))
    (bd_cons (sd_set (i := 2) sc_chosen.nd rfl (Or.inl rfl) (ed_int))
    (bd_cons (sd_for PassesOwn.never rfl (id_range1 rfl h.b_range (ad_cons (ed_cb (call_minI rfl) sc_min rfl h.b_min rfl (ad_cons (ed_var (pv 1)) (ad_cons (ed_bin op_sub sr_sub (ed_var (pv 0)) (ed_var (pv 1))) (ad_nil)))) (ad_nil))) (gd_name (i := 3) sc_chosen.nd rfl (Or.inl rfl)) (bd_one (sd_set (i := 2) sc_chosen.nd rfl (Or.inl rfl) (ed_bin op_fdiv sr_fdiv (ed_bin op_mulAll sr_mulAll (ed_var (pv 2)) (ed_bin op_sub sr_sub (ed_var (pv 0)) (ed_var (pv 3)))) (ed_bin (k_add K rfl) sr_add (ed_var (pv 3)) (ed_int))))))
    (bd_one (sd_ret (ed_var (pv 2)))))), body_chosen⟩
def N_powered : List Str := ["times"]
theorem sc_powered : FnScope N_powered ["times"] (defScope (top 19)) := ⟨rfl, rfl, rfl, by decide +kernel, rfl, by decide +kernel, by decide +kernel⟩
theorem b_powered (h : Hd K w mg) : Binds K h.fd_powered ["times"] [] := h.F_powered.bindsN fun _ _ _ _ _ _ us hl => match us, hl with | [_], _ => rfl
theorem ok_powered (h : Hd K w mg) : FnOk P w K mg base CX0 1 h.f_powered h.fd_powered ["times"] (spOf K sp_powered) :=
  fn_ok (N := N_powered) h.F_powered sc_powered len_powered fun cdv A outer s H E hr => ⟨_, T_powered, bd_one (sd_ret (ed_if (td_cmp op_lt sr_lt (ed_var (pv 0)) (ed_int) (nomark _)) (ed_int) (ed_bin op_shl sr_shl (ed_int) (ed_var (pv 0))))), body_powered⟩
def N_split_of : List Str := ["ways", "unlike"]
theorem sc_split_of : FnScope N_split_of ["ways"] (defScope (top 20)) := ⟨rfl, rfl, rfl, by decide +kernel, rfl, by decide +kernel, by decide +kernel⟩
theorem b_split_of (h : Hd K w mg) : Binds K h.fd_split_of ["ways"] [] := h.F_split_of.bindsN fun _ _ _ _ _ _ us hl => match us, hl with | [_], _ => rfl
theorem ok_split_of (h : Hd K w mg) : FnOk P w K mg base CX0 1 h.f_split_of h.fd_split_of ["ways"] (spOf K sp_split_of) :=
  fn_ok (N := N_split_of) h.F_split_of sc_split_of len_split_of fun cdv A outer s H E hr => ⟨_, T_split_of, bd_cons (sd_set (i := 1) sc_split_of.nd rfl (Or.inl rfl) (ed_bin op_addBB sr_addBB (ed_cmp (k_in K rfl) (sr_in false) (ed_str) (ed_var (pv 0)) (by with_unfolding_all rfl)) (ed_cmp (k_in K rfl) (sr_in false) (ed_str) (ed_var (pv 0)) (by with_unfolding_all rfl))))
    (bd_one (sd_ret (ed_tup (ad_cons (ed_var (pv 1)) (ad_cons (ed_bin op_sub sr_sub (ed_cb (k_len K rfl) sc_len rfl h.b_len rfl (ad_cons (ed_var (pv 0)) (ad_nil))) (ed_var (pv 1))) (ad_nil)))))), body_split_of⟩
def N_most_for : List Str := ["ways", "trials", "unlike", "alike"]
theorem sc_most_for : FnScope N_most_for ["ways", "trials"] (defScope (top 21)) := ⟨rfl, rfl, rfl, by decide +kernel, rfl, by decide +kernel, by decide +kernel⟩
theorem b_most_for (h : Hd K w mg) : Binds K h.fd_most_for ["ways", "trials"] [] := h.F_most_for.bindsN fun _ _ _ _ _ _ us hl => match us, hl with | [_, _], _ => rfl
theorem ok_most_for (h : Hd K w mg) : FnOk P w K mg base CX0 2 h.f_most_for h.fd_most_for ["ways", "trials"] (spOf K sp_most_for) :=
  fn_ok (N := N_most_for) h.F_most_for sc_most_for len_most_for fun cdv A outer s H E hr => ⟨_, T_most_for, bd_cons (sd_asg (ed_callK K rfl (k := 1) ((ok_split_of h).mono (by decide)) hr rfl h.g_split_of h.F_split_of.kp (b_split_of h) pass0 (ad_cons (ed_var (pv 0)) (ad_nil))) (gd_tupK K rfl rfl (gsd_cons (gd_name (i := 2) sc_most_for.nd rfl (Or.inl rfl)) (gsd_cons (gd_name (i := 3) sc_most_for.nd rfl (Or.inl rfl)) (gsd_nil)))))
    (bd_cons (sd_if (td_w (wd_and (td_cmp (k_eq K rfl hr.units) sr_eq (ed_var (pv 2)) (ed_int) (nomark _)) (wd_and1 (td_cmp op_ge sr_ge (ed_var (pv 1)) (ed_var (pv 3)) (nomark _))))) (bd_one (sd_ret (ed_non))) (bd_nil))
    (bd_cons (sd_if (td_cmp (k_eq K rfl hr.units) sr_eq (ed_var (pv 2)) (ed_int) (nomark _)) (bd_one (sd_ret (ed_int))) (bd_nil))
    (bd_cons (sd_if (td_cmp (k_eq K rfl hr.units) sr_eq (ed_var (pv 2)) (ed_int) (nomark _)) (bd_one (sd_ret (ed_cb (call_maxI rfl) sc_max rfl h.b_max rfl (ad_cons (ed_int) (ad_cons (ed_callK K rfl (k := 1) ((ok_powered h).mono (by decide)) hr rfl h.g_powered h.F_powered.kp (b_powered h) pass0 (ad_cons (ed_bin op_sub sr_sub (ed_var (pv 1)) (ed_var (pv 3))) (ad_nil))) (ad_nil)))))) (bd_nil))
    (bd_cons (sd_if (td_cmp (k_eq K rfl hr.units) sr_eq (ed_var (pv 3)) (ed_int) (nomark _)) (bd_one (sd_ret (ed_cb (call_maxI rfl) sc_max rfl h.b_max rfl (ad_cons (ed_int) (ad_cons (ed_callK K rfl (k := 1) ((ok_chosen h).mono (by decide)) hr rfl h.g_chosen h.F_chosen.kp (b_chosen h) pass0 (ad_cons (ed_bin op_sub sr_sub (ed_var (pv 1)) (ed_int)) (ad_cons (ed_bin op_sub sr_sub (ed_bin op_fdiv sr_fdiv (ed_var (pv 1)) (ed_int)) (ed_int)) (ad_nil)))) (ad_nil)))))) (bd_nil))
    (bd_one (sd_ret (ed_cb (call_maxI rfl) sc_max rfl h.b_max rfl (ad_cons (ed_int) (ad_cons (ed_callK K rfl (k := 1) ((ok_chosen h).mono (by decide)) hr rfl h.g_chosen h.F_chosen.kp (b_chosen h) pass0 (ad_cons (ed_var (pv 1)) (ad_cons (ed_bin (k_add K rfl) sr_add (ed_bin op_fdiv sr_fdiv (ed_var (pv 1)) (ed_int)) (ed_var (pv 3))) (ad_nil)))) (ad_nil)))))))))), body_most_for⟩
def N_fewest_for : List Str := ["ways", "switches", "trials", "step", "most"]
theorem sc_fewest_for : FnScope N_fewest_for ["ways", "switches"] (defScope (top 22)) := ⟨rfl, rfl, rfl, by decide +kernel, rfl, by decide +kernel, by decide +kernel⟩
theorem b_fewest_for (h : Hd K w mg) : Binds K h.fd_fewest_for ["ways", "switches"] [] := h.F_fewest_for.bindsN fun _ _ _ _ _ _ us hl => match us, hl with | [_, _], _ => rfl
theorem ok_fewest_for (h : Hd K w mg) : FnOk P w K mg base CX0 3 h.f_fewest_for h.fd_fewest_for ["ways", "switches"] (spOf K sp_fewest_for) :=
  fn_ok (N := N_fewest_for) h.F_fewest_for sc_fewest_for len_fewest_for fun cdv A outer s H E hr => ⟨_, T_fewest_for, bd_cons (sd_set (i := 2) sc_fewest_for.nd rfl (Or.inl rfl) (ed_int))
    (bd_cons (sd_for PassesOwn.never rfl (id_tupK K rfl (ed_tup (ad_cons (ed_int) (ad_cons (ed_int) (ad_cons (ed_int) (ad_cons (ed_int) (ad_cons (ed_int) (ad_cons (ed_int) (ad_cons (ed_int) (ad_cons (ed_int) (ad_nil))))))))))) (gd_name (i := 3) sc_fewest_for.nd rfl (Or.inl rfl)) (bd_cons (sd_set (i := 4) sc_fewest_for.nd rfl (Or.inl rfl) (ed_callK K rfl (k := 2) ((ok_most_for h).mono (by decide)) hr rfl h.g_most_for h.F_most_for.kp (b_most_for h) pass0 (ad_cons (ed_var (pv 0)) (ad_cons (ed_bin op_sub sr_sub (ed_bin (k_add K rfl) sr_add (ed_var (pv 2)) (ed_var (pv 3))) (ed_int)) (ad_nil)))))
    (bd_one (sd_if (td_w (wd_and (td_cmp op_notNone sr_notN (ed_var (pv 4)) (ed_non) (nomark _)) (wd_and1 (td_cmp op_lt sr_lt (ed_var (pv 4)) (ed_var (pv 1)) (nomark _))))) (bd_one (sd_set (i := 2) sc_fewest_for.nd rfl (Or.inl rfl) (ed_bin (k_add K rfl) sr_add (ed_var (pv 2)) (ed_var (pv 3))))) (bd_nil)))))
    (bd_one (sd_ret (ed_var (pv 2))))), body_fewest_for⟩
def N_shows_fewest : List Str := ["ways", "switches", "trials", "certificate"]
theorem sc_shows_fewest : FnScope N_shows_fewest ["ways", "switches", "trials", "certificate"] (defScope (top 25)) := ⟨rfl, rfl, rfl, by decide +kernel, rfl, by decide +kernel, by decide +kernel⟩
theorem b_shows_fewest (h : Hd K w mg) : Binds K h.fd_shows_fewest ["ways", "switches", "trials", "certificate"] [] := h.F_shows_fewest.bindsN fun _ _ _ _ _ _ us hl => match us, hl with | [_, _, _, _], _ => rfl
theorem ok_shows_fewest (h : Hd K w mg) : FnOk P w K mg base CX0 4 h.f_shows_fewest h.fd_shows_fewest ["ways", "switches", "trials", "certificate"] (spOf K sp_shows_fewest) :=
  fn_ok (N := N_shows_fewest) h.F_shows_fewest sc_shows_fewest len_shows_fewest fun cdv A outer s H E hr => ⟨_, T_shows_fewest, bd_cons (sd_if (td_w (wd_or (td_cmp op_notNone sr_notN (ed_var (pv 3)) (ed_non) (nomark _)) (wd_or (td_not (td_val (ed_callK K rfl (k := 3) ((ok_is_number h).mono (by decide)) hr rfl h.g_is_number h.F_is_number.kp (b_is_number h) pass0 (ad_cons (ed_var (pv 1)) (ad_cons (ed_int) (ad_cons (ed_gint h.c_MOST_ASKED rfl) (ad_nil))))))) (wd_or1 (td_not (td_val (ed_callK K rfl (k := 3) ((ok_is_integer h).mono (by decide)) hr rfl h.g_is_integer h.F_is_integer.kp (b_is_integer h) pass0 (ad_cons (ed_var (pv 2)) (ad_nil))))))))) (bd_one (sd_ret (ed_bl))) (bd_nil))
    (bd_one (sd_ret (ed_cmp (k_eq K rfl hr.units) sr_eq (ed_var (pv 2)) (ed_callK K rfl (k := 3) ((ok_fewest_for h).mono (by decide)) hr rfl h.g_fewest_for h.F_fewest_for.kp (b_fewest_for h) pass0 (ad_cons (ed_var (pv 0)) (ad_cons (ed_var (pv 1)) (ad_nil)))) (nomark _)))), body_shows_fewest⟩
def N_accepts : List Str := ["claim", "certificate", "word", "ways", "plan"]
theorem sc_accepts : FnScope N_accepts ["claim", "certificate"] (defScope (top 34)) := ⟨rfl, rfl, rfl, by decide +kernel, rfl, by decide +kernel, by decide +kernel⟩
theorem b_accepts (h : Hd K w mg) : Binds K h.fd_accepts ["claim", "certificate"] [] := h.F_accepts.bindsN fun _ _ _ _ _ _ us hl => match us, hl with | [_, _], _ => rfl
theorem ok_accepts (h : Hd K w mg) : FnOk P w K mg base CX0 5 h.f_accepts h.fd_accepts ["claim", "certificate"] (spOf K sp_accepts) :=
  fn_ok (N := N_accepts) h.F_accepts sc_accepts len_accepts fun cdv A outer s H E hr => ⟨_, T_accepts, bd_cons (sd_if (td_w (wd_or (td_not (td_val (ed_cb (k_isi K rfl) sc_isi rfl h.b_isinstance rfl (ad_cons (ed_var (pv 0)) (ad_cons (ed_ty rfl h.b_tuple rfl) (ad_nil)))))) (wd_or (td_cmp (k_eq K rfl hr.units) sr_eq (ed_cb (k_len K rfl) sc_len rfl h.b_len rfl (ad_cons (ed_var (pv 0)) (ad_nil))) (ed_int) (nomark _)) (wd_or1 (td_not (td_val (ed_cb (k_isi K rfl) sc_isi rfl h.b_isinstance rfl (ad_cons (ed_ix (k_ix K rfl) sr_ix (ed_var (pv 0)) (ed_int)) (ad_cons (ed_ty rfl h.b_str rfl) (ad_nil)))))))))) (bd_one (sd_ret (ed_bl))) (bd_nil))
    (bd_cons (sd_set (i := 2) sc_accepts.nd rfl (Or.inl rfl) (ed_ix (k_ix K rfl) sr_ix (ed_var (pv 0)) (ed_int)))
    (bd_cons (sd_if (td_cmp (k_ne K rfl hr.units) sr_ne (ed_wgetK K rfl rfl h.c_SIZES (ed_ref rfl h.a_SIZES) (ed_var (pv 2)) (ed_int) ⟨by rfl, by rfl, by rfl, by rfl⟩) (ed_cb (k_len K rfl) sc_len rfl h.b_len rfl (ad_cons (ed_var (pv 0)) (ad_nil))) (nomark _)) (bd_one (sd_ret (ed_bl))) (bd_nil))
    (bd_cons (sd_if (td_cmp (k_eq K rfl hr.units) sr_eq (ed_var (pv 2)) (ed_str) (nomark _)) (bd_never) (bd_nil))
    (bd_cons (sd_set (i := 3) sc_accepts.nd rfl (Or.inl rfl) (ed_callK K rfl (k := 4) ((ok_ways_in h).mono (by decide)) hr rfl h.g_ways_in h.F_ways_in.kp (b_ways_in h) pass0 (ad_cons (ed_ix (k_ix K rfl) sr_ix (ed_var (pv 0)) (ed_int)) (ad_nil))))
    (bd_cons (sd_if (td_cmp op_isNone sr_isN (ed_var (pv 3)) (ed_non) (nomark _)) (bd_one (sd_ret (ed_bl))) (bd_nil))
    (bd_cons (sd_if (td_cmp (k_eq K rfl hr.units) sr_eq (ed_var (pv 2)) (ed_str) (nomark _)) (bd_one (sd_ret (ed_callK K rfl (k := 4) ((ok_shows_fewest h).mono (by decide)) hr rfl h.g_shows_fewest h.F_shows_fewest.kp (b_shows_fewest h) pass0 (ad_cons (ed_var (pv 3)) (ad_cons (ed_ix (k_ix K rfl) sr_ix (ed_var (pv 0)) (ed_int)) (ad_cons (ed_ix (k_ix K rfl) sr_ix (ed_var (pv 0)) (ed_int)) (ad_cons (ed_var (pv 1)) (ad_nil)))))))) (bd_nil))
    (bd_cons (sd_if (td_cmp (k_eq K rfl hr.units) sr_eq (ed_var (pv 2)) (ed_str) (nomark _)) (bd_never) (bd_nil))
    (bd_never)))))))), body_accepts⟩
def N__law_take : List Str := ["_law_purse_here", "_law_many", "_law_digit"]
theorem sc__law_take : FnScope N__law_take ["_law_purse_here", "_law_many"] (defScope (top 37)) := ⟨rfl, rfl, rfl, by decide +kernel, rfl, by decide +kernel, by decide +kernel⟩
theorem b__law_take (h : Hd K w mg) : Binds K h.fd__law_take ["_law_purse_here", "_law_many"] [] := h.F__law_take.bindsN fun _ _ _ _ _ _ us hl => match us, hl with | [_, _], _ => rfl
theorem ok__law_take (h : Hd K w mg) : FnOk P w K mg base CX0 1 h.f__law_take h.fd__law_take ["_law_purse_here", "_law_many"] (spOf K sp_law_take) :=
  fn_ok (N := N__law_take) h.F__law_take sc__law_take len__law_take fun cdv A outer s H E hr => ⟨_, T__law_take, bd_cons (sd_if (td_cmp op_gt sr_gt (ed_pur (K := K) rfl (ed_var (pv 0)) (ed_int)) (ed_int) (nomark _)) (bd_cons (sd_set (i := 2) sc__law_take.nd rfl (Or.inl rfl) (ed_bin op_mod sr_mod (ed_ct call_intI sc_int rfl h.b_int rfl (ad_cons (ed_pur (K := K) rfl (ed_var (pv 0)) (ed_int)) (ad_nil))) (ed_var (pv 1))))
    (bd_cons (sd_asg (ed_bin op_fdiv sr_fdiv (ed_pur (K := K) rfl (ed_var (pv 0)) (ed_int)) (ed_var (pv 1))) (gd_pur (ed_var (pv 0)) (ed_int)))
    (bd_one (sd_ret (ed_var (pv 2)))))) (bd_nil))
    (bd_cons (sd_asg (ed_bin op_mod sr_mod (ed_ct call_intI sc_int rfl h.b_int rfl (ad_cons (ed_bin (k_add K rfl) sr_add (ed_bin op_mulAll sr_mulAll (ed_pur (K := K) rfl (ed_var (pv 0)) (ed_int)) (ed_int)) (ed_int)) (ad_nil))) (ed_int)) (gd_pur (ed_var (pv 0)) (ed_int)))
    (bd_one (sd_ret (ed_bin op_mod sr_mod (ed_ct call_intI sc_int rfl h.b_int rfl (ad_cons (ed_bin (k_add K rfl) sr_add (ed_bin op_fdiv sr_fdiv (ed_pur (K := K) rfl (ed_var (pv 0)) (ed_int)) (ed_int)) (ed_bin op_fdiv sr_fdiv (ed_pur (K := K) rfl (ed_var (pv 0)) (ed_int)) (ed_int))) (ad_nil))) (ed_var (pv 1)))))), body__law_take⟩
def N__law_purse : List Str := ["_law_script", "_law_k", "_law_cell", "_law_state", "_law_one"]
theorem sc__law_purse : FnScope N__law_purse ["_law_script", "_law_k"] (defScope (top 36)) := ⟨rfl, rfl, rfl, by decide +kernel, rfl, by decide +kernel, by decide +kernel⟩
theorem b__law_purse (h : Hd K w mg) : Binds K h.fd__law_purse ["_law_script", "_law_k"] [] := h.F__law_purse.bindsN fun _ _ _ _ _ _ us hl => match us, hl with | [_, _], _ => rfl
theorem ok__law_purse (h : Hd K w mg) : FnOk P w K mg base CX0 1 h.f__law_purse h.fd__law_purse ["_law_script", "_law_k"] (spOf K sp_law_purse) :=
  fn_ok (N := N__law_purse) h.F__law_purse sc__law_purse len__law_purse fun cdv A outer s H E hr => ⟨_, T__law_purse, bd_cons (sd_set (i := 2) sc__law_purse.nd rfl (Or.inl rfl) (ed_if (td_cmp op_lt sr_lt (ed_var (pv 1)) (ed_cb (k_len K rfl) sc_len rfl h.b_len rfl (ad_cons (ed_var (pv 0)) (ad_nil))) (nomark _)) (ed_ct call_intI sc_int rfl h.b_int rfl (ad_cons (ed_ix (k_ix K rfl) sr_ix (ed_var (pv 0)) (ed_var (pv 1))) (ad_nil))) (ed_bin (k_add K rfl) sr_add (ed_bin op_mulAll sr_mulAll (ed_bin op_mulAll sr_mulAll (ed_int) (ed_var (pv 1))) (ed_var (pv 1))) (ed_int))))
    (bd_cons (sd_set (i := 3) sc__law_purse.nd rfl (Or.inl rfl) (ed_bin (k_add K rfl) sr_add (ed_int) (ed_bin op_mulAll sr_mulAll (ed_int) (ed_var (pv 1)))))
    (bd_cons (sd_for PassesOwn.never rfl (id_listK K rfl (ed_bin (k_add K rfl) sr_add (ed_slice (k_sl K rfl) ss_all (ed_var (pv 0)) (od_none) (od_some (ed_int))) (ed_lst (ad_cons (ed_var (pv 2)) (ad_nil))))) (gd_name (i := 4) sc__law_purse.nd rfl (Or.inl rfl)) (bd_cons (sd_set (i := 3) sc__law_purse.nd rfl (Or.inl rfl) (ed_bin (k_add K rfl) sr_add (ed_bin (k_add K rfl) sr_add (ed_bin op_mulAll sr_mulAll (ed_var (pv 3)) (ed_int)) (ed_bin op_mod sr_mod (ed_ct call_intI sc_int rfl h.b_int rfl (ad_cons (ed_var (pv 4)) (ad_nil))) (ed_int))) (ed_ct call_intI sc_int rfl h.b_int rfl (ad_cons (ed_cmp op_lt sr_lt (ed_var (pv 4)) (ed_int) (nomark _)) (ad_nil)))))
    (bd_one (sd_set (i := 3) sc__law_purse.nd rfl (Or.inl rfl) (ed_bin op_mod sr_mod (ed_ct call_intI sc_int rfl h.b_int rfl (ad_cons (ed_var (pv 3)) (ad_nil))) (ed_int))))))
    (bd_one (sd_retP (fd_lst (ad_cons (ed_if (td_cmp op_ge sr_ge (ed_cb call_absI sc_abs rfl h.b_abs rfl (ad_cons (ed_var (pv 2)) (ad_nil))) (ed_bin op_pow sr_pow (ed_int) (ed_int)) (nomark _)) (ed_cb call_absI sc_abs rfl h.b_abs rfl (ad_cons (ed_var (pv 2)) (ad_nil))) (ed_int)) (ad_cons (ed_var (pv 3)) (ad_nil)))))))), body__law_purse⟩
def N__law_big : List Str := ["_law_purse_here", "_law_many", "_law_found", "_law_turn"]
theorem sc__law_big : FnScope N__law_big ["_law_purse_here", "_law_many"] (defScope (top 38)) := ⟨rfl, rfl, rfl, by decide +kernel, rfl, by decide +kernel, by decide +kernel⟩
theorem b__law_big (h : Hd K w mg) : Binds K h.fd__law_big ["_law_purse_here", "_law_many"] [] := h.F__law_big.bindsN fun _ _ _ _ _ _ us hl => match us, hl with | [_, _], _ => rfl
theorem ok__law_big (h : Hd K w mg) : FnOk P w K mg base CX0 2 h.f__law_big h.fd__law_big ["_law_purse_here", "_law_many"] (spOf K sp_law_big) :=
  fn_ok (N := N__law_big) h.F__law_big sc__law_big len__law_big fun cdv A outer s H E hr => ⟨_, T__law_big, bd_cons (sd_set (i := 2) sc__law_big.nd rfl (Or.inl rfl) (ed_int))
    (bd_cons (sd_for PassesOwn.never rfl (id_range1 rfl h.b_range (ad_cons (ed_int) (ad_nil))) (gd_name (i := 3) sc__law_big.nd rfl (Or.inl rfl)) (bd_one (sd_set (i := 2) sc__law_big.nd rfl (Or.inl rfl) (ed_bin (k_add K rfl) sr_add (ed_bin op_mulAll sr_mulAll (ed_var (pv 2)) (ed_bin op_pow sr_pow (ed_int) (ed_int))) (ed_callK K rfl (k := 1) ((ok__law_take h).mono (by decide)) hr rfl h.g__law_take h.F__law_take.kp (b__law_take h) pass0 (ad_cons (ed_var (pv 0)) (ad_cons (ed_bin op_pow sr_pow (ed_int) (ed_int)) (ad_nil))))))))
    (bd_one (sd_ret (ed_bin op_mod sr_mod (ed_ct call_intI sc_int rfl h.b_int rfl (ad_cons (ed_var (pv 2)) (ad_nil))) (ed_var (pv 1)))))), body__law_big⟩
def N__law_ways : List Str := ["_law_number", "_law_sign", "_law_size"]
theorem sc__law_ways : FnScope N__law_ways ["_law_number"] (defScope (top 39)) := ⟨rfl, rfl, rfl, by decide +kernel, rfl, by decide +kernel, by decide +kernel⟩
theorem b__law_ways (h : Hd K w mg) : Binds K h.fd__law_ways ["_law_number"] [] := h.F__law_ways.bindsN fun _ _ _ _ _ _ us hl => match us, hl with | [_], _ => rfl
theorem ok__law_ways (h : Hd K w mg) : FnOk P w K mg base CX0 1 h.f__law_ways h.fd__law_ways ["_law_number"] (spOf K sp_law_ways) :=
  fn_ok (N := N__law_ways) h.F__law_ways sc__law_ways len__law_ways fun cdv A outer s H E hr => ⟨_, T__law_ways, bd_one (sd_ret (ed_lc (own := [("_law_sign", 1), ("_law_size", 2)]) (g := gTup K 2 (gCons (gName 1) (gCons (gName 2) (gNil))))  rfl sc__law_ways.nd (id_listK K rfl (ed_lst (ad_cons (ed_tup (ad_cons (ed_str) (ad_cons (ed_int) (ad_nil)))) (ad_cons (ed_tup (ad_cons (ed_str) (ad_cons (ed_int) (ad_nil)))) (ad_cons (ed_tup (ad_cons (ed_str) (ad_cons (ed_int) (ad_nil)))) (ad_cons (ed_tup (ad_cons (ed_str) (ad_cons (ed_int) (ad_nil)))) (ad_nil))))))) (blkOk_by (N := N__law_ways) (sc := defScope (top 39)) (by decide +kernel)) (go_tup (gso_cons (go_name) (gso_cons (go_name) (gso_nil)))) (fun _ _ _ _ _ => gd_tupK K rfl rfl (gsd_cons (gd_name (i := 1) sc__law_ways.nd rfl (Or.inl rfl)) (gsd_cons (gd_name (i := 2) sc__law_ways.nd rfl (Or.inl rfl)) (gsd_nil)))) (fun _ _ _ _ _ => ptd_one (td_cmp (k_eq K rfl hr.units) sr_eq (ed_bin op_mod sr_mod (ed_ct call_intI sc_int rfl h.b_int rfl (ad_cons (ed_bin op_fdiv sr_fdiv (ed_var (pv 0)) (ed_var (pv 2))) (ad_nil))) (ed_int)) (ed_int) (nomark _))) (fun _ _ _ _ _ => ed_var (pv 1)))), body__law_ways⟩
def N__law_line : List Str := ["_law_ways_here"]
theorem sc__law_line : FnScope N__law_line ["_law_ways_here"] (defScope (top 40)) := ⟨rfl, rfl, rfl, by decide +kernel, rfl, by decide +kernel, by decide +kernel⟩
theorem b__law_line (h : Hd K w mg) : Binds K h.fd__law_line ["_law_ways_here"] [] := h.F__law_line.bindsN fun _ _ _ _ _ _ us hl => match us, hl with | [_], _ => rfl
theorem ok__law_line (h : Hd K w mg) : FnOk P w K mg base CX0 1 h.f__law_line h.fd__law_line ["_law_ways_here"] (spOf K sp_law_line) :=
  fn_ok (N := N__law_line) h.F__law_line sc__law_line len__law_line fun cdv A outer s H E hr => ⟨_, T__law_line, bd_one (sd_ret (ed_if (td_cmp (k_ne K rfl hr.units) sr_ne (ed_var (pv 0)) (ed_lst (ad_nil)) (nomark _)) (ed_bmK K rfl PySem.F.plainAttrs_str PySem.F.slot_str_join PySem.F.type_str_join (k_join K rfl) sm_join (ed_str) (ad_cons (ed_var (pv 0)) (ad_nil))) (ed_str))), body__law_line⟩
def N__law_choose : List Str := ["_law_many", "_law_some", "_law_found", "_law_k"]
theorem sc__law_choose : FnScope N__law_choose ["_law_many", "_law_some"] (defScope (top 41)) := ⟨rfl, rfl, rfl, by decide +kernel, rfl, by decide +kernel, by decide +kernel⟩
theorem b__law_choose (h : Hd K w mg) : Binds K h.fd__law_choose ["_law_many", "_law_some"] [] := h.F__law_choose.bindsN fun _ _ _ _ _ _ us hl => match us, hl with | [_, _], _ => rfl
theorem ok__law_choose (h : Hd K w mg) : FnOk P w K mg base CX0 1 h.f__law_choose h.fd__law_choose ["_law_many", "_law_some"] (spOf K sp_law_choose) :=
  fn_ok (N := N__law_choose) h.F__law_choose sc__law_choose len__law_choose fun cdv A outer s H E hr => ⟨_, T__law_choose, bd_cons (sd_if (td_w (wd_or (td_cmp op_lt sr_lt (ed_var (pv 1)) (ed_int) (nomark _)) (wd_or1 (td_cmp op_gt sr_gt (ed_var (pv 1)) (ed_var (pv 0)) (nomark _))))) (bd_one (sd_ret (ed_int))) (bd_nil))
    (bd_cons (sd_set (i := 2) sc__law_choose.nd rfl (Or.inl rfl) (ed_int))
    (bd_cons (sd_for PassesOwn.never rfl (id_range1 rfl h.b_range (ad_cons (ed_cb (call_minI rfl) sc_min rfl h.b_min rfl (ad_cons (ed_var (pv 1)) (ad_cons (ed_bin op_sub sr_sub (ed_var (pv 0)) (ed_var (pv 1))) (ad_nil)))) (ad_nil))) (gd_name (i := 3) sc__law_choose.nd rfl (Or.inl rfl)) (bd_one (sd_set (i := 2) sc__law_choose.nd rfl (Or.inl rfl) (ed_bin op_fdiv sr_fdiv (ed_bin op_mulAll sr_mulAll (ed_var (pv 2)) (ed_bin op_sub sr_sub (ed_var (pv 0)) (ed_var (pv 3)))) (ed_bin (k_add K rfl) sr_add (ed_var (pv 3)) (ed_int))))))
    (bd_one (sd_ret (ed_var (pv 2)))))), body__law_choose⟩
def N__law_most : List Str := ["_law_ways_here", "_law_deep", "_law_unlike", "_law_alike", "_law_found", "_law_turn", "_law_sign"]
theorem sc__law_most : FnScope N__law_most ["_law_ways_here", "_law_deep"] (defScope (top 42)) := ⟨rfl, rfl, rfl, by decide +kernel, rfl, by decide +kernel, by decide +kernel⟩
theorem b__law_most (h : Hd K w mg) : Binds K h.fd__law_most ["_law_ways_here", "_law_deep"] [] := h.F__law_most.bindsN fun _ _ _ _ _ _ us hl => match us, hl with | [_, _], _ => rfl
theorem ok__law_most (h : Hd K w mg) : FnOk P w K mg base CX0 2 h.f__law_most h.fd__law_most ["_law_ways_here", "_law_deep"] (spOf K sp_law_most) :=
  fn_ok (N := N__law_most) h.F__law_most sc__law_most len__law_most fun cdv A outer s H E hr => ⟨_, T__law_most, bd_cons (sd_setLc (i := 2) (own := [("_law_sign", 6)]) (g := gName 6)  rfl sc__law_most.nd rfl rfl (sw_true rfl rfl rfl (by decide +kernel)) (id_listK K rfl (ed_var (pv 0))) (blkOk_by (N := N__law_most) (sc := defScope (top 42)) (by decide +kernel)) (go_name) (fun _ _ _ _ _ => gd_name (i := 6) sc__law_most.nd rfl (Or.inl rfl)) (fun _ _ _ _ _ => ptd_one (td_cmp (k_in K rfl) (sr_in false) (ed_var (pv 6)) (ed_lst (ad_cons (ed_str) (ad_cons (ed_str) (ad_nil)))) (by with_unfolding_all rfl))) (fun _ _ _ _ _ => ed_var (pv 6)))
    (bd_cons (sd_set (i := 3) sc__law_most.nd rfl (Or.inl rfl) (ed_bin op_sub sr_sub (ed_cb (k_len K rfl) sc_len rfl h.b_len rfl (ad_cons (ed_var (pv 0)) (ad_nil))) (ed_cb (k_len K rfl) sc_len rfl h.b_len rfl (ad_cons (ed_var (pv 2)) (ad_nil)))))
    (bd_cons (sd_if (td_cmp (k_eq K rfl hr.units) sr_eq (ed_var (pv 2)) (ed_lst (ad_nil)) (nomark _)) (bd_one (sd_ret (ed_if (td_cmp op_ge sr_ge (ed_var (pv 1)) (ed_var (pv 3)) (nomark _)) (ed_non) (ed_int)))) (bd_nil))
    (bd_cons (sd_if (td_cmp (k_eq K rfl hr.units) sr_eq (ed_cb (k_len K rfl) sc_len rfl h.b_len rfl (ad_cons (ed_var (pv 2)) (ad_nil))) (ed_int) (nomark _)) (bd_cons (sd_set (i := 4) sc__law_most.nd rfl (Or.inl rfl) (ed_int))
    (bd_cons (sd_for PassesOwn.never rfl (id_range1 rfl h.b_range (ad_cons (ed_bin op_sub sr_sub (ed_var (pv 1)) (ed_var (pv 3))) (ad_nil))) (gd_name (i := 5) sc__law_most.nd rfl (Or.inl rfl)) (bd_one (sd_set (i := 4) sc__law_most.nd rfl (Or.inl rfl) (ed_bin op_mulAll sr_mulAll (ed_var (pv 4)) (ed_int)))))
    (bd_one (sd_ret (ed_var (pv 4)))))) (bd_nil))
    (bd_cons (sd_if (td_cmp (k_eq K rfl hr.units) sr_eq (ed_var (pv 3)) (ed_int) (nomark _)) (bd_one (sd_ret (ed_cb (call_maxI rfl) sc_max rfl h.b_max rfl (ad_cons (ed_int) (ad_cons (ed_callK K rfl (k := 1) ((ok__law_choose h).mono (by decide)) hr rfl h.g__law_choose h.F__law_choose.kp (b__law_choose h) pass0 (ad_cons (ed_bin op_sub sr_sub (ed_var (pv 1)) (ed_int)) (ad_cons (ed_bin op_sub sr_sub (ed_bin op_fdiv sr_fdiv (ed_var (pv 1)) (ed_int)) (ed_int)) (ad_nil)))) (ad_nil)))))) (bd_nil))
    (bd_one (sd_ret (ed_cb (call_maxI rfl) sc_max rfl h.b_max rfl (ad_cons (ed_int) (ad_cons (ed_callK K rfl (k := 1) ((ok__law_choose h).mono (by decide)) hr rfl h.g__law_choose h.F__law_choose.kp (b__law_choose h) pass0 (ad_cons (ed_var (pv 1)) (ad_cons (ed_bin (k_add K rfl) sr_add (ed_bin op_fdiv sr_fdiv (ed_var (pv 1)) (ed_int)) (ed_var (pv 3))) (ad_nil)))) (ad_nil)))))))))), body__law_most⟩
def N__law_fewest : List Str := ["_law_ways_here", "_law_many", "_law_turn", "_law_low", "_law_high", "_law_middle", "_law_most_here"]
theorem sc__law_fewest : FnScope N__law_fewest ["_law_ways_here", "_law_many"] (defScope (top 43)) := ⟨rfl, rfl, rfl, by decide +kernel, rfl, by decide +kernel, by decide +kernel⟩
theorem b__law_fewest (h : Hd K w mg) : Binds K h.fd__law_fewest ["_law_ways_here", "_law_many"] [] := h.F__law_fewest.bindsN fun _ _ _ _ _ _ us hl => match us, hl with | [_, _], _ => rfl
theorem ok__law_fewest (h : Hd K w mg) : FnOk P w K mg base CX0 3 h.f__law_fewest h.fd__law_fewest ["_law_ways_here", "_law_many"] (spOf K sp_law_fewest) :=
  fn_ok (N := N__law_fewest) h.F__law_fewest sc__law_fewest len__law_fewest fun cdv A outer s H E hr => ⟨_, T__law_fewest, bd_cons (sd_asg (ed_tup (ad_cons (ed_int) (ad_cons (ed_int) (ad_nil)))) (gd_tupK K rfl rfl (gsd_cons (gd_name (i := 3) sc__law_fewest.nd rfl (Or.inl rfl)) (gsd_cons (gd_name (i := 4) sc__law_fewest.nd rfl (Or.inl rfl)) (gsd_nil)))))
    (bd_cons (sd_for PassesOwn.never rfl (id_range1 rfl h.b_range (ad_cons (ed_int) (ad_nil))) (gd_name (i := 2) sc__law_fewest.nd rfl (Or.inl rfl)) (bd_one (sd_if (td_cmp op_lt sr_lt (ed_var (pv 3)) (ed_var (pv 4)) (nomark _)) (bd_cons (sd_set (i := 5) sc__law_fewest.nd rfl (Or.inl rfl) (ed_bin op_fdiv sr_fdiv (ed_bin (k_add K rfl) sr_add (ed_var (pv 3)) (ed_var (pv 4))) (ed_int)))
    (bd_cons (sd_set (i := 6) sc__law_fewest.nd rfl (Or.inl rfl) (ed_callK K rfl (k := 2) ((ok__law_most h).mono (by decide)) hr rfl h.g__law_most h.F__law_most.kp (b__law_most h) pass0 (ad_cons (ed_var (pv 0)) (ad_cons (ed_var (pv 5)) (ad_nil)))))
    (bd_one (sd_if (td_w (wd_or (td_cmp op_isNone sr_isN (ed_var (pv 6)) (ed_non) (nomark _)) (wd_or1 (td_cmp op_ge sr_ge (ed_var (pv 6)) (ed_var (pv 1)) (nomark _))))) (bd_one (sd_set (i := 4) sc__law_fewest.nd rfl (Or.inl rfl) (ed_var (pv 5)))) (bd_one (sd_set (i := 3) sc__law_fewest.nd rfl (Or.inl rfl) (ed_bin (k_add K rfl) sr_add (ed_var (pv 5)) (ed_int)))))))) (bd_nil))))
    (bd_one (sd_ret (ed_var (pv 4))))), body__law_fewest⟩
def N__law_some_many : List Str := ["_law_purse_here", "_law_ways_here", "_law_deep", "_law_form", "_law_most_here"]
theorem sc__law_some_many : FnScope N__law_some_many ["_law_purse_here", "_law_ways_here"] (defScope (top 44)) := ⟨rfl, rfl, rfl, by decide +kernel, rfl, by decide +kernel, by decide +kernel⟩
theorem b__law_some_many (h : Hd K w mg) : Binds K h.fd__law_some_many ["_law_purse_here", "_law_ways_here"] [] := h.F__law_some_many.bindsN fun _ _ _ _ _ _ us hl => match us, hl with | [_, _], _ => rfl
theorem ok__law_some_many (h : Hd K w mg) : FnOk P w K mg base CX0 3 h.f__law_some_many h.fd__law_some_many ["_law_purse_here", "_law_ways_here"] (spOf K sp_law_some_many) :=
  fn_ok (N := N__law_some_many) h.F__law_some_many sc__law_some_many len__law_some_many fun cdv A outer s H E hr => ⟨_, T__law_some_many, bd_cons (sd_set (i := 2) sc__law_some_many.nd rfl (Or.inl rfl) (ed_callK K rfl (k := 2) ((ok__law_take h).mono (by decide)) hr rfl h.g__law_take h.F__law_take.kp (b__law_take h) pass0 (ad_cons (ed_var (pv 0)) (ad_cons (ed_ix (k_ix K rfl) sr_ix (ed_lst (ad_cons (ed_int) (ad_cons (ed_int) (ad_cons (ed_int) (ad_cons (ed_int) (ad_nil)))))) (ed_callK K rfl (k := 2) ((ok__law_take h).mono (by decide)) hr rfl h.g__law_take h.F__law_take.kp (b__law_take h) pass0 (ad_cons (ed_var (pv 0)) (ad_cons (ed_int) (ad_nil))))) (ad_nil)))))
    (bd_cons (sd_par (i := 3) (j := 4) rfl sc__law_some_many.nd rfl rfl (by decide) rfl rfl (ad_cons (ed_callK K rfl (k := 2) ((ok__law_take h).mono (by decide)) hr rfl h.g__law_take h.F__law_take.kp (b__law_take h) pass0 (ad_cons (ed_var (pv 0)) (ad_cons (ed_int) (ad_nil)))) (ad_cons (ed_callK K rfl (k := 2) ((ok__law_most h).mono (by decide)) hr rfl h.g__law_most h.F__law_most.kp (b__law_most h) pass0 (ad_cons (ed_var (pv 1)) (ad_cons (ed_var (pv 2)) (ad_nil)))) (ad_nil))) rfl)
    (bd_cons (sd_if (td_w (wd_or (td_cmp op_isNone sr_isN (ed_var (pv 4)) (ed_non) (nomark _)) (wd_or1 (td_cmp (k_eq K rfl hr.units) sr_eq (ed_var (pv 3)) (ed_int) (nomark _))))) (bd_one (sd_ret (ed_bin (k_add K rfl) sr_add (ed_int) (ed_callK K rfl (k := 2) ((ok__law_big h).mono (by decide)) hr rfl h.g__law_big h.F__law_big.kp (b__law_big h) pass0 (ad_cons (ed_var (pv 0)) (ad_cons (ed_ix (k_ix K rfl) sr_ix (ed_lst (ad_cons (ed_int) (ad_cons (ed_int) (ad_cons (ed_bin op_pow sr_pow (ed_int) (ed_int)) (ad_cons (ed_bin op_pow sr_pow (ed_int) (ed_int)) (ad_cons (ed_bin op_pow sr_pow (ed_int) (ed_int)) (ad_nil))))))) (ed_callK K rfl (k := 2) ((ok__law_take h).mono (by decide)) hr rfl h.g__law_take h.F__law_take.kp (b__law_take h) pass0 (ad_cons (ed_var (pv 0)) (ad_cons (ed_int) (ad_nil))))) (ad_nil))))))) (bd_nil))
    (bd_cons (sd_if (td_cmp (k_eq K rfl hr.units) sr_eq (ed_var (pv 3)) (ed_int) (nomark _)) (bd_one (sd_ret (ed_cb (call_minI rfl) sc_min rfl h.b_min rfl (ad_cons (ed_bin (k_add K rfl) sr_add (ed_int) (ed_callK K rfl (k := 2) ((ok__law_big h).mono (by decide)) hr rfl h.g__law_big h.F__law_big.kp (b__law_big h) pass0 (ad_cons (ed_var (pv 0)) (ad_cons (ed_var (pv 4)) (ad_nil))))) (ad_cons (ed_bin op_pow sr_pow (ed_int) (ed_int)) (ad_nil)))))) (bd_nil))
    (bd_one (sd_ret (ed_cb (call_minI rfl) sc_min rfl h.b_min rfl (ad_cons (ed_cb (call_maxI rfl) sc_max rfl h.b_max rfl (ad_cons (ed_int) (ad_cons (ed_bin (k_add K rfl) sr_add (ed_var (pv 4)) (ed_ix (k_ix K rfl) sr_ix (ed_lst (ad_cons (ed_int) (ad_cons (ed_int) (ad_cons (ed_neg (ed_int)) (ad_nil))))) (ed_bin op_sub sr_sub (ed_var (pv 3)) (ed_int)))) (ad_nil)))) (ad_cons (ed_bin op_pow sr_pow (ed_int) (ed_int)) (ad_nil))))))))), body__law_some_many⟩
def N__law_judged : List Str := ["_law_asked", "_law_paper", "_law_due", "_law_told"]
theorem sc__law_judged : FnScope N__law_judged ["_law_asked", "_law_paper", "_law_due"] (defScope (top 45)) := ⟨rfl, rfl, rfl, by decide +kernel, rfl, by decide +kernel, by decide +kernel⟩
theorem b__law_judged (h : Hd K w mg) : Binds K h.fd__law_judged ["_law_asked", "_law_paper", "_law_due"] [] := h.F__law_judged.bindsN fun _ _ _ _ _ _ us hl => match us, hl with | [_, _, _], _ => rfl
theorem ok__law_judged (h : Hd K w mg) : FnOk P w K mg base CX0 6 h.f__law_judged h.fd__law_judged ["_law_asked", "_law_paper", "_law_due"] (spOf K sp_law_judged) :=
  fn_ok (N := N__law_judged) h.F__law_judged sc__law_judged len__law_judged fun cdv A outer s H E hr => ⟨_, T__law_judged, bd_cons (sd_set (i := 3) sc__law_judged.nd rfl (Or.inl rfl) (ed_callK K rfl (k := 5) ((ok_accepts h).mono (by decide)) hr rfl h.g_accepts h.F_accepts.kp (b_accepts h) pass0 (ad_cons (ed_var (pv 0)) (ad_cons (ed_var (pv 1)) (ad_nil)))))
    (bd_one (sd_ret (ed_and (ed_cb (k_isi K rfl) sc_isi rfl h.b_isinstance rfl (ad_cons (ed_var (pv 3)) (ad_cons (ed_ty rfl h.b_bool rfl) (ad_nil)))) (ed_one (ed_cmp (k_eq K rfl hr.units) sr_eq (ed_var (pv 3)) (ed_var (pv 2)) (nomark _)))))), body__law_judged⟩
def N__law_is_fewest : List Str := ["_law_ways_here", "_law_many", "_law_deep", "_law_value", "_law_most_here", "_law_less"]
theorem sc__law_is_fewest : FnScope N__law_is_fewest ["_law_ways_here", "_law_many", "_law_deep"] (defScope (top 46)) := ⟨rfl, rfl, rfl, by decide +kernel, rfl, by decide +kernel, by decide +kernel⟩
theorem b__law_is_fewest (h : Hd K w mg) : Binds K h.fd__law_is_fewest ["_law_ways_here", "_law_many", "_law_deep"] [] := h.F__law_is_fewest.bindsN fun _ _ _ _ _ _ us hl => match us, hl with | [_, _, _], _ => rfl
theorem ok__law_is_fewest (h : Hd K w mg) : FnOk P w K mg base CX0 3 h.f__law_is_fewest h.fd__law_is_fewest ["_law_ways_here", "_law_many", "_law_deep"] (spOf K sp_law_is_fewest) :=
  fn_ok (N := N__law_is_fewest) h.F__law_is_fewest sc__law_is_fewest len__law_is_fewest fun cdv A outer s H E hr => ⟨_, T__law_is_fewest, bd_cons (sd_for PassesOwn.never rfl (id_listK K rfl (ed_lst (ad_cons (ed_var (pv 1)) (ad_cons (ed_var (pv 2)) (ad_nil))))) (gd_name (i := 3) sc__law_is_fewest.nd rfl (Or.inl rfl)) (bd_one (sd_if (td_w (wd_or (td_not (td_val (ed_cb (k_isi K rfl) sc_isi rfl h.b_isinstance rfl (ad_cons (ed_var (pv 3)) (ad_cons (ed_ty rfl h.b_int rfl) (ad_nil)))))) (wd_or1 (td_val (ed_cb (k_isi K rfl) sc_isi rfl h.b_isinstance rfl (ad_cons (ed_var (pv 3)) (ad_cons (ed_ty rfl h.b_bool rfl) (ad_nil)))))))) (bd_one (sd_ret (ed_bl))) (bd_nil))))
    (bd_cons (sd_if (td_w (wd_or (td_cmp op_lt sr_lt (ed_var (pv 1)) (ed_int) (nomark _)) (wd_or (td_cmp op_gt sr_gt (ed_var (pv 1)) (ed_bin op_pow sr_pow (ed_int) (ed_int)) (nomark _)) (wd_or (td_cmp op_lt sr_lt (ed_var (pv 2)) (ed_int) (nomark _)) (wd_or1 (td_cmp op_gt sr_gt (ed_var (pv 2)) (ed_int) (nomark _))))))) (bd_one (sd_ret (ed_bl))) (bd_nil))
    (bd_cons (sd_set (i := 4) sc__law_is_fewest.nd rfl (Or.inl rfl) (ed_callK K rfl (k := 2) ((ok__law_most h).mono (by decide)) hr rfl h.g__law_most h.F__law_most.kp (b__law_most h) pass0 (ad_cons (ed_var (pv 0)) (ad_cons (ed_var (pv 2)) (ad_nil)))))
    (bd_cons (sd_if (td_w (wd_and (td_cmp op_notNone sr_notN (ed_var (pv 4)) (ed_non) (nomark _)) (wd_and1 (td_cmp op_lt sr_lt (ed_var (pv 4)) (ed_var (pv 1)) (nomark _))))) (bd_one (sd_ret (ed_bl))) (bd_nil))
    (bd_cons (sd_set (i := 5) sc__law_is_fewest.nd rfl (Or.inl rfl) (ed_if (td_cmp op_gt sr_gt (ed_var (pv 2)) (ed_int) (nomark _)) (ed_callK K rfl (k := 2) ((ok__law_most h).mono (by decide)) hr rfl h.g__law_most h.F__law_most.kp (b__law_most h) pass0 (ad_cons (ed_var (pv 0)) (ad_cons (ed_bin op_sub sr_sub (ed_var (pv 2)) (ed_int)) (ad_nil)))) (ed_int)))
    (bd_one (sd_ret (ed_and (ed_cmp op_notNone sr_notN (ed_var (pv 5)) (ed_non) (nomark _)) (ed_one (ed_cmp op_lt sr_lt (ed_var (pv 5)) (ed_var (pv 1)) (nomark _)))))))))), body__law_is_fewest⟩
def N__law_right : List Str := ["_law_purse_here", "_law_ways_here", "_law_least", "_law_deeps", "_law_deep", "_law_value", "_law_other", "_law_small", "_law_number", "_law_line_here", "_law_many", "_law_others", "_law_due", "_law_step"]
theorem sc__law_right : FnScope N__law_right ["_law_purse_here"] (defScope (top 47)) := ⟨rfl, rfl, rfl, by decide +kernel, rfl, by decide +kernel, by decide +kernel⟩
theorem b__law_right (h : Hd K w mg) : Binds K h.fd__law_right ["_law_purse_here"] [] := h.F__law_right.bindsN fun _ _ _ _ _ _ us hl => match us, hl with | [_], _ => rfl
theorem ok__law_right (h : Hd K w mg) : FnOk P w K mg base CX0 7 h.f__law_right h.fd__law_right ["_law_purse_here"] (spOf K sp_law_right) :=
  fn_ok (N := N__law_right) h.F__law_right sc__law_right len__law_right fun cdv A outer s H E hr => ⟨_, T__law_right, bd_cons (sd_set (i := 1) sc__law_right.nd rfl (Or.inl rfl) (ed_callK K rfl (k := 6) ((ok__law_ways h).mono (by decide)) hr rfl h.g__law_ways h.F__law_ways.kp (b__law_ways h) pass0 (ad_cons (ed_callK K rfl (k := 6) ((ok__law_take h).mono (by decide)) hr rfl h.g__law_take h.F__law_take.kp (b__law_take h) pass0 (ad_cons (ed_var (pv 0)) (ad_cons (ed_int) (ad_nil)))) (ad_nil))))
    (bd_cons (sd_par (i := 9) (j := 10) rfl sc__law_right.nd rfl rfl (by decide) rfl rfl (ad_cons (ed_callK K rfl (k := 6) ((ok__law_line h).mono (by decide)) hr rfl h.g__law_line h.F__law_line.kp (b__law_line h) pass0 (ad_cons (ed_var (pv 1)) (ad_nil))) (ad_cons (ed_callK K rfl (k := 6) ((ok__law_some_many h).mono (by decide)) hr rfl h.g__law_some_many h.F__law_some_many.kp (b__law_some_many h) pass0 (ad_cons (ed_var (pv 0)) (ad_cons (ed_var (pv 1)) (ad_nil)))) (ad_nil))) rfl)
    (bd_cons (sd_set (i := 2) sc__law_right.nd rfl (Or.inr rfl) (ed_callK K rfl (k := 6) ((ok__law_fewest h).mono (by decide)) hr rfl h.g__law_fewest h.F__law_fewest.kp (b__law_fewest h) pass0 (ad_cons (ed_var (pv 1)) (ad_cons (ed_var (pv 10)) (ad_nil)))))
    (bd_cons (sd_set (i := 3) sc__law_right.nd rfl (Or.inl rfl) (ed_bin (k_add K rfl) sr_add (ed_lc (own := [("_law_step", 13)]) (g := gName 13)  rfl sc__law_right.nd (id_range2 rfl h.b_range (ad_cons (ed_neg (ed_int)) (ad_cons (ed_int) (ad_nil)))) (blkOk_by (N := N__law_right) (sc := defScope (top 47)) (by decide +kernel)) (go_name) (fun _ _ _ _ _ => gd_name (i := 13) sc__law_right.nd rfl (Or.inl rfl)) (fun _ _ _ _ _ => ptd_nil) (fun _ _ _ _ _ => ed_bin (k_add K rfl) sr_add (ed_var (pv 2)) (ed_var (pv 13)))) (ed_lst (ad_cons (ed_int) (ad_cons (ed_callK K rfl (k := 6) ((ok__law_take h).mono (by decide)) hr rfl h.g__law_take h.F__law_take.kp (b__law_take h) pass0 (ad_cons (ed_var (pv 0)) (ad_cons (ed_int) (ad_nil)))) (ad_cons (ed_bin op_pow sr_pow (ed_int) (ed_int)) (ad_nil)))))))
    (bd_cons (sd_for PassesOwn.never rfl (id_listK K rfl (ed_bin (k_add K rfl) sr_add (ed_var (pv 3)) (ed_lst (ad_cons (ed_non) (ad_cons (ed_bl) (ad_cons (ed_bl) (ad_cons (ed_ct call_strI sc_strW rfl h.b_str rfl (ad_cons (ed_var (pv 2)) (ad_nil))) (ad_cons (ed_tup (ad_cons (ed_var (pv 2)) (ad_nil))) (ad_cons (ed_lst (ad_cons (ed_var (pv 2)) (ad_nil))) (ad_nil)))))))))) (gd_name (i := 4) sc__law_right.nd rfl (Or.inl rfl)) (bd_one (sd_if (td_not (td_val (ed_callK K rfl (k := 6) ((ok__law_judged h).mono (by decide)) hr rfl h.g__law_judged h.F__law_judged.kp (b__law_judged h) pass0 (ad_cons (ed_tup (ad_cons (ed_str) (ad_cons (ed_var (pv 9)) (ad_cons (ed_var (pv 10)) (ad_cons (ed_var (pv 4)) (ad_nil)))))) (ad_cons (ed_non) (ad_cons (ed_callK K rfl (k := 6) ((ok__law_is_fewest h).mono (by decide)) hr rfl h.g__law_is_fewest h.F__law_is_fewest.kp (b__law_is_fewest h) pass0 (ad_cons (ed_var (pv 1)) (ad_cons (ed_var (pv 10)) (ad_cons (ed_var (pv 4)) (ad_nil))))) (ad_nil))))))) (bd_one (sd_ret (ed_bl))) (bd_nil))))
    (bd_cons (sd_for PassesOwn.never rfl (id_listK K rfl (ed_lst (ad_cons (ed_int) (ad_cons (ed_bl) (ad_cons (ed_bl) (ad_cons (ed_tup (ad_nil)) (ad_cons (ed_str) (ad_cons (ed_var (pv 2)) (ad_cons (ed_var (pv 10)) (ad_cons (ed_str) (ad_cons (ed_lst (ad_nil)) (ad_cons (ed_tup (ad_cons (ed_non) (ad_nil))) (ad_nil))))))))))))) (gd_name (i := 5) sc__law_right.nd rfl (Or.inl rfl)) (bd_one (sd_if (td_not (td_val (ed_callK K rfl (k := 6) ((ok__law_judged h).mono (by decide)) hr rfl h.g__law_judged h.F__law_judged.kp (b__law_judged h) pass0 (ad_cons (ed_tup (ad_cons (ed_str) (ad_cons (ed_var (pv 9)) (ad_cons (ed_var (pv 10)) (ad_cons (ed_var (pv 2)) (ad_nil)))))) (ad_cons (ed_var (pv 5)) (ad_cons (ed_bl) (ad_nil))))))) (bd_one (sd_ret (ed_bl))) (bd_nil))))
    (bd_cons (sd_for PassesOwn.never rfl (id_listK K rfl (ed_lst (ad_cons (ed_int) (ad_cons (ed_neg (ed_var (pv 10))) (ad_cons (ed_bin (k_add K rfl) sr_add (ed_var (pv 10)) (ed_int)) (ad_cons (ed_bin op_pow sr_pow (ed_int) (ed_int)) (ad_cons (ed_bin (k_add K rfl) sr_add (ed_bin op_pow sr_pow (ed_int) (ed_int)) (ed_int)) (ad_cons (ed_bin op_pow sr_pow (ed_int) (ed_int)) (ad_cons (ed_bl) (ad_cons (ed_non) (ad_cons (ed_ct call_strI sc_strW rfl h.b_str rfl (ad_cons (ed_var (pv 10)) (ad_nil))) (ad_cons (ed_tup (ad_cons (ed_var (pv 10)) (ad_nil))) (ad_cons (ed_lst (ad_cons (ed_var (pv 10)) (ad_nil))) (ad_cons (ed_dic0) (ad_nil))))))))))))))) (gd_name (i := 6) sc__law_right.nd rfl (Or.inl rfl)) (bd_one (sd_if (td_not (td_val (ed_callK K rfl (k := 6) ((ok__law_judged h).mono (by decide)) hr rfl h.g__law_judged h.F__law_judged.kp (b__law_judged h) pass0 (ad_cons (ed_tup (ad_cons (ed_str) (ad_cons (ed_var (pv 9)) (ad_cons (ed_var (pv 6)) (ad_cons (ed_var (pv 2)) (ad_nil)))))) (ad_cons (ed_non) (ad_cons (ed_callK K rfl (k := 6) ((ok__law_is_fewest h).mono (by decide)) hr rfl h.g__law_is_fewest h.F__law_is_fewest.kp (b__law_is_fewest h) pass0 (ad_cons (ed_var (pv 1)) (ad_cons (ed_var (pv 6)) (ad_cons (ed_var (pv 2)) (ad_nil))))) (ad_nil))))))) (bd_one (sd_ret (ed_bl))) (bd_nil))))
    (bd_cons (sd_set (i := 7) sc__law_right.nd rfl (Or.inl rfl) (ed_bin (k_add K rfl) sr_add (ed_int) (ed_callK K rfl (k := 6) ((ok__law_take h).mono (by decide)) hr rfl h.g__law_take h.F__law_take.kp (b__law_take h) pass0 (ad_cons (ed_var (pv 0)) (ad_cons (ed_int) (ad_nil))))))
    (bd_cons (sd_for PassesOwn.never rfl (id_range1 rfl h.b_range (ad_cons (ed_int) (ad_nil))) (gd_name (i := 8) sc__law_right.nd rfl (Or.inl rfl)) (bd_cons (sd_set (i := 11) sc__law_right.nd rfl (Or.inl rfl) (ed_callK K rfl (k := 6) ((ok__law_ways h).mono (by decide)) hr rfl h.g__law_ways h.F__law_ways.kp (b__law_ways h) pass0 (ad_cons (ed_var (pv 8)) (ad_nil))))
    (bd_cons (sd_set (i := 4) sc__law_right.nd rfl (Or.inl rfl) (ed_callK K rfl (k := 6) ((ok__law_fewest h).mono (by decide)) hr rfl h.g__law_fewest h.F__law_fewest.kp (b__law_fewest h) pass0 (ad_cons (ed_var (pv 11)) (ad_cons (ed_var (pv 7)) (ad_nil)))))
    (bd_one (sd_for PassesOwn.never rfl (id_listK K rfl (ed_lst (ad_cons (ed_var (pv 4)) (ad_cons (ed_bin (k_add K rfl) sr_add (ed_var (pv 4)) (ed_int)) (ad_cons (ed_bin op_sub sr_sub (ed_var (pv 4)) (ed_int)) (ad_nil)))))) (gd_name (i := 5) sc__law_right.nd rfl (Or.inl rfl)) (bd_cons (sd_set (i := 12) sc__law_right.nd rfl (Or.inl rfl) (ed_callK K rfl (k := 6) ((ok__law_is_fewest h).mono (by decide)) hr rfl h.g__law_is_fewest h.F__law_is_fewest.kp (b__law_is_fewest h) pass0 (ad_cons (ed_var (pv 11)) (ad_cons (ed_var (pv 7)) (ad_cons (ed_var (pv 5)) (ad_nil))))))
    (bd_one (sd_if (td_w (wd_or (td_cmp (k_ne K rfl hr.units) sr_ne (ed_var (pv 12)) (ed_cmp (k_eq K rfl hr.units) sr_eq (ed_var (pv 5)) (ed_var (pv 4)) (nomark _)) (nomark _)) (wd_or1 (td_not (td_val (ed_callK K rfl (k := 6) ((ok__law_judged h).mono (by decide)) hr rfl h.g__law_judged h.F__law_judged.kp (b__law_judged h) pass0 (ad_cons (ed_tup (ad_cons (ed_str) (ad_cons (ed_callK K rfl (k := 6) ((ok__law_line h).mono (by decide)) hr rfl h.g__law_line h.F__law_line.kp (b__law_line h) pass0 (ad_cons (ed_var (pv 11)) (ad_nil))) (ad_cons (ed_var (pv 7)) (ad_cons (ed_var (pv 5)) (ad_nil)))))) (ad_cons (ed_non) (ad_cons (ed_var (pv 12)) (ad_nil)))))))))) (bd_one (sd_ret (ed_bl))) (bd_nil)))))))))
    (bd_one (sd_ret (ed_bl))))))))))), body__law_right⟩
def N_law : List Str := ["_law_script", "_law_k"]
theorem sc_law : FnScope N_law ["_law_script"] (defScope (top 48)) := ⟨rfl, rfl, rfl, by decide +kernel, rfl, by decide +kernel, by decide +kernel⟩
theorem b_law (h : Hd K w mg) : Binds K h.fd_law ["_law_script"] [] := h.F_law.bindsN fun _ _ _ _ _ _ us hl => match us, hl with | [_], _ => rfl
theorem ok_law (h : Hd K w mg) : FnOk P w K mg base CX0 8 h.f_law h.fd_law ["_law_script"] (spOf K sp_law) :=
  fn_ok (N := N_law) h.F_law sc_law len_law fun cdv A outer s H E hr => ⟨_, T_law, bd_cons (sd_for PassesOwn.never rfl (id_range1 rfl h.b_range (ad_cons (ed_cb (call_maxI rfl) sc_max rfl h.b_max rfl (ad_cons (ed_int) (ad_cons (ed_cb (call_minI rfl) sc_min rfl h.b_min rfl (ad_cons (ed_cb (k_len K rfl) sc_len rfl h.b_len rfl (ad_cons (ed_var (pv 0)) (ad_nil))) (ad_cons (ed_int) (ad_nil)))) (ad_nil)))) (ad_nil))) (gd_name (i := 1) sc_law.nd rfl (Or.inl rfl)) (bd_one (sd_if (td_not (td_val (ed_callK K rfl (k := 7) ((ok__law_right h).mono (by decide)) hr rfl h.g__law_right h.F__law_right.kp (b__law_right h) pass0 (ad_cons (ed_callK K rfl (k := 7) ((ok__law_purse h).mono (by decide)) hr rfl h.g__law_purse h.F__law_purse.kp (b__law_purse h) pass0 (ad_cons (ed_var (pv 0)) (ad_cons (ed_var (pv 1)) (ad_nil)))) (ad_nil))))) (bd_one (sd_ret (ed_bl))) (bd_nil))))
    (bd_one (sd_ret (ed_bl))), body_law⟩
end
theorem mkHd {w : World} {K : PySem.W.Frag} {h h' : Heap} {mg : Str → Option Value} (X : K.In h) (G : h.Ns mainGlobals mg) (c : He.SaysX fa fn ts [] ex w h' K) : ∃ _ : Hd K w mg, True := by
  obtain ⟨fd_is_integer, F_is_integer⟩ := c.t.d.def_ 0 (d := dd "is_integer" 7) rfl
  obtain ⟨fd_is_number, F_is_number⟩ := c.t.d.def_ 1 (d := dd "is_number" 8) rfl
  obtain ⟨fd_is_rising, F_is_rising⟩ := c.t.d.def_ 2 (d := dd "is_rising" 10) rfl
  obtain ⟨fd_ways_in, F_ways_in⟩ := c.t.d.def_ 3 (d := dd "ways_in" 11) rfl
  obtain ⟨fd_chosen, F_chosen⟩ := c.t.d.def_ 4 (d := dd "chosen" 18) rfl
  obtain ⟨fd_powered, F_powered⟩ := c.t.d.def_ 5 (d := dd "powered" 19) rfl
  obtain ⟨fd_split_of, F_split_of⟩ := c.t.d.def_ 6 (d := dd "split_of" 20) rfl
  obtain ⟨fd_most_for, F_most_for⟩ := c.t.d.def_ 7 (d := dd "most_for" 21) rfl
  obtain ⟨fd_fewest_for, F_fewest_for⟩ := c.t.d.def_ 8 (d := dd "fewest_for" 22) rfl
  obtain ⟨fd_shows_fewest, F_shows_fewest⟩ := c.t.d.def_ 9 (d := dd "shows_fewest" 25) rfl
  obtain ⟨fd_accepts, F_accepts⟩ := c.t.d.def_ 10 (d := dd "accepts" 34) rfl
  obtain ⟨fd__law_take, F__law_take⟩ := c.t.d.def_ 11 (d := dd "_law_take" 37) rfl
  obtain ⟨fd__law_purse, F__law_purse⟩ := c.t.d.def_ 12 (d := dd "_law_purse" 36) rfl
  obtain ⟨fd__law_big, F__law_big⟩ := c.t.d.def_ 13 (d := dd "_law_big" 38) rfl
  obtain ⟨fd__law_ways, F__law_ways⟩ := c.t.d.def_ 14 (d := dd "_law_ways" 39) rfl
  obtain ⟨fd__law_line, F__law_line⟩ := c.t.d.def_ 15 (d := dd "_law_line" 40) rfl
  obtain ⟨fd__law_choose, F__law_choose⟩ := c.t.d.def_ 16 (d := dd "_law_choose" 41) rfl
  obtain ⟨fd__law_most, F__law_most⟩ := c.t.d.def_ 17 (d := dd "_law_most" 42) rfl
  obtain ⟨fd__law_fewest, F__law_fewest⟩ := c.t.d.def_ 18 (d := dd "_law_fewest" 43) rfl
  obtain ⟨fd__law_some_many, F__law_some_many⟩ := c.t.d.def_ 19 (d := dd "_law_some_many" 44) rfl
  obtain ⟨fd__law_judged, F__law_judged⟩ := c.t.d.def_ 20 (d := dd "_law_judged" 45) rfl
  obtain ⟨fd__law_is_fewest, F__law_is_fewest⟩ := c.t.d.def_ 21 (d := dd "_law_is_fewest" 46) rfl
  obtain ⟨fd__law_right, F__law_right⟩ := c.t.d.def_ 22 (d := dd "_law_right" 47) rfl
  obtain ⟨fd_law, F_law⟩ := c.t.d.def_ 23 (d := dd "law" 48) rfl
  obtain ⟨m1, m2⟩ := He.ba c.more
  have tw := fun H => rep_strs (xs := WAYSZ) (He.tupB_ok m1 H) (by decide) (by decide +kernel)
  have ts1 := wdic_of SIZESV (tab_at c.t 0 (t := ((fun K => He.ga K "SIZES"), SIZESV.map (·.1))) rfl) m2
  exact ⟨{ f_is_integer := He.ga K "is_integer", fd_is_integer := fd_is_integer, F_is_integer := F_is_integer, g_is_integer := He.glo_ok X G (c.t.d.fact 0 (f := .glo "is_integer") rfl), f_is_number := He.ga K "is_number", fd_is_number := fd_is_number, F_is_number := F_is_number, g_is_number := He.glo_ok X G (c.t.d.fact 1 (f := .glo "is_number") rfl), f_is_rising := He.ga K "is_rising", fd_is_rising := fd_is_rising, F_is_rising := F_is_rising, g_is_rising := He.glo_ok X G (c.t.d.fact 2 (f := .glo "is_rising") rfl), f_ways_in := He.ga K "ways_in", fd_ways_in := fd_ways_in, F_ways_in := F_ways_in, g_ways_in := He.glo_ok X G (c.t.d.fact 3 (f := .glo "ways_in") rfl), f_chosen := He.ga K "chosen", fd_chosen := fd_chosen, F_chosen := F_chosen, g_chosen := He.glo_ok X G (c.t.d.fact 4 (f := .glo "chosen") rfl), f_powered := He.ga K "powered", fd_powered := fd_powered, F_powered := F_powered, g_powered := He.glo_ok X G (c.t.d.fact 5 (f := .glo "powered") rfl), f_split_of := He.ga K "split_of", fd_split_of := fd_split_of, F_split_of := F_split_of, g_split_of := He.glo_ok X G (c.t.d.fact 6 (f := .glo "split_of") rfl), f_most_for := He.ga K "most_for", fd_most_for := fd_most_for, F_most_for := F_most_for, g_most_for := He.glo_ok X G (c.t.d.fact 7 (f := .glo "most_for") rfl), f_fewest_for := He.ga K "fewest_for", fd_fewest_for := fd_fewest_for, F_fewest_for := F_fewest_for, g_fewest_for := He.glo_ok X G (c.t.d.fact 8 (f := .glo "fewest_for") rfl), f_shows_fewest := He.ga K "shows_fewest", fd_shows_fewest := fd_shows_fewest, F_shows_fewest := F_shows_fewest, g_shows_fewest := He.glo_ok X G (c.t.d.fact 9 (f := .glo "shows_fewest") rfl), f_accepts := He.ga K "accepts", fd_accepts := fd_accepts, F_accepts := F_accepts, g_accepts := He.glo_ok X G (c.t.d.fact 10 (f := .glo "accepts") rfl), f__law_take := He.ga K "_law_take", fd__law_take := fd__law_take, F__law_take := F__law_take, g__law_take := He.glo_ok X G (c.t.d.fact 11 (f := .glo "_law_take") rfl), f__law_purse := He.ga K "_law_purse", fd__law_purse := fd__law_purse, F__law_purse := F__law_purse, g__law_purse := He.glo_ok X G (c.t.d.fact 12 (f := .glo "_law_purse") rfl), f__law_big := He.ga K "_law_big", fd__law_big := fd__law_big, F__law_big := F__law_big, g__law_big := He.glo_ok X G (c.t.d.fact 13 (f := .glo "_law_big") rfl), f__law_ways := He.ga K "_law_ways", fd__law_ways := fd__law_ways, F__law_ways := F__law_ways, g__law_ways := He.glo_ok X G (c.t.d.fact 14 (f := .glo "_law_ways") rfl), f__law_line := He.ga K "_law_line", fd__law_line := fd__law_line, F__law_line := F__law_line, g__law_line := He.glo_ok X G (c.t.d.fact 15 (f := .glo "_law_line") rfl), f__law_choose := He.ga K "_law_choose", fd__law_choose := fd__law_choose, F__law_choose := F__law_choose, g__law_choose := He.glo_ok X G (c.t.d.fact 16 (f := .glo "_law_choose") rfl), f__law_most := He.ga K "_law_most", fd__law_most := fd__law_most, F__law_most := F__law_most, g__law_most := He.glo_ok X G (c.t.d.fact 17 (f := .glo "_law_most") rfl), f__law_fewest := He.ga K "_law_fewest", fd__law_fewest := fd__law_fewest, F__law_fewest := F__law_fewest, g__law_fewest := He.glo_ok X G (c.t.d.fact 18 (f := .glo "_law_fewest") rfl), f__law_some_many := He.ga K "_law_some_many", fd__law_some_many := fd__law_some_many, F__law_some_many := F__law_some_many, g__law_some_many := He.glo_ok X G (c.t.d.fact 19 (f := .glo "_law_some_many") rfl), f__law_judged := He.ga K "_law_judged", fd__law_judged := fd__law_judged, F__law_judged := F__law_judged, g__law_judged := He.glo_ok X G (c.t.d.fact 20 (f := .glo "_law_judged") rfl), f__law_is_fewest := He.ga K "_law_is_fewest", fd__law_is_fewest := fd__law_is_fewest, F__law_is_fewest := F__law_is_fewest, g__law_is_fewest := He.glo_ok X G (c.t.d.fact 21 (f := .glo "_law_is_fewest") rfl), f__law_right := He.ga K "_law_right", fd__law_right := fd__law_right, F__law_right := F__law_right, g__law_right := He.glo_ok X G (c.t.d.fact 22 (f := .glo "_law_right") rfl), f_law := He.ga K "law", fd_law := fd_law, F_law := F_law, g_law := He.glo_ok X G (c.t.d.fact 23 (f := .glo "law") rfl), b_abs := He.free_ok X G (c.t.d.fact 24 (f := .free "abs") rfl), b_all := He.free_ok X G (c.t.d.fact 25 (f := .free "all") rfl), b_bool := He.free_ok X G (c.t.d.fact 26 (f := .free "bool") rfl), b_int := He.free_ok X G (c.t.d.fact 27 (f := .free "int") rfl), b_isinstance := He.free_ok X G (c.t.d.fact 28 (f := .free "isinstance") rfl), b_len := He.free_ok X G (c.t.d.fact 29 (f := .free "len") rfl), b_max := He.free_ok X G (c.t.d.fact 30 (f := .free "max") rfl), b_min := He.free_ok X G (c.t.d.fact 31 (f := .free "min") rfl), b_range := He.free_ok X G (c.t.d.fact 32 (f := .free "range") rfl), b_str := He.free_ok X G (c.t.d.fact 33 (f := .free "str") rfl), b_tuple := He.free_ok X G (c.t.d.fact 34 (f := .free "tuple") rfl), c_MOST_ASKED := He.int_ok X G (c.t.d.fact 35 (f := .int "MOST_ASKED" 10000000000000000000000000000000000000000) rfl), t_WAYS := He.ga K "WAYS", c_WAYS := ⟨He.glo_ok X G (c.t.d.fact 36 (f := .glo "WAYS") rfl), tw⟩, t_SIZES := He.ga K "SIZES", a_SIZES := He.glo_ok X G (c.t.d.fact 37 (f := .glo "SIZES") rfl), c_SIZES := ts1 }, trivial⟩
end DL
open PySem PySem.W PySem.Calls PyProof.Rows in
theorem PySem.Challenge.cw_fourways_k53_fewest_trials_judged_holds : PySem.Challenge.rw_fourways_k53_fewest_trials_judged.Holds := by
  w_on; o_law
  refine HandSHeadRun.head_any (r := OpenLaw.row PySem.Challenge.rw_fourways_k53_fewest_trials_judged) (q := view (OpenLaw.row PySem.Challenge.rw_fourways_k53_fewest_trials_judged).prog [48]) (H := DL.hk) (ob := DL.ob) (M := 1500) (loose := DL.loose) (d := HandSHeadRun.topDef (OpenLaw.row PySem.Challenge.rw_fourways_k53_fewest_trials_judged).prog 48) (kwd := []) DL.ob_eq
    (by kernel_rfl) (fun s => by kernel_rfl) DL.run (by kernel_rfl) (by kernel_rfl) (by kernel_rfl) (by rfl) (by first | assumption | decide +kernel) (by decide +kernel) ⟨rfl, rfl, rfl, rfl, rfl, by decide +kernel⟩ ?hw ?hc
  case hw => w_witness2
  case hc =>
    refine DL.walk_ofEB (l := PySem.Challenge.rw_fourways_k53_fewest_trials_judged) (n := 63) (k := 8) (x := "_law_script") (CX := L2.CX0) rfl (by decide) (by kernel_rfl) ⟨rfl, by decide, by decide⟩ ?F (fun _ _ _ _ z => z)
    intro w mg fa h Y G hmg0
    obtain ⟨K, KX, c⟩ := Y
    have hmg : mg ("law" : PySem.Str) = some (.ref fa) := by
      have e : (HandSHeadRun.topDef (OpenLaw.row PySem.Challenge.rw_fourways_k53_fewest_trials_judged).prog 48).name = ("law" : PySem.Str) := by kernel_rfl
      rw [← e]
      exact hmg0
    obtain ⟨hd, _⟩ := DL.mkHd KX G c
    have e := hmg.symm.trans hd.g_law
    cases e
    refine ⟨K, hd.fd_law, DL.spOf K DL.sp_law, KX, ?_, fun H a ns hl hb hO hS => DL.law_sp hS hl ⟨ns, rfl, hl, hb, fun _ => rfl⟩, fun base _ _ => DL.ok_law hd⟩
    have b := L2.FunD.bindsA (ps := ["_law_script"]) hd.F_law fun _ _ _ _ _ _ us hl => match us, hl with | [_], _ => rfl
    exact fun s v => b s [v] rfl
