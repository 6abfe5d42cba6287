import PyProof.Rows.All
import Wide.All
import OpenK.AllK
import Wide.FinOn
import HandS.ForMost
import HandS.IsInst
import HandS.TupAny
import HandS.FStr
import HandS.Wide
import HandS.Defaults
import HandS.Small
import HandS.Style
import HandS.WrittenGet
import HandS.HeadHook4
import HandS.EndBits
import HandS.HeadEnd
import HandS.Head0
import HandS.Head1
import HandS.Head2
import HandS.HeadHook1
import HandS.HeadHook2
import HandS.HeadHook3
import KE.GoesMore
import KE.GoesEnum
import HandS.Iter
import HandS.SortOrd
import HandS.SortInts
import PyProof.TupleOfSeq
import PyProof.Rows.SortStr
import PyProof.Rows.SortKeyStr
import PySem.Challenge.RW_fourways_k56_faults_judged
set_option Elab.async false
set_option linter.all false
set_option maxRecDepth 100000
set_option maxHeartbeats 0
set_option autoImplicit false
namespace DL
open PySem PySem.Spec PyProof.Rows L2
/-! ## values as data -/
inductive D where
  | non | bl (b : Bool) | int (i : Int) | str (s : Str) | ref (a : Addr) | ty (n : String)
  | tup (xs : List D) | lst (xs : List D) | fzl (xs : List D) | ins (C : Addr) (fs : List (Str × D)) | dct (kvs : List (Key × D))
def okS (x : Str) : Bool := PyData.strOk x && decide (x.length ≤ 16777216)
def Ext (H H' : Hp) : Prop := ∀ a o, H a = some o → H' a = some o
theorem Ext.refl (H : Hp) : Ext H H := fun _ _ h => h
theorem Ext.trans {H H1 H2 : Hp} (a : Ext H H1) (b : Ext H1 H2) : Ext H H2 := fun x o h => b x o (a x o h)
theorem Ext.new {H : Hp} {p : Addr} {o : HO} (h : H p = none) : Ext H (upd H p o) := fun a u e => by
  rw [upd_ne (ne_of_none e h)]
  exact e
mutual
inductive Rep (K : PySem.W.Frag) (H : Hp) : V → D → Prop where
  | non : Rep K H .non .non
  | bl (b : Bool) : Rep K H (.bl b) (.bl b)
  | int (i : Int) : Rep K H (.int i) (.int i)
  | str (x : Str) (h : okS x = true) : Rep K H (.str x) (.str x)
  | ref (a : Addr) : Rep K H (.ref a) (.ref a)
  | ty (n : String) : Rep K H (.ty n) (.ty n)
  | tup {a : Addr} {vs : List V} {ds : List D} (h : SqT K H a vs) (l : vs.length ≤ 16777216) (r : Reps K H vs ds) : Rep K H (.ref a) (.tup ds)
  | lst {a : Addr} {vs : List V} {ds : List D} (h : H a = some (.lst vs)) (l : vs.length ≤ 16777216) (r : Reps K H vs ds) : Rep K H (.ref a) (.lst ds)
  | fzl {a : Addr} {vs : List V} {ds : List D} (h : SqL K H a vs) (l : vs.length ≤ 16777216) (r : Reps K H vs ds) : Rep K H (.ref a) (.fzl ds)
  | ins {a C dx : Addr} {fs : List (Str × V)} {ds : List (Str × D)} (h : H a = some (.ins C dx fs)) (h2 : H dx = some (.own a)) (r : RepF K H fs ds) : Rep K H (.ref a) (.ins C ds)
  | dct {a : Addr} {kvs : List (Key × V)} {ds : List (Key × D)} (h : H a = some (.dK kvs)) (r : RepK K H kvs ds) : Rep K H (.ref a) (.dct ds)
inductive Reps (K : PySem.W.Frag) (H : Hp) : List V → List D → Prop where
  | nil : Reps K H [] []
  | cons {v : V} {d : D} {vs : List V} {ds : List D} (h : Rep K H v d) (t : Reps K H vs ds) : Reps K H (v :: vs) (d :: ds)
inductive RepF (K : PySem.W.Frag) (H : Hp) : List (Str × V) → List (Str × D) → Prop where
  | nil : RepF K H [] []
  | cons {f : Str} {v : V} {d : D} {vs : List (Str × V)} {ds : List (Str × D)} (h : Rep K H v d) (t : RepF K H vs ds) : RepF K H ((f, v) :: vs) ((f, d) :: ds)
inductive RepK (K : PySem.W.Frag) (H : Hp) : List (Key × V) → List (Key × D) → Prop where
  | nil : RepK K H [] []
  | cons {f : Key} {v : V} {d : D} {vs : List (Key × V)} {ds : List (Key × D)} (h : Rep K H v d) (t : RepK K H vs ds) : RepK K H ((f, v) :: vs) ((f, d) :: ds)
end
theorem rd_ext {H H' : Hp} {a : Addr} {u : HO} (e : Ext H H') (h : Rd H a u) : Rd H' a u := by
  rcases h with h | ⟨o, h⟩
  · exact .inl (e a _ h)
  · exact .inr ⟨o, e a _ h⟩
theorem sqT_ext {K : PySem.W.Frag} {H H' : Hp} {a : Addr} {xs : List V} (e : Ext H H') (h : SqT K H a xs) : SqT K H' a xs := by
  rcases h with h | h
  · exact .inl (rd_ext e h)
  · exact .inr h
theorem sqL_ext {K : PySem.W.Frag} {H H' : Hp} {a : Addr} {xs : List V} (e : Ext H H') (h : SqL K H a xs) : SqL K H' a xs := by
  rcases h with h | h
  · exact .inl (rd_ext e h)
  · exact .inr h
section
variable {K : PySem.W.Frag} {H H' : Hp}
mutual
theorem Rep.mono (e : Ext H H') : ∀ {v : V} {d : D}, Rep K H v d → Rep K H' v d
  | _, _, .non => .non
  | _, _, .bl b => .bl b
  | _, _, .int i => .int i
  | _, _, .str x h => .str x h
  | _, _, .ref a => .ref a
  | _, _, .ty n => .ty n
  | _, _, .tup h l r => .tup (sqT_ext e h) l (Reps.mono e r)
  | _, _, .lst h l r => .lst (e _ _ h) l (Reps.mono e r)
  | _, _, .fzl h l r => .fzl (sqL_ext e h) l (Reps.mono e r)
  | _, _, .ins h h2 r => .ins (e _ _ h) (e _ _ h2) (RepF.mono e r)
  | _, _, .dct h r => .dct (e _ _ h) (RepK.mono e r)
theorem Reps.mono (e : Ext H H') : ∀ {v : List V} {d : List D}, Reps K H v d → Reps K H' v d
  | _, _, .nil => .nil
  | _, _, .cons h t => .cons (Rep.mono e h) (Reps.mono e t)
theorem RepF.mono (e : Ext H H') : ∀ {v : List (Str × V)} {d : List (Str × D)}, RepF K H v d → RepF K H' v d
  | _, _, .nil => .nil
  | _, _, .cons h t => .cons (Rep.mono e h) (RepF.mono e t)
theorem RepK.mono (e : Ext H H') : ∀ {v : List (Key × V)} {d : List (Key × D)}, RepK K H v d → RepK K H' v d
  | _, _, .nil => .nil
  | _, _, .cons h t => .cons (Rep.mono e h) (RepK.mono e t)
end
theorem Reps.length : ∀ {vs : List V} {ds : List D}, Reps K H vs ds → vs.length = ds.length
  | _, _, .nil => rfl
  | _, _, .cons _ t => by rw [List.length_cons, List.length_cons, Reps.length t]
theorem Reps.append : ∀ {vs ws : List V} {ds es : List D}, Reps K H vs ds → Reps K H ws es → Reps K H (vs ++ ws) (ds ++ es)
  | _, _, _, _, .nil, s => s
  | _, _, _, _, .cons h t, s => .cons h (Reps.append t s)
theorem Reps.get : ∀ {vs : List V} {ds : List D} {i : Nat} {d : D}, Reps K H vs ds → ds[i]? = some d → ∃ v, vs[i]? = some v ∧ Rep K H v d
  | _, _, _, _, .nil, e => by simp at e
  | _, _, 0, _, .cons h _, e => by simp at e; subst e; exact ⟨_, rfl, h⟩
  | _, _, i + 1, _, .cons _ t, e => by
    obtain ⟨v, h1, h2⟩ := Reps.get (i := i) t (by simpa using e)
    exact ⟨v, by simpa using h1, h2⟩
theorem Reps.get' : ∀ {vs : List V} {ds : List D} {i : Nat} {v : V}, Reps K H vs ds → vs[i]? = some v → ∃ d, ds[i]? = some d ∧ Rep K H v d
  | _, _, _, _, .nil, e => by simp at e
  | _, _, 0, _, .cons h _, e => by simp at e; subst e; exact ⟨_, rfl, h⟩
  | _, _, i + 1, _, .cons _ t, e => by
    obtain ⟨v, h1, h2⟩ := Reps.get' (i := i) t (by simpa using e)
    exact ⟨v, by simpa using h1, h2⟩
theorem Reps.take : ∀ {vs : List V} {ds : List D} (n : Nat), Reps K H vs ds → Reps K H (vs.take n) (ds.take n)
  | _, _, 0, _ => by simpa using Reps.nil
  | _, _, n + 1, .nil => by simpa using Reps.nil
  | _, _, n + 1, .cons h t => by simpa using Reps.cons h (Reps.take n t)
theorem Reps.drop : ∀ {vs : List V} {ds : List D} (n : Nat), Reps K H vs ds → Reps K H (vs.drop n) (ds.drop n)
  | _, _, 0, h => by simpa using h
  | _, _, n + 1, .nil => by simpa using Reps.nil
  | _, _, n + 1, .cons h t => by simpa using Reps.drop n t
theorem Reps.one {v : V} {d : D} (h : Rep K H v d) : Reps K H [v] [d] := .cons h .nil
theorem Reps.ints : ∀ (ns : List Int), Reps K H (ns.map V.int) (ns.map D.int)
  | [] => .nil
  | n :: r => .cons (.int n) (Reps.ints r)
end
/-! ## the state -/
inductive MO where
  | purse
  | lst (ds : List D)
abbrev Mem := Addr → Option MO
def purseB : Nat := 2 ^ 1100000
def MRep (K : PySem.W.Frag) (H Hs : Hp) (a : Addr) : MO → Prop
  | .purse => ∃ x y : Int, H a = some (.lst [.int x, .int y]) ∧ 0 ≤ x ∧ x.toNat < purseB ∧ 0 ≤ y ∧ y < 2305843009213693951
  | .lst ds => ∃ vs, H a = some (.lst vs) ∧ vs.length ≤ 16777216 ∧ Reps K Hs vs ds
inductive Sl where
  | no
  | val (d : D)
  | own (ds : List D)
/-- Hs: what is known and stays; F: what must stay; M: what changes by its own rules; an own slot: a list that no other has -/
structure Sta (K : PySem.W.Frag) (F Hs : Hp) (M : Mem) (σ : L2.St) (H : Hp) (ρ : List Sl) : Prop where
  hs : ∀ a o, Hs a = some o → H a = some o
  fr : ∀ a o, F a = some o → H a = some o
  dj : ∀ a o, F a = some o → Hs a = none
  me : ∀ a m, M a = some m → MRep K H Hs a m ∧ Hs a = none ∧ F a = none
  ln : σ.length = ρ.length
  vl : ∀ (i : Nat) (d : D), ρ[i]? = some (Sl.val d) → ∃ v, σ[i]? = some (some v) ∧ Rep K Hs v d
  ow : ∀ (i : Nat) (ds : List D), ρ[i]? = some (Sl.own ds) → ∃ a vs, σ[i]? = some (some (V.ref a)) ∧ H a = some (.lst vs) ∧ vs.length ≤ 16777216 ∧ Reps K Hs vs ds ∧ Hs a = none ∧ F a = none ∧ M a = none ∧ ∀ (j : Nat) (es : List D), j ≠ i → ρ[j]? = some (Sl.own es) → σ[j]? ≠ some (some (V.ref a))
section
variable {K : PySem.W.Frag} {F Hs Hs' : Hp} {M M' : Mem} {σ : L2.St} {H H' : Hp} {ρ : List Sl}
theorem MRep.mono {a : Addr} {m : MO} (e : Ext Hs Hs') (k : ∀ o, H a = some o → H' a = some o) (h : MRep K H Hs a m) : MRep K H' Hs' a m := by
  cases m with
  | purse =>
    obtain ⟨x, y, h1, h2⟩ := h
    exact ⟨x, y, k _ h1, h2⟩
  | lst ds =>
    obtain ⟨vs, h1, h2, h3⟩ := h
    exact ⟨vs, k _ h1, h2, h3.mono e⟩
theorem MRep.at {a : Addr} {m : MO} (h : MRep K H Hs a m) : ∃ o, H a = some o := by
  cases m with
  | purse => obtain ⟨x, y, h1, h2⟩ := h; exact ⟨_, h1⟩
  | lst ds => obtain ⟨vs, h1, h2, h3⟩ := h; exact ⟨_, h1⟩
theorem none_of_ext {A B : Hp} {a : Addr} (h : ∀ b o, A b = some o → B b = some o) (n : B a = none) : A a = none := by
  cases e : A a with
  | none => rfl
  | some o => rw [h a o e] at n; cases n
theorem Sta.fresh (S : Sta K F Hs M σ H ρ) {p : Addr} (n : H p = none) : Hs p = none ∧ F p = none ∧ M p = none := by
  refine ⟨none_of_ext S.hs n, none_of_ext S.fr n, ?_⟩
  cases e : M p with
  | none => rfl
  | some m =>
    obtain ⟨o, q⟩ := (S.me p m e).1.at
    rw [n] at q; cases q
/-- a new object, known from now on -/
theorem Sta.new (S : Sta K F Hs M σ H ρ) {p : Addr} (n : H p = none) (o : HO) : Sta K F (upd Hs p o) M σ (upd H p o) ρ ∧ Ext Hs (upd Hs p o) := by
  obtain ⟨n1, n2, n3⟩ := S.fresh n
  have x : Ext Hs (upd Hs p o) := Ext.new n1
  have neH : ∀ a u, H a = some u → a ≠ p := fun a u e z => by rw [z, n] at e; cases e
  refine ⟨⟨fun a u e => ?_, fun a u e => ?_, fun a u e => ?_, fun a m e => ?_, S.ln, fun i d e => ?_, fun i ds e => ?_⟩, x⟩
  · by_cases h : a = p
    · subst h; rw [upd_same] at e ⊢; exact e
    · rw [upd_ne h] at e ⊢; exact S.hs a u e
  · have := S.fr a u e
    rw [upd_ne (neH a u this)]; exact this
  · have q := S.fr a u e
    rw [upd_ne (neH a u q)]; exact S.dj a u e
  · obtain ⟨q1, q2, q3⟩ := S.me a m e
    obtain ⟨w, q4⟩ := q1.at
    refine ⟨q1.mono x fun w q => ?_, ?_, q3⟩
    · rw [upd_ne (neH a w q)]; exact q
    · rw [upd_ne (neH a w q4)]; exact q2
  · obtain ⟨v, q1, q2⟩ := S.vl i d e
    exact ⟨v, q1, q2.mono x⟩
  · obtain ⟨a, vs, q1, q2, q3, q4, q5, q6, q7, q8⟩ := S.ow i ds e
    have ne := neH a _ q2
    exact ⟨a, vs, q1, by rw [upd_ne ne]; exact q2, q3, q4.mono x, by rw [upd_ne ne]; exact q5, q6, q7, q8⟩
end
end DL

namespace DL
open PySem PySem.Spec PyProof.Rows L2
/-! ## the judgements over data -/
abbrev TEd := List Sl → Mem → (D → Mem → Prop) → Prop
abbrev TTd := List Sl → Mem → (Bool → Mem → Prop) → Prop
abbrev TAd := List Sl → Mem → (List D → Mem → Prop) → Prop
structure EndsD where
  nx : List Sl → Mem → Prop
  rt : D → Mem → Prop
  bk : List Sl → Mem → Prop := fun _ _ => False
  ct : List Sl → Mem → Prop := fun _ _ => False
abbrev TSd := EndsD → List Sl → Mem → Prop
section
variable (K : PySem.W.Frag)
def KE (F Hs : Hp) (σ : L2.St) (ρ : List Sl) (Q : VK) (Qd : D → Mem → Prop) : Prop :=
  ∀ (v : V) (H' Hs' : Hp) (d : D) (M' : Mem), Ext Hs Hs' → Sta K F Hs' M' σ H' ρ → Rep K Hs' v d → Qd d M' → Q v H'
def KT (F Hs : Hp) (σ : L2.St) (ρ : List Sl) (Q : Bool → Hp → Prop) (Qd : Bool → Mem → Prop) : Prop :=
  ∀ (b : Bool) (H' Hs' : Hp) (M' : Mem), Ext Hs Hs' → Sta K F Hs' M' σ H' ρ → Qd b M' → Q b H'
def KA (F Hs : Hp) (σ : L2.St) (ρ : List Sl) (Q : List V → Hp → Prop) (Qd : List D → Mem → Prop) : Prop :=
  ∀ (vs : List V) (H' Hs' : Hp) (ds : List D) (M' : Mem), Ext Hs Hs' → Sta K F Hs' M' σ H' ρ → Reps K Hs' vs ds → Qd ds M' → Q vs H'
structure KS (F Hs : Hp) (Dh : Ends) (Dd : EndsD) : Prop where
  nx : ∀ (σ' : L2.St) (H' Hs' : Hp) (ρ' : List Sl) (M' : Mem), Ext Hs Hs' → Sta K F Hs' M' σ' H' ρ' → Dd.nx ρ' M' → Dh.nx σ' H'
  rt : ∀ (v : V) (H' Hs' : Hp) (d : D) (M' : Mem), Ext Hs Hs' → Sta K F Hs' M' [] H' [] → Rep K Hs' v d → Dd.rt d M' → Dh.rt v H'
  bk : ∀ (σ' : L2.St) (H' Hs' : Hp) (ρ' : List Sl) (M' : Mem), Ext Hs Hs' → Sta K F Hs' M' σ' H' ρ' → Dd.bk ρ' M' → Dh.bk σ' H'
  ct : ∀ (σ' : L2.St) (H' Hs' : Hp) (ρ' : List Sl) (M' : Mem), Ext Hs Hs' → Sta K F Hs' M' σ' H' ρ' → Dd.ct ρ' M' → Dh.ct σ' H'
def SemE (t : TE) (T : TEd) : Prop := ∀ (F Hs : Hp) (M : Mem) (σ : L2.St) (H : Hp) (ρ : List Sl) (Q : VK) (Qd : D → Mem → Prop), Sta K F Hs M σ H ρ → KE K F Hs σ ρ Q Qd → T ρ M Qd → t σ H Q
def SemT (t : TT) (T : TTd) : Prop := ∀ (F Hs : Hp) (M : Mem) (σ : L2.St) (H : Hp) (ρ : List Sl) (Q : Bool → Hp → Prop) (Qd : Bool → Mem → Prop), Sta K F Hs M σ H ρ → KT K F Hs σ ρ Q Qd → T ρ M Qd → t σ H Q
def SemA (t : TA) (T : TAd) : Prop := ∀ (F Hs : Hp) (M : Mem) (σ : L2.St) (H : Hp) (ρ : List Sl) (Q : List V → Hp → Prop) (Qd : List D → Mem → Prop), Sta K F Hs M σ H ρ → KA K F Hs σ ρ Q Qd → T ρ M Qd → t σ H Q
def SemS (t : TS) (T : TSd) : Prop := ∀ (F Hs : Hp) (M : Mem) (σ : L2.St) (H : Hp) (ρ : List Sl) (Dh : Ends) (Dd : EndsD), Sta K F Hs M σ H ρ → KS K F Hs Dh Dd → T Dd ρ M → t Dh σ H
end
structure ED (X : Cx) (e : Expr) (t : TE) (T : TEd) : Prop where
  pe : PE X e t
  se : SemE X.K t T
structure TD (X : Cx) (e : Expr) (t : TT) (T : TTd) : Prop where
  pe : PT X e t
  se : SemT X.K t T
structure WD (X : Cx) (e : Expr) (t : TT) (T : TTd) : Prop where
  pe : PW X e t
  se : SemT X.K t T
structure AD (X : Cx) (es : List Expr) (t : TA) (T : TAd) : Prop where
  pe : PA X es t
  se : SemA X.K t T
structure SD (X : Cx) (st : Stmt) (t : TS) (T : TSd) : Prop where
  pe : PS X st t
  se : SemS X.K t T
structure BD (X : Cx) (sts : List Stmt) (t : TS) (T : TSd) : Prop where
  pe : PSs X sts t
  se : SemS X.K t T
section
variable {K : PySem.W.Frag} {F Hs Hs1 : Hp} {M M' : Mem} {σ : L2.St} {H H' : Hp} {ρ : List Sl}
theorem KE.mono {Q : VK} {Qd : D → Mem → Prop} (k : KE K F Hs σ ρ Q Qd) (x : Ext Hs Hs1) : KE K F Hs1 σ ρ Q Qd := fun v H' Hs' d M' e => k v H' Hs' d M' (x.trans e)
theorem KT.mono {Q : Bool → Hp → Prop} {Qd : Bool → Mem → Prop} (k : KT K F Hs σ ρ Q Qd) (x : Ext Hs Hs1) : KT K F Hs1 σ ρ Q Qd := fun v H' Hs' M' e => k v H' Hs' M' (x.trans e)
theorem KA.mono {Q : List V → Hp → Prop} {Qd : List D → Mem → Prop} (k : KA K F Hs σ ρ Q Qd) (x : Ext Hs Hs1) : KA K F Hs1 σ ρ Q Qd := fun v H' Hs' d M' e => k v H' Hs' d M' (x.trans e)
theorem KS.mono {Dh : Ends} {Dd : EndsD} (k : KS K F Hs Dh Dd) (x : Ext Hs Hs1) : KS K F Hs1 Dh Dd :=
  ⟨fun s h hs r m e => k.nx s h hs r m (x.trans e), fun v h hs d m e => k.rt v h hs d m (x.trans e), fun s h hs r m e => k.bk s h hs r m (x.trans e), fun s h hs r m e => k.ct s h hs r m (x.trans e)⟩
theorem Sta.drop (S : Sta K F Hs M σ H ρ) : Sta K F Hs M [] H [] := ⟨S.hs, S.fr, S.dj, S.me, rfl, fun i d e => by simp at e, fun i d e => by simp at e⟩
/-- a slot stored with a known value -/
theorem Sta.set (S : Sta K F Hs M σ H ρ) {v : V} {d : D} (i : Nat) (r : Rep K Hs v d) : Sta K F Hs M (σ.set i (some v)) H (ρ.set i (.val d)) := by
  have hl := S.ln
  refine ⟨S.hs, S.fr, S.dj, S.me, by simpa using S.ln, fun j e q => ?_, fun j ds q => ?_⟩
  · by_cases h : i = j
    · subst h
      by_cases hi : i < ρ.length
      · rw [List.getElem?_set_self hi] at q
        cases q
        exact ⟨v, List.getElem?_set_self (by omega), r⟩
      · rw [List.getElem?_eq_none (by simpa using hi)] at q; cases q
    · rw [List.getElem?_set_ne h] at q ⊢
      exact S.vl j e q
  · by_cases h : i = j
    · subst h
      by_cases hi : i < ρ.length
      · rw [List.getElem?_set_self hi] at q; cases q
      · rw [List.getElem?_eq_none (by simpa using hi)] at q; cases q
    · rw [List.getElem?_set_ne h] at q
      obtain ⟨a, vs, q1, q2, q3, q4, q5, q6, q7, q8⟩ := S.ow j ds q
      refine ⟨a, vs, by rw [List.getElem?_set_ne h]; exact q1, q2, q3, q4, q5, q6, q7, fun k es hk qk => ?_⟩
      by_cases hik : i = k
      · subst hik
        by_cases hi : i < ρ.length
        · rw [List.getElem?_set_self hi] at qk; cases qk
        · rw [List.getElem?_eq_none (by simpa using hi)] at qk; cases qk
      · rw [List.getElem?_set_ne hik] at qk ⊢
        exact q8 k es hk qk
/-- slots forgotten -/
theorem Sta.no (S : Sta K F Hs M σ H ρ) (i : Nat) (o : Option V) : Sta K F Hs M (σ.set i o) H (ρ.set i .no) := by
  have hl := S.ln
  refine ⟨S.hs, S.fr, S.dj, S.me, by simpa using S.ln, fun j e q => ?_, fun j ds q => ?_⟩
  · by_cases h : i = j
    · subst h
      by_cases hi : i < ρ.length
      · rw [List.getElem?_set_self hi] at q; cases q
      · rw [List.getElem?_eq_none (by simpa using hi)] at q; cases q
    · rw [List.getElem?_set_ne h] at q ⊢
      exact S.vl j e q
  · by_cases h : i = j
    · subst h
      by_cases hi : i < ρ.length
      · rw [List.getElem?_set_self hi] at q; cases q
      · rw [List.getElem?_eq_none (by simpa using hi)] at q; cases q
    · rw [List.getElem?_set_ne h] at q
      obtain ⟨a, vs, q1, q2, q3, q4, q5, q6, q7, q8⟩ := S.ow j ds q
      refine ⟨a, vs, by rw [List.getElem?_set_ne h]; exact q1, q2, q3, q4, q5, q6, q7, fun k es hk qk => ?_⟩
      by_cases hik : i = k
      · subst hik
        by_cases hi : i < ρ.length
        · rw [List.getElem?_set_self hi] at qk; cases qk
        · rw [List.getElem?_eq_none (by simpa using hi)] at qk; cases qk
      · rw [List.getElem?_set_ne hik] at qk ⊢
        exact q8 k es hk qk
end
/-! ## names, constants -/
section
variable {X : Cx} {pos : Pos} {ta tb te : TE} {Ta Tb Te : TEd} {tt tu : TT} {T U : TTd} {tr : TA} {R : TAd} {K : PySem.W.Frag}
def TVar (i : Nat) : TEd := fun ρ M Q => match ρ[i]? with
  | some (.val d) => Q d M
  | _ => False
def TC (d : D) : TEd := fun _ M Q => Q d M
theorem sem_var (K : PySem.W.Frag) (i : Nat) : SemE K (tVar i) (TVar i) := fun F Hs M σ H ρ Q Qd S k h => by
  unfold TVar at h
  split at h
  · rename_i d e
    obtain ⟨v, e1, r⟩ := S.vl i d e
    exact ⟨v, e1, k v H Hs d M (Ext.refl _) S r h⟩
  · exact h.elim
theorem ed_var {e : Expr} {i : Nat} (h : PE X e (tVar i)) : ED X e (tVar i) (TVar i) := ⟨h, sem_var _ i⟩
theorem sem_c {v : V} {d : D} (r : ∀ H, Rep K H v d) : SemE K (tC v) (TC d) := fun F Hs M σ H ρ Q Qd S k h => k v H Hs d M (Ext.refl _) S (r Hs) h
theorem ed_int {i : Int} {j : Nat} : ED X (.Constant (.int i) j pos) (tC (.int i)) (TC (.int i)) := ⟨pe_int, sem_c fun _ => .int i⟩
theorem ed_bl {b : Bool} {j : Nat} : ED X (.Constant (.bool b) j pos) (tC (.bl b)) (TC (.bl b)) := ⟨pe_bl, sem_c fun _ => .bl b⟩
theorem ed_non {j : Nat} : ED X (.Constant .none j pos) (tC .non) (TC .non) := ⟨pe_non, sem_c fun _ => .non⟩
theorem ed_str {x : Str} {j : Nat} (h : okS x = true := by decide +kernel) : ED X (.Constant (.str x) j pos) (tC (.str x)) (TC (.str x)) := ⟨pe_str, sem_c fun _ => .str x h⟩
theorem ed_glob {x : Str} {v : V} {u : Value} {d : D} (hg : Gl X x) (hm : X.mg x = some u) (r : RelV v u) (rd : ∀ H, Rep X.K H v d) (hd : (x == ("__debug__" : Str)) = false := by decide) : ED X (.Name x pos) (tC v) (TC d) := ⟨pe_glob hg hm r hd, sem_c rd⟩
theorem ed_blt {x : Str} {v : V} {u : Value} {d : D} (hg : Gl X x) (hm : X.mg x = none) (hv : bootBuiltins x = some u) (r : RelV v u) (rd : ∀ H, Rep X.K H v d) (hn : x ≠ "__name__" := by decide) (hd : (x == ("__debug__" : Str)) = false := by decide) : ED X (.Name x pos) (tC v) (TC d) := ⟨pe_bltn hg hm hv r hn hd, sem_c rd⟩
/-! ## operators -/
abbrev Op2 := D → D → (D → Prop) → Prop
def SemR (K : PySem.W.Frag) (r : R2) (op : Op2) : Prop := ∀ (F Hs : Hp) (M : Mem) (σ : L2.St) (H : Hp) (ρ : List Sl) (x y : V) (dx dy : D) (Q : VK) (Qd : D → Prop), Sta K F Hs M σ H ρ → Rep K Hs x dx → Rep K Hs y dy →
  (∀ (v : V) (H' Hs' : Hp) (d : D), Ext Hs Hs' → Sta K F Hs' M σ H' ρ → Rep K Hs' v d → Qd d → Q v H') → op dx dy Qd → r x y H Q
def TBin (op : Op2) (ta tb : TEd) : TEd := fun ρ M Q => ta ρ M fun x M1 => tb ρ M1 fun y M2 => op x y fun z => Q z M2
theorem sem_op {r : R2} {op : Op2} (hr : SemR K r op) (ha : SemE K ta Ta) (hb : SemE K tb Tb) : SemE K (tOp r ta tb) (TBin op Ta Tb) := fun F Hs M σ H ρ Q Qd S k h =>
  ha F Hs M σ H ρ _ _ S (fun x H1 Hs1 dx M1 e1 S1 r1 h1 => hb F Hs1 M1 σ H1 ρ _ _ S1 (fun y H2 Hs2 dy M2 e2 S2 r2 h2 =>
    hr F Hs2 M2 σ H2 ρ x y dx dy Q _ S2 (r1.mono e2) r2 (fun v H3 Hs3 d e3 S3 r3 h3 => k v H3 Hs3 d M2 ((e1.trans e2).trans e3) S3 r3 h3) h2) h1) h
theorem ed_bin {o : Operator} {r : R2} {op : Op2} {a b : Expr} (ho : OpR X (binaryOp o) r) (hr : SemR X.K r op) (ha : ED X a ta Ta) (hb : ED X b tb Tb) : ED X (.BinOp a o b pos) (tOp r ta tb) (TBin op Ta Tb) := ⟨pe_op ho ha.pe hb.pe, sem_op hr ha.se hb.se⟩
theorem ed_cmp {o : CmpOp} {r : R2} {op : Op2} {a b : Expr} (ho : OpR X (compareOp o) r) (hr : SemR X.K r op) (ha : ED X a ta Ta) (hb : ED X b tb Tb) (hm : behindInMarks o b = false) : ED X (.Compare a [o] [b] pos) (tOp r ta tb) (TBin op Ta Tb) := ⟨pe_cmpR ho ha.pe hb.pe hm, sem_op hr ha.se hb.se⟩
def TTst (te : TEd) : TTd := fun ρ M Q => te ρ M fun d M1 => match d with
  | .bl b => Q b M1
  | _ => False
theorem sem_tst (h : SemE K te Te) : SemT K (fun σ H Q => te σ H fun x H1 => ∃ k, x = V.bl k ∧ Q k H1) (TTst Te) := fun F Hs M σ H ρ Q Qd S k q =>
  h F Hs M σ H ρ _ _ S (fun v H1 Hs1 d M1 e1 S1 r1 h1 => by
    split at h1
    · rename_i b
      cases r1
      exact ⟨b, rfl, k b H1 Hs1 M1 e1 S1 h1⟩
    · exact h1.elim) q
theorem td_cmp {o : CmpOp} {r : R2} {op : Op2} {a b : Expr} (ho : OpR X (compareOp o) r) (hr : SemR X.K r op) (ha : ED X a ta Ta) (hb : ED X b tb Tb) (hm : behindInMarks o b = false) : TD X (.Compare a [o] [b] pos) (tTest (tOp r ta tb)) (TTst (TBin op Ta Tb)) := ⟨pt_cmpR ho ha.pe hb.pe hm, sem_tst (sem_op hr ha.se hb.se)⟩
theorem td_val {e : Expr} (h : ED X e te Te) (he : ∀ whole, isTrue e X.env whole = (do let v ← whole; standAt e.pos; holding [v] (truthy v)) := by intro _; rfl) : TD X e (tB te) (TTst Te) := ⟨pt_val h.pe he, sem_tst h.se⟩
/-- two comparisons in a chain -/
def TChain (op op' : Op2) (ta tb tc : TEd) : TEd := fun ρ M Q => ta ρ M fun x M1 => tb ρ M1 fun y M2 => op x y fun z => match z with
  | .bl true => tc ρ M2 fun u M3 => op' y u fun w => Q w M3
  | .bl false => Q (.bl false) M2
  | _ => False
theorem sem_chain {r r' : R2} {op op' : Op2} {tc : TE} {Tc : TEd} (hr : SemR K r op) (hr' : SemR K r' op') (ha : SemE K ta Ta) (hb : SemE K tb Tb) (hc : SemE K tc Tc) : SemE K (tChain r r' ta tb tc) (TChain op op' Ta Tb Tc) := fun F Hs M σ H ρ Q Qd S k h =>
  ha F Hs M σ H ρ _ _ S (fun x H1 Hs1 dx M1 e1 S1 r1 h1 => hb F Hs1 M1 σ H1 ρ _ _ S1 (fun y H2 Hs2 dy M2 e2 S2 r2 h2 =>
    hr F Hs2 M2 σ H2 ρ x y dx dy _ _ S2 (r1.mono e2) r2 (fun v H3 Hs3 d e3 S3 r3 h3 => by
      split at h3
      · cases r3
        refine ⟨true, rfl, ?_⟩
        rw [if_pos rfl]
        exact hc F Hs3 M2 σ H3 ρ _ _ S3 (fun u H4 Hs4 du M4 e4 S4 r4 h4 => hr' F Hs4 M4 σ H4 ρ y u dy du Q _ S4 (r2.mono (e3.trans e4)) r4 (fun w H5 Hs5 dw e5 S5 r5 h5 => k w H5 Hs5 dw M4 ((((e1.trans e2).trans e3).trans e4).trans e5) S5 r5 h5) h4) h3
      · cases r3
        refine ⟨false, rfl, ?_⟩
        rw [if_neg Bool.false_ne_true]
        exact k _ H3 Hs3 _ M2 ((e1.trans e2).trans e3) S3 (.bl false) h3
      · exact h3.elim) h2) h1) h
/-! ## tests: and, or, not -/
def TAnd (t u : TTd) : TTd := fun ρ M Q => t ρ M fun b M1 => match b with
  | true => u ρ M1 Q
  | false => Q false M1
def TOr (t u : TTd) : TTd := fun ρ M Q => t ρ M fun b M1 => match b with
  | true => Q true M1
  | false => u ρ M1 Q
def TNot (t : TTd) : TTd := fun ρ M Q => t ρ M fun b M1 => Q (!b) M1
theorem sem_and (h1 : SemT K tt T) (h2 : SemT K tu U) : SemT K (tAnd tt tu) (TAnd T U) := fun F Hs M σ H ρ Q Qd S k h =>
  h1 F Hs M σ H ρ _ _ S (fun b H1 Hs1 M1 e1 S1 q => by
    cases b with
    | true =>
      show (if true = true then tu σ H1 Q else Q false H1)
      rw [if_pos rfl]
      exact h2 F Hs1 M1 σ H1 ρ _ _ S1 (k.mono e1) q
    | false =>
      show (if false = true then tu σ H1 Q else Q false H1)
      rw [if_neg Bool.false_ne_true]
      exact k _ H1 Hs1 M1 e1 S1 q) h
theorem sem_or (h1 : SemT K tt T) (h2 : SemT K tu U) : SemT K (tOr tt tu) (TOr T U) := fun F Hs M σ H ρ Q Qd S k h =>
  h1 F Hs M σ H ρ _ _ S (fun b H1 Hs1 M1 e1 S1 q => by
    cases b with
    | true =>
      show (if true = true then Q true H1 else tu σ H1 Q)
      rw [if_pos rfl]
      exact k _ H1 Hs1 M1 e1 S1 q
    | false =>
      show (if false = true then Q true H1 else tu σ H1 Q)
      rw [if_neg Bool.false_ne_true]
      exact h2 F Hs1 M1 σ H1 ρ _ _ S1 (k.mono e1) q) h
theorem td_not {a : Expr} (h : TD X a tt T) : TD X (.UnaryOp .Not a pos) (tNot tt) (TNot T) :=
  ⟨pt_not h.pe, fun F Hs M σ H ρ Q Qd S k q => h.se F Hs M σ H ρ _ _ S (fun b H1 Hs1 M1 e1 S1 q => k _ H1 Hs1 M1 e1 S1 q) q⟩
theorem wd_and1 {a : Expr} (h : TD X a tt T) : WD X (.BoolOp .And [a] pos) tt T := ⟨pw_and1 h.pe, h.se⟩
theorem wd_or1 {a : Expr} (h : TD X a tt T) : WD X (.BoolOp .Or [a] pos) tt T := ⟨pw_or1 h.pe, h.se⟩
theorem wd_and {a b : Expr} {r : List Expr} (h : TD X a tt T) (h2 : WD X (.BoolOp .And (b :: r) pos) tu U) : WD X (.BoolOp .And (a :: b :: r) pos) (tAnd tt tu) (TAnd T U) := ⟨pw_and h.pe h2.pe, sem_and h.se h2.se⟩
theorem wd_or {a b : Expr} {r : List Expr} (h : TD X a tt T) (h2 : WD X (.BoolOp .Or (b :: r) pos) tu U) : WD X (.BoolOp .Or (a :: b :: r) pos) (tOr tt tu) (TOr T U) := ⟨pw_or h.pe h2.pe, sem_or h.se h2.se⟩
theorem td_w {a : Expr} (h : WD X a tt T) : TD X a tt T := ⟨h.pe.pt, h.se⟩
/-! ## and, or, not as values (bools) -/
def TAndV (ta tb : TEd) : TEd := fun ρ M Q => ta ρ M fun d M1 => match d with
  | .bl true => tb ρ M1 Q
  | .bl false => Q (.bl false) M1
  | _ => False
def TOrV (ta tb : TEd) : TEd := fun ρ M Q => ta ρ M fun d M1 => match d with
  | .bl true => Q (.bl true) M1
  | .bl false => tb ρ M1 Q
  | _ => False
def TNotV (ta : TEd) : TEd := fun ρ M Q => ta ρ M fun d M1 => match d with
  | .bl b => Q (.bl (!b)) M1
  | _ => False
theorem ed_one {o : BoolOp} {a : Expr} (h : ED X a ta Ta) : ED X (.BoolOp o [a] pos) ta Ta := ⟨pe_one h.pe, h.se⟩
theorem ed_and {a b : Expr} {r : List Expr} (h : ED X a ta Ta) (h2 : ED X (.BoolOp .And (b :: r) pos) tb Tb) : ED X (.BoolOp .And (a :: b :: r) pos) (tAndV ta tb) (TAndV Ta Tb) := by
  refine ⟨pe_and h.pe h2.pe, fun F Hs M σ H ρ Q Qd S k q => h.se F Hs M σ H ρ _ _ S (fun v H1 Hs1 d M1 e1 S1 r1 q1 => ?_) q⟩
  split at q1
  · cases r1
    refine ⟨true, rfl, ?_⟩
    rw [if_pos rfl]
    exact h2.se F Hs1 M1 σ H1 ρ _ _ S1 (k.mono e1) q1
  · cases r1
    refine ⟨false, rfl, ?_⟩
    rw [if_neg Bool.false_ne_true]
    exact k _ H1 Hs1 _ M1 e1 S1 (.bl false) q1
  · exact q1.elim
theorem ed_or {a b : Expr} {r : List Expr} (h : ED X a ta Ta) (h2 : ED X (.BoolOp .Or (b :: r) pos) tb Tb) : ED X (.BoolOp .Or (a :: b :: r) pos) (tOrV ta tb) (TOrV Ta Tb) := by
  refine ⟨pe_or h.pe h2.pe, fun F Hs M σ H ρ Q Qd S k q => h.se F Hs M σ H ρ _ _ S (fun v H1 Hs1 d M1 e1 S1 r1 q1 => ?_) q⟩
  split at q1
  · cases r1
    refine ⟨true, rfl, ?_⟩
    rw [if_pos rfl]
    exact k _ H1 Hs1 _ M1 e1 S1 (.bl true) q1
  · cases r1
    refine ⟨false, rfl, ?_⟩
    rw [if_neg Bool.false_ne_true]
    exact h2.se F Hs1 M1 σ H1 ρ _ _ S1 (k.mono e1) q1
  · exact q1.elim
theorem ed_not {a : Expr} (h : ED X a ta Ta) : ED X (.UnaryOp .Not a pos) (tNotV ta) (TNotV Ta) := by
  refine ⟨pe_not h.pe, fun F Hs M σ H ρ Q Qd S k q => h.se F Hs M σ H ρ _ _ S (fun v H1 Hs1 d M1 e1 S1 r1 q1 => ?_) q⟩
  split at q1
  · cases r1
    exact ⟨_, rfl, k _ H1 Hs1 _ M1 e1 S1 (.bl _) q1⟩
  · exact q1.elim
def TIfE (t : TTd) (ta tb : TEd) : TEd := fun ρ M Q => t ρ M fun b M1 => match b with
  | true => ta ρ M1 Q
  | false => tb ρ M1 Q
theorem ed_if {c a b : Expr} (hc : TD X c tt T) (ha : ED X a ta Ta) (hb : ED X b tb Tb) : ED X (.IfExp c a b pos) (tIf tt ta tb) (TIfE T Ta Tb) := by
  refine ⟨pe_ifExp hc.pe ha.pe hb.pe, fun F Hs M σ H ρ Q Qd S k q => hc.se F Hs M σ H ρ _ _ S (fun b H1 Hs1 M1 e1 S1 q1 => ?_) q⟩
  cases b with
  | true =>
    show (if true = true then ta σ H1 Q else tb σ H1 Q)
    rw [if_pos rfl]
    exact ha.se F Hs1 M1 σ H1 ρ _ _ S1 (k.mono e1) q1
  | false =>
    show (if false = true then ta σ H1 Q else tb σ H1 Q)
    rw [if_neg Bool.false_ne_true]
    exact hb.se F Hs1 M1 σ H1 ρ _ _ S1 (k.mono e1) q1
/-! ## argument lists, displays -/
def TNil : TAd := fun _ M Q => Q [] M
def TCons (t : TEd) (r : TAd) : TAd := fun ρ M Q => t ρ M fun d M1 => r ρ M1 fun ds M2 => Q (d :: ds) M2
theorem ad_nil : AD X [] tNil TNil := ⟨pa_nil, fun F Hs M σ H ρ Q Qd S k h => k [] H Hs [] M (Ext.refl _) S .nil h⟩
theorem sem_cons (h : SemE K te Te) (hr : SemA K tr R) : SemA K (tCons te tr) (TCons Te R) := fun F Hs M σ H ρ Q Qd S k q => h F Hs M σ H ρ _ _ S (fun v H1 Hs1 d M1 e1 S1 r1 q1 => hr F Hs1 M1 σ H1 ρ _ _ S1 (fun vs H2 Hs2 ds M2 e2 S2 r2 q2 => k (v :: vs) H2 Hs2 (d :: ds) M2 (e1.trans e2) S2 (.cons (r1.mono e2) r2) q2) q1) q
theorem ad_cons {e : Expr} {es : List Expr} (h : ED X e te Te) (hr : AD X es tr R) (hs : starEach (e :: es) X.env = (false, eval e X.env) :: starEach es X.env := by rfl) : AD X (e :: es) (tCons te tr) (TCons Te R) := ⟨pa_cons h.pe hr.pe hs, sem_cons h.se hr.se⟩
def TTup (t : TAd) : TEd := fun ρ M Q => t ρ M fun ds M1 => ds.length ≤ 16777216 ∧ Q (.tup ds) M1
def TLst (t : TAd) : TEd := fun ρ M Q => t ρ M fun ds M1 => ds.length ≤ 16777216 ∧ Q (.lst ds) M1
theorem line_eq : sizeLine = 16777216 := sizeLine_eq
theorem ed_tup {es : List Expr} {k : Nat} (hr : AD X es tr R) : ED X (.Tuple es k pos) (tTup tr) (TTup R) := by
  refine ⟨pe_tup hr.pe, fun F Hs M σ H ρ Q Qd S k q => hr.se F Hs M σ H ρ _ _ S (fun vs H1 Hs1 ds M1 e1 S1 r1 ⟨ql, q1⟩ => ?_) q⟩
  have hl := r1.length
  refine ⟨by rw [line_eq]; omega, fun p np => ?_⟩
  obtain ⟨S2, x2⟩ := S1.new np (.tup vs)
  exact k _ _ _ (.tup ds) M1 (e1.trans x2) S2 (.tup (SqT.of upd_same) (by omega) (r1.mono x2)) q1
theorem ed_lst {es : List Expr} (hr : AD X es tr R) : ED X (.List es pos) (tLst tr) (TLst R) := by
  refine ⟨pe_lst hr.pe, fun F Hs M σ H ρ Q Qd S k q => hr.se F Hs M σ H ρ _ _ S (fun vs H1 Hs1 ds M1 e1 S1 r1 ⟨ql, q1⟩ => ?_) q⟩
  have hl := r1.length
  refine ⟨by rw [line_eq]; omega, fun p np => ?_⟩
  obtain ⟨S2, x2⟩ := S1.new np (.lst vs)
  exact k _ _ _ (.lst ds) M1 (e1.trans x2) S2 (.lst upd_same (by omega) (r1.mono x2)) q1
/-! ## built-in calls, methods, items, slices -/
abbrev OpC := List D → (D → Prop) → Prop
def SemC (K : PySem.W.Frag) (r : List V → Hp → VK → Prop) (op : OpC) : Prop := ∀ (F Hs : Hp) (M : Mem) (σ : L2.St) (H : Hp) (ρ : List Sl) (xs : List V) (ds : List D) (Q : VK) (Qd : D → Prop), Sta K F Hs M σ H ρ → Reps K Hs xs ds →
  (∀ (v : V) (H' Hs' : Hp) (d : D), Ext Hs Hs' → Sta K F Hs' M σ H' ρ → Rep K Hs' v d → Qd d → Q v H') → op ds Qd → r xs H Q
def TCB (op : OpC) (t : TAd) : TEd := fun ρ M Q => t ρ M fun ds M1 => op ds fun z => Q z M1
theorem sem_cb {r : List V → Hp → VK → Prop} {op : OpC} (hr : SemC K r op) (h : SemA K tr R) : SemE K (tCB r tr) (TCB op R) := fun F Hs M σ H ρ Q Qd S k q =>
  h F Hs M σ H ρ _ _ S (fun vs H1 Hs1 ds M1 e1 S1 r1 q1 => hr F Hs1 M1 σ H1 ρ vs ds Q _ S1 r1 (fun v H2 Hs2 d e2 S2 r2 q2 => k v H2 Hs2 d M1 (e1.trans e2) S2 r2 q2) q1) q
theorem ed_cb {id : String} {x : Str} {p : Pos} {e : Expr} {es : List Expr} {r : List V → Hp → VK → Prop} {op : OpC} (hc : CallR X (.builtin id) r) (hr : SemC X.K r op) (hg : Gl X x) (hm : X.mg x = none) (hv : bootBuiltins x = some (.builtin id)) (ha : AD X (e :: es) tr R) (hn : x ≠ "__name__" := by decide) (hdb : (x == ("__debug__" : Str)) = false := by decide)
    (he : starEach (e :: es) X.env = (false, eval e X.env) :: starEach es X.env := by rfl) (hpl : (backTo pos (starEach es X.env)).any (·.1) = false := by rfl) : ED X (.Call (.Name x p) (e :: es) [] pos) (tCB r tr) (TCB op R) := ⟨pe_callB hc hg hm hv ha.pe hn hdb he hpl, sem_cb hr ha.se⟩
theorem ed_ct {T' : String} {x : Str} {p : Pos} {e : Expr} {es : List Expr} {r : List V → Hp → VK → Prop} {op : OpC} (hc : CallR X (.type T') r) (hr : SemC X.K r op) (hg : Gl X x) (hm : X.mg x = none) (hv : bootBuiltins x = some (.type T')) (ha : AD X (e :: es) tr R) (hn : x ≠ "__name__" := by decide) (hdb : (x == ("__debug__" : Str)) = false := by decide)
    (he : starEach (e :: es) X.env = (false, eval e X.env) :: starEach es X.env := by rfl) (hpl : (backTo pos (starEach es X.env)).any (·.1) = false := by rfl) : ED X (.Call (.Name x p) (e :: es) [] pos) (tCB r tr) (TCB op R) := ⟨pe_callTy hc hg hm hv ha.pe hn hdb he hpl, sem_cb hr ha.se⟩
/-- a built-in's method -/
abbrev OpM := D → List D → (D → Prop) → Prop
def SemM (K : PySem.W.Frag) (r : V → List V → Hp → VK → Prop) (op : OpM) : Prop := ∀ (F Hs : Hp) (M : Mem) (σ : L2.St) (H : Hp) (ρ : List Sl) (x : V) (dx : D) (xs : List V) (ds : List D) (Q : VK) (Qd : D → Prop), Sta K F Hs M σ H ρ → Rep K Hs x dx → Reps K Hs xs ds →
  (∀ (v : V) (H' Hs' : Hp) (d : D), Ext Hs Hs' → Sta K F Hs' M σ H' ρ → Rep K Hs' v d → Qd d → Q v H') → op dx ds Qd → r x xs H Q
def isD (T : String) : D → Bool
  | .str _ => T == "str"
  | .lst _ => T == "list"
  | .dct _ => T == "dict"
  | .int _ => T == "int"
  | _ => false
theorem tyV_of {F Hs : Hp} {M : Mem} {σ : L2.St} {H : Hp} {ρ : List Sl} {T : String} {x : V} {d : D} (S : Sta K F Hs M σ H ρ) (r : Rep K Hs x d) (h : isD T d = true) : tyV K T x H := by
  cases r with
  | str x _ => exact eq_of_beq h
  | int i => exact eq_of_beq h
  | lst h1 _ _ => exact .inl ⟨eq_of_beq h, _, SqL.of (S.hs _ _ h1)⟩
  | dct h1 _ => exact .inr (.inr (.inl ⟨eq_of_beq h, .inl ⟨_, S.hs _ _ h1⟩⟩))
  | _ => cases h
def TBM (T : String) (op : OpM) (to : TEd) (t : TAd) : TEd := fun ρ M Q => to ρ M fun x M1 => isD T x = true ∧ t ρ M1 fun ds M2 => op x ds fun z => Q z M2
def TBM0 (T : String) (op : OpM) (to : TEd) : TEd := fun ρ M Q => to ρ M fun x M1 => isD T x = true ∧ op x [] fun z => Q z M1
theorem sem_bm {T : String} {r : V → List V → Hp → VK → Prop} {op : OpM} (hm : SemM K r op) (ho : SemE K ta Ta) (ha : SemA K tr R) : SemE K (tBM K T r ta tr) (TBM T op Ta R) := fun F Hs M σ H ρ Q Qd S k q =>
  ho F Hs M σ H ρ _ _ S (fun x H1 Hs1 dx M1 e1 S1 r1 ⟨qt, q1⟩ => ⟨tyV_of S1 r1 qt, ha F Hs1 M1 σ H1 ρ _ _ S1 (fun xs H2 Hs2 ds M2 e2 S2 r2 q2 =>
    hm F Hs2 M2 σ H2 ρ x dx xs ds Q _ S2 (r1.mono e2) r2 (fun v H3 Hs3 d e3 S3 r3 q3 => k v H3 Hs3 d M2 ((e1.trans e2).trans e3) S3 r3 q3) q2) q1⟩) q
theorem sem_bm0 {T : String} {r : V → List V → Hp → VK → Prop} {op : OpM} (hm : SemM K r op) (ho : SemE K ta Ta) : SemE K (tBM0 K T r ta) (TBM0 T op Ta) := fun F Hs M σ H ρ Q Qd S k q =>
  ho F Hs M σ H ρ _ _ S (fun x H1 Hs1 dx M1 e1 S1 r1 ⟨qt, q1⟩ => ⟨tyV_of S1 r1 qt, 
    hm F Hs1 M1 σ H1 ρ x dx [] [] Q _ S1 r1 .nil (fun v H3 Hs3 d e3 S3 r3 q3 => k v H3 Hs3 d M1 (e1.trans e3) S3 r3 q3) q1⟩) q
theorem ed_bm {o e : Expr} {es : List Expr} {name : Str} {apos cpos : Pos} {T id : String} {r : V → List V → Hp → VK → Prop} {op : OpM} (pa : PlainAttrs T) (slot : Slot T name id) (hty : typeOf (.builtin id) = pure (.type "method_descriptor")) (hm : MtR X id r) (hr : SemM X.K r op) (ho : ED X o ta Ta) (ha : AD X (e :: es) tr R)
    (hbase : attributeBase o name X.env (eval o X.env) = eval o X.env := by rfl)
    (hfew : ((backTo cpos (starEach (e :: es) X.env)).all (fun x => !x.1) && (backToKw cpos (keywordEach [] X.env)).all (fun x => x.1.isSome)
      && decide ((e :: es).length + ([] : List Keyword).length + (if ([] : List Keyword).isEmpty then 0 else 1) < 30)) = true := by rfl)
    (hline : (apos.endLine == cpos.line) = true := by rfl) (hs : starEach (e :: es) X.env = (false, eval e X.env) :: starEach es X.env := by rfl) (hplain : (backTo cpos (starEach es X.env)).any (·.1) = false := by rfl) :
    ED X (.Call (.Attribute o name apos) (e :: es) [] cpos) (tBM X.K T r ta tr) (TBM T op Ta R) := ⟨pe_bm pa slot hty hm ho.pe ha.pe hbase hfew hline hs hplain, sem_bm hr ho.se ha.se⟩
theorem ed_bm0 {o : Expr} {name : Str} {apos cpos : Pos} {T id : String} {r : V → List V → Hp → VK → Prop} {op : OpM} (pa : PlainAttrs T) (slot : Slot T name id) (hty : typeOf (.builtin id) = pure (.type "method_descriptor")) (hm : MtR X id r) (hr : SemM X.K r op) (ho : ED X o ta Ta)
    (hbase : attributeBase o name X.env (eval o X.env) = eval o X.env := by rfl) (hline : (apos.endLine == cpos.line) = true := by rfl) : ED X (.Call (.Attribute o name apos) [] [] cpos) (tBM0 X.K T r ta) (TBM0 T op Ta) := ⟨pe_bm0 pa slot hty hm ho.pe hbase hline, sem_bm0 hr ho.se⟩
/-- items -/
theorem ed_ix {a b : Expr} {r : R2} {op : Op2} (hx : IxR X r) (hr : SemR X.K r op) (ha : ED X a ta Ta) (hb : ED X b tb Tb) (hs : PlainIx b := by intro _ _; rfl) : ED X (.Subscript a b pos) (tOp r ta tb) (TBin op Ta Tb) := ⟨pe_ix hx ha.pe hb.pe hs, sem_op hr ha.se hb.se⟩
/-- slices -/
abbrev TOd := List Sl → Mem → (Option Int → Mem → Prop) → Prop
def SemO (K : PySem.W.Frag) (t : TO) (T : TOd) : Prop := ∀ (F Hs : Hp) (M : Mem) (σ : L2.St) (H : Hp) (ρ : List Sl) (Q : Option Int → Hp → Prop) (Qd : Option Int → Mem → Prop), Sta K F Hs M σ H ρ → (∀ (o : Option Int) (H' Hs' : Hp) (M' : Mem), Ext Hs Hs' → Sta K F Hs' M' σ H' ρ → Qd o M' → Q o H') → T ρ M Qd → t σ H Q
structure OD (X : Cx) (e : Option Expr) (t : TO) (T : TOd) : Prop where
  pe : PO X e t
  se : SemO X.K t T
def TNoPart : TOd := fun _ M Q => Q none M
def TPart (t : TEd) : TOd := fun ρ M Q => t ρ M fun d M1 => match d with
  | .int i => Q (some i) M1
  | _ => False
theorem od_none : OD X none tNoPart TNoPart := ⟨po_none, fun F Hs M σ H ρ Q Qd S k q => k none H Hs M (Ext.refl _) S q⟩
theorem od_some {e : Expr} (h : ED X e te Te) : OD X (some e) (tPart te) (TPart Te) := ⟨po_some h.pe, fun F Hs M σ H ρ Q Qd S k q => h.se F Hs M σ H ρ _ _ S (fun v H1 Hs1 d M1 e1 S1 r1 q1 => by
  split at q1
  · cases r1
    exact ⟨_, rfl, k _ H1 Hs1 M1 e1 S1 q1⟩
  · exact q1.elim) q⟩
abbrev OpS := D → Option Int → Option Int → (D → Prop) → Prop
def SemSl (K : PySem.W.Frag) (r : V → Option Int → Option Int → Hp → VK → Prop) (op : OpS) : Prop := ∀ (F Hs : Hp) (M : Mem) (σ : L2.St) (H : Hp) (ρ : List Sl) (x : V) (dx : D) (lo hi : Option Int) (Q : VK) (Qd : D → Prop), Sta K F Hs M σ H ρ → Rep K Hs x dx →
  (∀ (v : V) (H' Hs' : Hp) (d : D), Ext Hs Hs' → Sta K F Hs' M σ H' ρ → Rep K Hs' v d → Qd d → Q v H') → op dx lo hi Qd → r x lo hi H Q
def TSl (op : OpS) (te : TEd) (tl th : TOd) : TEd := fun ρ M Q => te ρ M fun x M1 => tl ρ M1 fun l M2 => th ρ M2 fun h M3 => op x l h fun z => Q z M3
theorem ed_slice {e : Expr} {lo hi : Option Expr} {p2 : Pos} {r : V → Option Int → Option Int → Hp → VK → Prop} {op : OpS} {tl th : TO} {Tl Th : TOd} (hx : SlR X r) (hr : SemSl X.K r op) (h : ED X e te Te) (hl : OD X lo tl Tl) (hh : OD X hi th Th) : ED X (.Subscript e (.Slice lo hi none p2) pos) (tSl r te tl th) (TSl op Te Tl Th) :=
  ⟨pe_slice hx h.pe hl.pe hh.pe, fun F Hs M σ H ρ Q Qd S k q => h.se F Hs M σ H ρ _ _ S (fun x H1 Hs1 dx M1 e1 S1 r1 q1 => hl.se F Hs1 M1 σ H1 ρ _ _ S1 (fun l H2 Hs2 M2 e2 S2 q2 => hh.se F Hs2 M2 σ H2 ρ _ _ S2 (fun u H3 Hs3 M3 e3 S3 q3 =>
    hr F Hs3 M3 σ H3 ρ x dx l u Q _ S3 (r1.mono (e2.trans e3)) (fun v H4 Hs4 d e4 S4 r4 q4 => k v H4 Hs4 d M3 (((e1.trans e2).trans e3).trans e4) S4 r4 q4) q3) q2) q1) q⟩
end
end DL

namespace DL
open PySem PySem.Spec PyProof.Rows L2
/-! ## statements -/
section
variable {X : Cx} {pos : Pos} {ta tb te : TE} {Ta Tb Te : TEd} {tt tu : TT} {T U : TTd} {tr : TA} {R : TAd} {K : PySem.W.Frag} {ts tu' : TS} {Ts Us : TSd}
def TNext : TSd := fun Dd ρ M => Dd.nx ρ M
def TSeq (t u : TSd) : TSd := fun Dd ρ M => t { Dd with nx := fun ρ' M' => u Dd ρ' M' } ρ M
def TRet (t : TEd) : TSd := fun Dd ρ M => t ρ M Dd.rt
def TRetN : TSd := fun Dd _ M => Dd.rt .non M
def TSet (i : Nat) (t : TEd) : TSd := fun Dd ρ M => t ρ M fun d M1 => Dd.nx (ρ.set i (.val d)) M1
def TDrop (t : TEd) : TSd := fun Dd ρ M => t ρ M fun _ M1 => Dd.nx ρ M1
def TIf (c : TTd) (t u : TSd) : TSd := fun Dd ρ M => c ρ M fun b M1 => match b with
  | true => t Dd ρ M1
  | false => u Dd ρ M1
def TNever : TSd := fun _ _ _ => False
theorem bd_nil : BD X [] tNext TNext := ⟨pss_nil, fun F Hs M σ H ρ Dh Dd S k q => k.nx σ H Hs ρ M (Ext.refl _) S q⟩
theorem sem_seq (h : SemS K ts Ts) (h2 : SemS K tu' Us) : SemS K (tSeq ts tu') (TSeq Ts Us) := fun F Hs M σ H ρ Dh Dd S k q =>
  h F Hs M σ H ρ _ { Dd with nx := fun ρ' M' => Us Dd ρ' M' } S ⟨fun σ' H' Hs' ρ' M' e S' q' => h2 F Hs' M' σ' H' ρ' Dh Dd S' (k.mono e) q', k.rt, k.bk, k.ct⟩ q
theorem bd_cons {st : Stmt} {rest : List Stmt} (h : SD X st ts Ts) (h2 : BD X rest tu' Us) : BD X (st :: rest) (tSeq ts tu') (TSeq Ts Us) := ⟨pss_cons h.pe h2.pe, sem_seq h.se h2.se⟩
theorem bd_one {st : Stmt} (h : SD X st ts Ts) : BD X [st] ts Ts := ⟨pss_one h.pe, h.se⟩
theorem bd_never {sts : List Stmt} : BD X sts tNever TNever := ⟨pss_never, fun F Hs M σ H ρ Dh Dd S k q => q⟩
theorem sd_ret {e : Expr} (h : ED X e te Te) : SD X (.Return (some e) pos) (tRet te) (TRet Te) := ⟨ps_ret h.pe, fun F Hs M σ H ρ Dh Dd S k q => h.se F Hs M σ H ρ _ _ S (fun v H1 Hs1 d M1 e1 S1 r1 q1 => k.rt v H1 Hs1 d M1 e1 S1.drop r1 q1) q⟩
theorem sd_retN : SD X (.Return none pos) tRetN TRetN := ⟨ps_retN, fun F Hs M σ H ρ Dh Dd S k q => k.rt _ H Hs _ M (Ext.refl _) S.drop .non q⟩
theorem sem_set (i : Nat) (h : SemE K te Te) : SemS K (tAsg te (gName i)) (TSet i Te) := fun F Hs M σ H ρ Dh Dd S k q => h F Hs M σ H ρ _ _ S (fun v H1 Hs1 d M1 e1 S1 r1 q1 => k.nx _ H1 Hs1 _ M1 e1 (S1.set i r1) q1) q
theorem sd_set {i : Nat} {x : Str} {e : Expr} {pos' : Pos} (hN : X.N.Nodup) (hi : X.N[i]? = some x) (hx : Loc X.env.scope x) (he : ED X e te Te) (hs : swapsWith e (some (.Name x pos')) pos.line X.env = pure false := by rfl) (hf : X.fn x = true ∨ X.env.scope.names.lookup x = some .local := by first | exact .inl rfl | exact .inr rfl | assumption) : SD X (.Assign [.Name x pos'] e pos) (tAsg te (gName i)) (TSet i Te) := ⟨ps_set hN hi hx he.pe hs hf, sem_set i he.se⟩
theorem sd_expr {e : Expr} (h : ED X e te Te) (hs : swapsWith e none pos.line X.env = pure false := by rfl) : SD X (.Expr e pos) (tDrop te) (TDrop Te) := ⟨ps_expr h.pe hs, fun F Hs M σ H ρ Dh Dd S k q => h.se F Hs M σ H ρ _ _ S (fun v H1 Hs1 d M1 e1 S1 r1 q1 => k.nx _ H1 Hs1 _ M1 e1 S1 q1) q⟩
theorem sd_if {c : Expr} {a b : List Stmt} (hc : TD X c tt T) (ha : BD X a ts Ts) (hb : BD X b tu' Us) : SD X (.If c a b pos) (tIfS tt ts tu') (TIf T Ts Us) := by
  refine ⟨ps_if hc.pe ha.pe hb.pe, fun F Hs M σ H ρ Dh Dd S k q => hc.se F Hs M σ H ρ _ _ S (fun b H1 Hs1 M1 e1 S1 q1 => ?_) q⟩
  cases b with
  | true =>
    show (if true = true then ts Dh σ H1 else tu' Dh σ H1)
    rw [if_pos rfl]
    exact ha.se F Hs1 M1 σ H1 ρ _ _ S1 (k.mono e1) q1
  | false =>
    show (if false = true then ts Dh σ H1 else tu' Dh σ H1)
    rw [if_neg Bool.false_ne_true]
    exact hb.se F Hs1 M1 σ H1 ρ _ _ S1 (k.mono e1) q1
/-- a, b = x, y with plain local names -/
def TPar (i j : Nat) (t : TAd) : TSd := fun Dd ρ M => t ρ M fun ds M1 => match ds with
  | [a, b] => Dd.nx ((ρ.set i (.val a)).set j (.val b)) M1
  | _ => False
theorem sd_par {i j : Nat} {x y : Str} {a b : Expr} {px py pt : Pos} {kt k2 : Nat} {pt2 : Pos} (hc : X.calm = true) (hN : X.N.Nodup) (hi : X.N[i]? = some x) (hj : X.N[j]? = some y) (hij : i ≠ j)
    (hx : X.env.scope.names.lookup x = some .local) (hy : X.env.scope.names.lookup y = some .local) (ha : AD X [a, b] tr R)
    (hw : swappedStores [.Tuple [.Name x px, .Name y py] kt pt] (.Tuple [a, b] k2 pt2) X.env = pure (some [x, y]))
    (hs : swapsWithSole [.Tuple [.Name x px, .Name y py] kt pt] (.Tuple [a, b] k2 pt2) pos.line X.env = pure false := by rfl) :
    SD X (.Assign [.Tuple [.Name x px, .Name y py] kt pt] (.Tuple [a, b] k2 pt2) pos) (tPar i j tr) (TPar i j R) := by
  refine ⟨ps_par hc hN hi hj hij hx hy ha.pe hw hs, fun F Hs M σ H ρ Dh Dd S k q => ha.se F Hs M σ H ρ _ _ S (fun vs H1 Hs1 ds M1 e1 S1 r1 q1 => ?_) q⟩
  split at q1
  · rename_i a b
    cases r1 with
    | cons h1 t1 =>
      cases t1 with
      | cons h2 t2 =>
        cases t2
        exact ⟨_, _, rfl, k.nx _ H1 Hs1 _ M1 e1 ((S1.set i h1).set j h2) q1⟩
  · exact q1.elim
/-! ## targets -/
abbrev TGd := D → List Sl → Mem → (List Sl → Mem → Prop) → Prop
abbrev TGsd := List D → List Sl → Mem → (List Sl → Mem → Prop) → Prop
def SemG (K : PySem.W.Frag) (g : TG) (G : TGd) : Prop := ∀ (F Hs : Hp) (M : Mem) (σ : L2.St) (H : Hp) (ρ : List Sl) (v : V) (d : D) (Q : L2.St → Hp → Prop) (Qd : List Sl → Mem → Prop), Sta K F Hs M σ H ρ → Rep K Hs v d →
  (∀ (σ' : L2.St) (H' Hs' : Hp) (ρ' : List Sl) (M' : Mem), Ext Hs Hs' → Sta K F Hs' M' σ' H' ρ' → Qd ρ' M' → Q σ' H') → G d ρ M Qd → g v σ H Q
def SemGs (K : PySem.W.Frag) (g : TGs) (G : TGsd) : Prop := ∀ (F Hs : Hp) (M : Mem) (σ : L2.St) (H : Hp) (ρ : List Sl) (v : List V) (d : List D) (Q : L2.St → Hp → Prop) (Qd : List Sl → Mem → Prop), Sta K F Hs M σ H ρ → Reps K Hs v d →
  (∀ (σ' : L2.St) (H' Hs' : Hp) (ρ' : List Sl) (M' : Mem), Ext Hs Hs' → Sta K F Hs' M' σ' H' ρ' → Qd ρ' M' → Q σ' H') → G d ρ M Qd → g v σ H Q
structure GD (X : Cx) (tg : Expr) (g : TG) (G : TGd) : Prop where
  pe : PG X tg g
  se : SemG X.K g G
structure GsD (X : Cx) (tg : List Expr) (g : TGs) (G : TGsd) : Prop where
  pe : PGs X tg g
  se : SemGs X.K g G
def GName (i : Nat) : TGd := fun d ρ M Q => Q (ρ.set i (.val d)) M
def GNil : TGsd := fun ds ρ M Q => match ds with
  | [] => Q ρ M
  | _ => False
def GCons (g : TGd) (r : TGsd) : TGsd := fun ds ρ M Q => match ds with
  | d :: s => g d ρ M fun ρ' M' => r s ρ' M' Q
  | _ => False
def GTup (n : Nat) (g : TGsd) : TGd := fun d ρ M Q => match d with
  | .tup ds => ds.length = n ∧ g ds ρ M Q
  | _ => False
theorem gd_name {i : Nat} {x : Str} (hN : X.N.Nodup) (hi : X.N[i]? = some x) (hx : Loc X.env.scope x) (hf : X.fn x = true ∨ X.env.scope.names.lookup x = some .local := by first | exact .inl rfl | exact .inr rfl | assumption) : GD X (.Name x pos) (gName i) (GName i) :=
  ⟨pg_name hN hi hx hf, fun F Hs M σ H ρ v d Q Qd S r k q => k _ H Hs _ M (Ext.refl _) (S.set i r) q⟩
theorem gsd_nil : GsD X [] gNil GNil := ⟨pgs_nil, fun F Hs M σ H ρ v d Q Qd S r k q => by
  unfold GNil at q
  split at q
  · cases r
    exact ⟨rfl, k _ H Hs _ M (Ext.refl _) S q⟩
  · exact q.elim⟩
theorem gsd_cons {e : Expr} {es : List Expr} {g : TG} {G : TGd} {gs : TGs} {Gs : TGsd} (h : GD X e g G) (h2 : GsD X es gs Gs)
    (hs : (assignEach (e :: es) X.env).map (·.2) = assign e X.env :: (assignEach es X.env).map (·.2) := by rfl) : GsD X (e :: es) (gCons g gs) (GCons G Gs) := ⟨pgs_cons h.pe h2.pe hs, fun F Hs M σ H ρ v d Q Qd S r k q => by
  unfold GCons at q
  split at q
  · cases r with
    | cons r1 r2 => exact ⟨_, _, rfl, h.se F Hs M σ H ρ _ _ _ _ S r1 (fun σ' H' Hs' ρ' M' e S' q' => h2.se F Hs' M' σ' H' ρ' _ _ _ _ S' (r2.mono e) (fun σ2 H2 Hs2 ρ2 M2 e2 S2 q2 => k σ2 H2 Hs2 ρ2 M2 (e.trans e2) S2 q2) q') q⟩
  · exact q.elim⟩
theorem gd_tup {es : List Expr} {k n : Nat} {gs : TGs} {Gs : TGsd} (hc : X.calm = true) (h : GsD X es gs Gs) (hn : (assignEach es X.env).length = n := by rfl) (hst : (assignEach es X.env).findIdx? (·.1) = none := by rfl) : GD X (.Tuple es k pos) (gTup X.K n gs) (GTup n Gs) :=
  ⟨pg_tup hc h.pe hn hst, fun F Hs M σ H ρ v d Q Qd S r k q => by
  unfold GTup at q
  split at q
  · cases r with
    | tup h1 h2 h3 =>
      obtain ⟨ql, q⟩ := q
      refine ⟨_, _, rfl, sqT_ext S.hs h1, by rw [h3.length]; exact ql, h.se F Hs M σ H ρ _ _ _ _ S h3 k q⟩
  · exact q.elim⟩
def TAsg (t : TEd) (g : TGd) : TSd := fun Dd ρ M => t ρ M fun d M1 => g d ρ M1 Dd.nx
theorem sd_asg {tg e : Expr} {g : TG} {G : TGd} (he : ED X e te Te) (hg : GD X tg g G) (hs : swapsWithSole [tg] e pos.line X.env = pure false := by rfl) (hw : swappedStores [tg] e X.env = pure none := by rfl)
    (h1 : (assignEach [tg] X.env).map (·.2) = [assign tg X.env] := by rfl) : SD X (.Assign [tg] e pos) (tAsg te g) (TAsg Te G) := ⟨ps_asg he.pe hg.pe hs hw h1, fun F Hs M σ H ρ Dh Dd S k q =>
  he.se F Hs M σ H ρ _ _ S (fun v H1 Hs1 d M1 e1 S1 r1 q1 => hg.se F Hs1 M1 σ H1 ρ v d _ _ S1 r1 (fun σ' H' Hs' ρ' M' e S' q' => k.nx σ' H' Hs' ρ' M' (e1.trans e) S' q') q1) q⟩
/-! ## what is walked -/
def Yl (K : PySem.W.Frag) (J : It) (Hs : Hp) (ds : List D) : Prop := ∀ (F Hs1 : Hp) (M : Mem) (σ : L2.St) (H : Hp) (ρ : List Sl) (i : Nat), Ext Hs Hs1 → Sta K F Hs1 M σ H ρ →
  (∀ d, ds[i]? = some d → J.go i H ∧ ∀ (x : V) (H' : Hp), J.yld i H x H' → ∃ Hs2, Ext Hs1 Hs2 ∧ Sta K F Hs2 M σ H' ρ ∧ Rep K Hs2 x d) ∧ (ds.length ≤ i → J.stop i H)
abbrev TId := List Sl → Mem → (List D → Mem → Prop) → Prop
def SemI (K : PySem.W.Frag) (wi : TI) (T : TId) : Prop := ∀ (F Hs : Hp) (M : Mem) (σ : L2.St) (H : Hp) (ρ : List Sl) (R : It → Hp → Prop) (Qd : List D → Mem → Prop), Sta K F Hs M σ H ρ →
  (∀ (J : It) (H' Hs' : Hp) (ds : List D) (M' : Mem), Ext Hs Hs' → Sta K F Hs' M' σ H' ρ → Yl K J Hs' ds → Qd ds M' → R J H') → T ρ M Qd → wi σ H R
structure ID (X : Cx) (tg iter : Expr) (wi : TI) (T : TId) : Prop where
  pe : PI X tg iter wi
  se : SemI X.K wi T
def IList (t : TEd) : TId := fun ρ M Q => t ρ M fun d M1 => match d with
  | .lst ds => Q ds M1
  | _ => False
def ITup (t : TEd) : TId := fun ρ M Q => t ρ M fun d M1 => match d with
  | .tup ds => Q ds M1
  | _ => False
theorem yl_list {Hs : Hp} {a : Addr} {vs : List V} {ds : List D} (h : Hs a = some (.lst vs)) (r : Reps K Hs vs ds) : Yl K (Itl K a) Hs ds := fun F Hs1 M σ H ρ i e S => by
  have q := S.hs _ _ (e _ _ h)
  refine ⟨fun d hd => ?_, fun hi => ⟨vs, SqL.of q, by rw [r.length]; exact hi⟩⟩
  obtain ⟨v, hv, rv⟩ := r.get hd
  refine ⟨⟨vs, v, SqL.of q, hv⟩, fun x H' ⟨e1, y⟩ => ?_⟩
  subst e1
  have := y vs (SqL.of q)
  rw [hv] at this
  cases this
  exact ⟨Hs1, Ext.refl _, S, rv.mono e⟩
theorem yl_tup {Hs : Hp} {a : Addr} {vs : List V} {ds : List D} (h : SqT K Hs a vs) (r : Reps K Hs vs ds) : Yl K (Itt K a) Hs ds := fun F Hs1 M σ H ρ i e S => by
  have q := sqT_ext S.hs (sqT_ext e h)
  refine ⟨fun d hd => ?_, fun hi => ⟨vs, q, by rw [r.length]; exact hi⟩⟩
  obtain ⟨v, hv, rv⟩ := r.get hd
  refine ⟨⟨vs, v, q, hv⟩, fun x H' ⟨e1, y⟩ => ?_⟩
  subst e1
  have := y vs q
  rw [hv] at this
  cases this
  exact ⟨Hs1, Ext.refl _, S, rv.mono e⟩
theorem id_list {tg l : Expr} (h : ED X l te Te) : ID X tg l (iList X.K te) (IList Te) := ⟨pi_list h.pe, fun F Hs M σ H ρ R Qd S k q => h.se F Hs M σ H ρ _ _ S (fun v H1 Hs1 d M1 e1 S1 r1 q1 => by
  split at q1
  · cases r1 with
    | lst h1 h2 h3 => exact ⟨_, rfl, ⟨_, SqL.of (S1.hs _ _ h1)⟩, k _ H1 Hs1 _ M1 e1 S1 (yl_list h1 h3) q1⟩
  · exact q1.elim) q⟩
theorem id_tup {tg l : Expr} (h : ED X l te Te) : ID X tg l (iTup X.K te) (ITup Te) := ⟨pi_tup h.pe, fun F Hs M σ H ρ R Qd S k q => h.se F Hs M σ H ρ _ _ S (fun v H1 Hs1 d M1 e1 S1 r1 q1 => by
  split at q1
  · cases r1 with
    | tup h1 h2 h3 => exact ⟨_, rfl, ⟨_, sqT_ext S1.hs h1⟩, k _ H1 Hs1 _ M1 e1 S1 (yl_tup h1 h3) q1⟩
  · exact q1.elim) q⟩
def rangeD (lo hi : Int) : List D := (List.range (hi - lo).toNat).map fun (k : Nat) => D.int (lo + (k : Int))
def IRng1 (t : TAd) : TId := fun ρ M Q => t ρ M fun ds M1 => match ds with
  | [.int j] => (-(2 ^ 62) ≤ j ∧ j < 2 ^ 62) ∧ Q (rangeD 0 j) M1
  | _ => False
def IRng2 (t : TAd) : TId := fun ρ M Q => t ρ M fun ds M1 => match ds with
  | [.int i, .int j] => (-(2 ^ 62) ≤ i ∧ i < 2 ^ 62 ∧ -(2 ^ 62) ≤ j ∧ j < 2 ^ 62) ∧ Q (rangeD i j) M1
  | _ => False
theorem yl_range {Hs : Hp} (lo hi : Int) (n : Nat) (hn : n = (hi - lo).toNat) : Yl K (Itr lo n) Hs (rangeD lo hi) := fun F Hs1 M σ H ρ i e S => by
  have hl : (rangeD lo hi).length = n := by simp [rangeD, hn]
  refine ⟨fun d hd => ?_, fun hi => ?_⟩
  · have hlt : i < n := by
      rw [← hl]
      exact (List.getElem?_eq_some_iff.mp hd).1
    refine ⟨hlt, fun x H' ⟨e1, y⟩ => ?_⟩
    subst e1 y
    have : d = .int (lo + i) := by
      unfold rangeD at hd
      rw [List.getElem?_map, List.getElem?_range (by omega)] at hd
      exact (Option.some.inj hd).symm
    subst this
    exact ⟨Hs1, Ext.refl _, S, .int _⟩
  · rw [hl] at hi
    exact hi
theorem id_range1 {tg a : Expr} {p : Pos} (hg : Gl X "range") (hm : X.mg "range" = none) (ha : AD X [a] tr R) (hs : starEach [a] X.env = [(false, eval a X.env)] := by rfl) : ID X tg (.Call (.Name "range" p) [a] [] pos) (iRng1 tr) (IRng1 R) := ⟨pi_range1 hg hm ha.pe hs, fun F Hs M σ H ρ R Qd S k q => ha.se F Hs M σ H ρ _ _ S (fun vs H1 Hs1 ds M1 e1 S1 r1 q1 => by
  split at q1
  · rename_i j
    cases r1 with
    | cons h1 t1 =>
      cases t1
      cases h1
      exact ⟨j, rfl, q1.1.1, q1.1.2, k _ H1 Hs1 _ M1 e1 S1 (yl_range 0 j _ (by simp)) q1.2⟩
  · exact q1.elim) q⟩
theorem id_range2 {tg a b : Expr} {p : Pos} (hg : Gl X "range") (hm : X.mg "range" = none) (ha : AD X [a, b] tr R) (hs : starEach [a, b] X.env = [(false, eval a X.env), (false, eval b X.env)] := by rfl) (hs2 : starEach [b] X.env = [(false, eval b X.env)] := by rfl) : ID X tg (.Call (.Name "range" p) [a, b] [] pos) (iRng2 tr) (IRng2 R) := ⟨pi_range2 hg hm ha.pe hs hs2, fun F Hs M σ H ρ R Qd S k q => ha.se F Hs M σ H ρ _ _ S (fun vs H1 Hs1 ds M1 e1 S1 r1 q1 => by
  split at q1
  · rename_i i j
    cases r1 with
    | cons h1 t1 =>
      cases t1 with
      | cons h2 t2 =>
        cases t2
        cases h1
        cases h2
        exact ⟨i, j, rfl, q1.1, k _ H1 Hs1 _ M1 e1 S1 (yl_range i j _ rfl) q1.2⟩
  · exact q1.elim) q⟩
def charsD (x : Str) : List D := x.cps.toList.map fun c => .str ⟨#[c]⟩
def IStr (t : TEd) : TId := fun ρ M Q => t ρ M fun d M1 => match d with
  | .str x => Q (charsD x) M1
  | _ => False
theorem okS_char {x : Str} (h : okS x = true) {c : Nat} (hc : c ∈ x.cps.toList) : okS ⟨#[c]⟩ = true := by
  unfold okS PyData.strOk at *
  simp only [Bool.and_eq_true, decide_eq_true_eq] at *
  refine ⟨?_, by show (1 : Nat) ≤ 16777216; decide⟩
  have := Array.all_eq_true'.mp h.1 c (by simpa using hc)
  simpa using this
theorem id_str {tg l : Expr} (h : ED X l te Te) : ID X tg l (iStr te) (IStr Te) := ⟨pi_str h.pe, fun F Hs M σ H ρ R Qd S k q => h.se F Hs M σ H ρ _ _ S (fun v H1 Hs1 d M1 e1 S1 r1 q1 => by
  split at q1
  · rename_i x
    cases r1 with
    | str x hx =>
      refine ⟨x, rfl, k _ H1 Hs1 _ M1 e1 S1 (fun F' Hs2 M2 σ2 H2 ρ2 i e2 S2 => ?_) q1⟩
      have hl : (charsD x).length = x.cps.size := by simp [charsD]
      refine ⟨fun d hd => ?_, fun hi => by rw [hl] at hi; exact hi⟩
      have hlt : i < x.cps.size := by
        rw [← hl]
        exact (List.getElem?_eq_some_iff.mp hd).1
      refine ⟨hlt, fun y H' ⟨e3, c, hc, y3⟩ => ?_⟩
      subst e3 y3
      unfold charsD at hd
      rw [List.getElem?_map, show x.cps.toList[i]? = some c by simpa using hc] at hd
      cases hd
      exact ⟨Hs2, Ext.refl _, S2, .str _ (okS_char hx (List.mem_of_getElem? (by simpa using hc)))⟩
  · exact q1.elim) q⟩
/-! ## for -/
def forD (g : TGd) (b : TSd) : List D → TSd
  | [], Dd, ρ, M => Dd.nx ρ M
  | d :: r, Dd, ρ, M => g d ρ M fun ρ1 M1 => b ⟨fun ρ' M' => forD g b r Dd ρ' M', Dd.rt, Dd.nx, fun ρ' M' => forD g b r Dd ρ' M'⟩ ρ1 M1
def TFor (it : TId) (g : TGd) (b : TSd) : TSd := fun Dd ρ M => it ρ M fun ds M1 => forD g b ds Dd ρ M1
theorem sem_for {wi : TI} {T : TId} {g : TG} {G : TGd} {tb : TS} {B : TSd} (hi : SemI K wi T) (hg : SemG K g G) (hb : SemS K tb B) : SemS K (tFor wi g tb) (TFor T G B) := fun F Hs M σ H ρ Dh Dd S k q =>
  hi F Hs M σ H ρ _ _ S (fun J H1 Hs1 ds M1 e1 S1 y1 q1 => by
    have k1 := k.mono e1
    refine ⟨fun i m σ H => m = ds.length - i ∧ i ≤ ds.length ∧ ∃ Hs' ρ' M', Ext Hs1 Hs' ∧ Sta K F Hs' M' σ H ρ' ∧ forD G B (ds.drop i) Dd ρ' M', ⟨ds.length, by omega, Nat.zero_le _, Hs1, ρ, M1, Ext.refl _, S1, by simpa using q1⟩, ?_⟩
    rintro i m σ2 H2 ⟨rfl, hi, Hs2, ρ2, M2, e2, S2, q2⟩
    obtain ⟨y2, y3⟩ := y1 F Hs2 M2 σ2 H2 ρ2 i e2 S2
    by_cases hlt : i < ds.length
    · have hd : ds[i]? = some ds[i] := List.getElem?_eq_getElem hlt
      obtain ⟨go, yl⟩ := y2 _ hd
      rw [List.drop_eq_getElem_cons hlt] at q2
      refine .inr ⟨go, fun σ H => ∃ Hs' ρ' M', Ext Hs1 Hs' ∧ Sta K F Hs' M' σ H ρ' ∧ forD G B (ds.drop (i + 1)) Dd ρ' M', fun σ' H' h => ⟨ds.length - (i + 1), by omega, rfl, hlt, h⟩, fun x H3 hy => ?_⟩
      obtain ⟨Hs3, e3, S3, r3⟩ := yl x H3 hy
      refine hg F Hs3 M2 σ2 H3 ρ2 x _ _ _ S3 r3 (fun σ4 H4 Hs4 ρ4 M4 e4 S4 q4 => ?_) q2
      refine hb F Hs4 M4 σ4 H4 ρ4 _ _ S4 ?_ q4
      have e14 := (e2.trans e3).trans e4
      exact ⟨fun σ5 H5 Hs5 ρ5 M5 e5 S5 q5 => ⟨Hs5, ρ5, M5, e14.trans e5, S5, q5⟩, fun v H5 Hs5 d M5 e5 S5 r5 q5 => k1.rt v H5 Hs5 d M5 (e14.trans e5) S5 r5 q5, fun σ5 H5 Hs5 ρ5 M5 e5 S5 q5 => k1.nx σ5 H5 Hs5 ρ5 M5 (e14.trans e5) S5 q5, fun σ5 H5 Hs5 ρ5 M5 e5 S5 q5 => ⟨Hs5, ρ5, M5, e14.trans e5, S5, q5⟩⟩
    · have e : i = ds.length := by omega
      subst e
      rw [List.drop_length] at q2
      exact .inl ⟨y3 (Nat.le_refl _), k1.nx σ2 H2 Hs2 ρ2 M2 e2 S2 q2⟩) q
theorem sd_for {tg iter : Expr} {body : List Stmt} {wi : TI} {T : TId} {g : TG} {G : TGd} {tb : TS} {B : TSd} (hp : PassesOwn (model X.prog X.w) X.A X.env X.xe) (hc : X.calm = true) (hi : ID X tg iter wi T) (hg : GD X tg g G) (hb : BD X body tb B)
    (hs : ∀ x, foldedSetIterable iter X.env x = pure x := by intro _; rfl) : SD X (.For tg iter body [] pos) (tFor wi g tb) (TFor T G B) := ⟨ps_for hp hc hi.pe hg.pe hb.pe hs, sem_for hi.se hg.se hb.se⟩
theorem sd_break : SD X (.Break pos) tBreak (fun Dd ρ M => Dd.bk ρ M) := ⟨ps_break, fun F Hs M σ H ρ Dh Dd S k q => k.bk σ H Hs ρ M (Ext.refl _) S q⟩
theorem sd_pass : SD X (.Pass pos) tNext TNext := ⟨ps_pass, fun F Hs M σ H ρ Dh Dd S k q => k.nx σ H Hs ρ M (Ext.refl _) S q⟩
end
end DL

namespace DL
open PySem PySem.Spec PyProof.Rows L2
section
variable {K : PySem.W.Frag} {F Hs Hs1 : Hp} {M M' : Mem} {σ : L2.St} {H H' : Hp} {ρ : List Sl}
/-- a new object that no one knows yet -/
theorem Sta.alloc (S : Sta K F Hs M σ H ρ) {p : Addr} (n : H p = none) (o : HO) : Sta K F Hs M σ (upd H p o) ρ := by
  have neH : ∀ a u, H a = some u → a ≠ p := fun a u e z => by rw [z, n] at e; cases e
  refine ⟨fun a u e => ?_, fun a u e => ?_, S.dj, fun a m e => ?_, S.ln, S.vl, fun i ds e => ?_⟩
  · have q := S.hs a u e
    rw [upd_ne (neH a u q)]; exact q
  · have q := S.fr a u e
    rw [upd_ne (neH a u q)]; exact q
  · obtain ⟨q1, q2, q3⟩ := S.me a m e
    exact ⟨q1.mono (Ext.refl _) fun w q => by rw [upd_ne (neH a w q)]; exact q, q2, q3⟩
  · obtain ⟨a, vs, q1, q2, q3, q4, q5, q6, q7, q8⟩ := S.ow i ds e
    exact ⟨a, vs, q1, by rw [upd_ne (neH a _ q2)]; exact q2, q3, q4, q5, q6, q7, q8⟩
/-- an own list stored into a slot -/
theorem Sta.setOwn (S : Sta K F Hs M σ H ρ) {a : Addr} {vs : List V} {ds : List D} (i : Nat) (h : H a = some (.lst vs)) (hl : vs.length ≤ 16777216) (r : Reps K Hs vs ds) (n1 : Hs a = none) (n2 : F a = none) (n3 : M a = none)
    (un : ∀ (j : Nat) (es : List D), j ≠ i → ρ[j]? = some (Sl.own es) → σ[j]? ≠ some (some (V.ref a))) : Sta K F Hs M (σ.set i (some (.ref a))) H (ρ.set i (.own ds)) := by
  have hln := S.ln
  refine ⟨S.hs, S.fr, S.dj, S.me, by simpa using S.ln, fun j e q => ?_, fun j es q => ?_⟩
  · by_cases h : i = j
    · subst h
      by_cases hi : i < ρ.length
      · rw [List.getElem?_set_self hi] at q; cases q
      · rw [List.getElem?_eq_none (by simpa using hi)] at q; cases q
    · rw [List.getElem?_set_ne h] at q ⊢
      exact S.vl j e q
  · by_cases h2 : i = j
    · subst h2
      by_cases hi : i < ρ.length
      · rw [List.getElem?_set_self hi] at q
        cases q
        refine ⟨a, vs, List.getElem?_set_self (by omega), h, hl, r, n1, n2, n3, fun k es hk qk => ?_⟩
        rw [List.getElem?_set_ne (Ne.symm hk)] at qk ⊢
        exact un k es hk qk
      · rw [List.getElem?_eq_none (by simpa using hi)] at q; cases q
    · rw [List.getElem?_set_ne h2] at q
      obtain ⟨b, ws, q1, q2, q3, q4, q5, q6, q7, q8⟩ := S.ow j es q
      refine ⟨b, ws, by rw [List.getElem?_set_ne h2]; exact q1, q2, q3, q4, q5, q6, q7, fun k es' hk qk => ?_⟩
      by_cases hik : i = k
      · subst hik
        by_cases hi : i < ρ.length
        · rw [List.getElem?_set_self (by omega)]
          intro z
          cases z
          exact un j es (Ne.symm h2) q q1
        · rw [List.getElem?_eq_none (by simpa using hi)] at qk; cases qk
      · rw [List.getElem?_set_ne hik] at qk ⊢
        exact q8 k es' hk qk
/-- an own list changed -/
theorem Sta.mutOwn (S : Sta K F Hs M σ H ρ) {i : Nat} {ds es : List D} (e : ρ[i]? = some (Sl.own ds)) {a : Addr} {vs ws : List V} (ha : σ[i]? = some (some (V.ref a))) (h : H a = some (.lst vs)) (hl : ws.length ≤ 16777216) (r : Reps K Hs ws es) :
    Sta K F Hs M σ (upd H a (.lst ws)) (ρ.set i (.own es)) := by
  have hln := S.ln
  obtain ⟨a', vs', q1, q2, q3, q4, q5, q6, q7, q8⟩ := S.ow i ds e
  have ea : a' = a := by rw [ha] at q1; cases q1; rfl
  subst ea
  have hi : i < ρ.length := (List.getElem?_eq_some_iff.mp e).1
  refine ⟨fun b u eb => ?_, fun b u eb => ?_, S.dj, fun b m eb => ?_, by simpa using S.ln, fun j d q => ?_, fun j fs q => ?_⟩
  · rw [upd_ne (fun z => by rw [z, q5] at eb; cases eb)]; exact S.hs b u eb
  · rw [upd_ne (fun z => by rw [z, q6] at eb; cases eb)]; exact S.fr b u eb
  · obtain ⟨m1, m2, m3⟩ := S.me b m eb
    refine ⟨m1.mono (Ext.refl _) fun w q => ?_, m2, m3⟩
    rw [upd_ne (fun z => by rw [z, q7] at eb; cases eb)]; exact q
  · by_cases h2 : i = j
    · subst h2
      rw [List.getElem?_set_self hi] at q; cases q
    · rw [List.getElem?_set_ne h2] at q
      exact S.vl j d q
  · by_cases h2 : i = j
    · subst h2
      rw [List.getElem?_set_self hi] at q
      cases q
      refine ⟨a', ws, ha, upd_same, hl, r, q5, q6, q7, fun k es' hk qk => ?_⟩
      rw [List.getElem?_set_ne (Ne.symm hk)] at qk
      exact q8 k es' hk qk
    · rw [List.getElem?_set_ne h2] at q
      obtain ⟨b, xs, p1, p2, p3, p4, p5, p6, p7, p8⟩ := S.ow j fs q
      have ne : b ≠ a' := fun z => by
        subst z
        exact q8 j fs (Ne.symm h2) q p1
      refine ⟨b, xs, p1, by rw [upd_ne ne]; exact p2, p3, p4, p5, p6, p7, fun k es' hk qk => ?_⟩
      by_cases hik : i = k
      · subst hik
        rw [ha]
        intro z
        cases z
        exact ne rfl
      · rw [List.getElem?_set_ne hik] at qk
        exact p8 k es' hk qk
/-- an own list is known from now on -/
def frz (i : Nat) (ρ : List Sl) : List Sl := match ρ[i]? with
  | some (.own ds) => ρ.set i (.val (.lst ds))
  | _ => ρ
theorem Sta.frz (S : Sta K F Hs M σ H ρ) (i : Nat) : ∃ Hs', Ext Hs Hs' ∧ Sta K F Hs' M σ H (frz i ρ) := by
  unfold DL.frz
  split
  · rename_i ds e
    have hln := S.ln
    have hi : i < ρ.length := (List.getElem?_eq_some_iff.mp e).1
    obtain ⟨a, vs, q1, q2, q3, q4, q5, q6, q7, q8⟩ := S.ow i ds e
    have x : Ext Hs (upd Hs a (.lst vs)) := Ext.new q5
    refine ⟨_, x, ⟨fun b u eb => ?_, S.fr, fun b u eb => ?_, fun b m eb => ?_, by simpa using S.ln, fun j d q => ?_, fun j fs q => ?_⟩⟩
    · by_cases h : b = a
      · subst h; rw [upd_same] at eb; rw [q2]; exact eb
      · rw [upd_ne h] at eb; exact S.hs b u eb
    · rw [upd_ne (fun z => by rw [z, q6] at eb; cases eb)]; exact S.dj b u eb
    · obtain ⟨m1, m2, m3⟩ := S.me b m eb
      refine ⟨m1.mono x fun w q => q, ?_, m3⟩
      rw [upd_ne (fun z => by rw [z, q7] at eb; cases eb)]; exact m2
    · by_cases h2 : i = j
      · subst h2
        rw [List.getElem?_set_self hi] at q
        cases q
        exact ⟨_, q1, .lst upd_same q3 (q4.mono x)⟩
      · rw [List.getElem?_set_ne h2] at q
        obtain ⟨v, p1, p2⟩ := S.vl j d q
        exact ⟨v, p1, p2.mono x⟩
    · by_cases h2 : i = j
      · subst h2
        rw [List.getElem?_set_self hi] at q; cases q
      · rw [List.getElem?_set_ne h2] at q
        obtain ⟨b, xs, p1, p2, p3, p4, p5, p6, p7, p8⟩ := S.ow j fs q
        have ne : b ≠ a := fun z => by
          subst z
          exact q8 j fs (Ne.symm h2) q p1
        refine ⟨b, xs, p1, p2, p3, p4.mono x, by rw [upd_ne ne]; exact p5, p6, p7, fun k es' hk qk => ?_⟩
        by_cases hik : i = k
        · subst hik
          rw [List.getElem?_set_self hi] at qk; cases qk
        · rw [List.getElem?_set_ne hik] at qk
          exact p8 k es' hk qk
  · exact ⟨Hs, Ext.refl _, S⟩
end
section
variable {X : Cx} {pos : Pos} {ta tb te : TE} {Ta Tb Te : TEd} {tt tu : TT} {T U : TTd} {tr : TA} {R : TAd} {K : PySem.W.Frag} {ts tu' : TS} {Ts Us : TSd}
/-- the own list in slot i is known from here on -/
def TFrz (i : Nat) (t : TSd) : TSd := fun Dd ρ M => t Dd (frz i ρ) M
theorem bd_frz {sts : List Stmt} (i : Nat) (h : BD X sts ts Ts) : BD X sts ts (TFrz i Ts) := ⟨h.pe, fun F Hs M σ H ρ Dh Dd S k q => by
  obtain ⟨Hs', e, S'⟩ := S.frz i
  exact h.se F Hs' M σ H _ Dh Dd S' (k.mono e) q⟩
/-! ## an expression that gives a new list -/
def KF (K : PySem.W.Frag) (F Hs : Hp) (σ : L2.St) (ρ : List Sl) (Q : VK) (Qd : List D → Mem → Prop) : Prop :=
  ∀ (a : Addr) (vs : List V) (H' Hs' : Hp) (ds : List D) (M' : Mem), Ext Hs Hs' → Sta K F Hs' M' σ H' ρ → H' a = some (.lst vs) → vs.length ≤ 16777216 → Reps K Hs' vs ds → Hs' a = none → F a = none → M' a = none → (∀ (j : Nat) (es : List D), ρ[j]? = some (Sl.own es) → σ[j]? ≠ some (some (V.ref a))) → Qd ds M' → Q (.ref a) H'
def SemF (K : PySem.W.Frag) (t : TE) (T : TAd) : Prop := ∀ (F Hs : Hp) (M : Mem) (σ : L2.St) (H : Hp) (ρ : List Sl) (Q : VK) (Qd : List D → Mem → Prop), Sta K F Hs M σ H ρ → KF K F Hs σ ρ Q Qd → T ρ M Qd → t σ H Q
structure FD (X : Cx) (e : Expr) (t : TE) (T : TAd) : Prop where
  pe : PE X e t
  se : SemF X.K t T
theorem own_ne {F Hs : Hp} {M : Mem} {σ : L2.St} {H : Hp} {ρ : List Sl} (S : Sta K F Hs M σ H ρ) {p : Addr} (n : H p = none) : ∀ (j : Nat) (es : List D), ρ[j]? = some (Sl.own es) → σ[j]? ≠ some (some (V.ref p)) := fun j es e z => by
  obtain ⟨a, vs, q1, q2, _⟩ := S.ow j es e
  rw [z] at q1
  cases q1
  rw [n] at q2; cases q2
def TLstF (t : TAd) : TAd := fun ρ M Q => t ρ M fun ds M1 => ds.length ≤ 16777216 ∧ Q ds M1
theorem fd_lst {es : List Expr} (hr : AD X es tr R) : FD X (.List es pos) (tLst tr) (TLstF R) := by
  refine ⟨pe_lst hr.pe, fun F Hs M σ H ρ Q Qd S k q => hr.se F Hs M σ H ρ _ _ S (fun vs H1 Hs1 ds M1 e1 S1 r1 ⟨ql, q1⟩ => ?_) q⟩
  have hl := r1.length
  refine ⟨by rw [line_eq]; omega, fun p np => ?_⟩
  obtain ⟨n1, n2, n3⟩ := S1.fresh np
  exact k p vs _ Hs1 ds M1 e1 (S1.alloc np _) upd_same (by omega) r1 n1 n2 n3 (own_ne S1 np) q1
def TSetOwn (i : Nat) (t : TAd) : TSd := fun Dd ρ M => t ρ M fun ds M1 => Dd.nx (ρ.set i (.own ds)) M1
theorem sem_setOwn (i : Nat) (h : SemF K te R) : SemS K (tAsg te (gName i)) (TSetOwn i R) := fun F Hs M σ H ρ Dh Dd S k q => h F Hs M σ H ρ _ _ S (fun a vs H1 Hs1 ds M1 e1 S1 h1 hl r1 n1 n2 n3 un q1 => k.nx _ H1 Hs1 _ M1 e1 (S1.setOwn i h1 hl r1 n1 n2 n3 fun j es _ => un j es) q1) q
theorem sd_setOwn {i : Nat} {x : Str} {e : Expr} {pos' : Pos} (hN : X.N.Nodup) (hi : X.N[i]? = some x) (hx : Loc X.env.scope x) (he : FD X e te R) (hs : swapsWith e (some (.Name x pos')) pos.line X.env = pure false := by rfl) (hf : X.fn x = true ∨ X.env.scope.names.lookup x = some .local := by first | exact .inl rfl | exact .inr rfl | assumption) : SD X (.Assign [.Name x pos'] e pos) (tAsg te (gName i)) (TSetOwn i R) := ⟨ps_set hN hi hx he.pe hs hf, sem_setOwn i he.se⟩
/-! ## append, extend on an own list -/
def TApp (i : Nat) (t : TEd) : TSd := fun Dd ρ M => match ρ[i]? with
  | some (.own ds) => t ρ M fun d M1 => ds.length < 16777216 ∧ Dd.nx (ρ.set i (.own (ds ++ [d]))) M1
  | _ => False
def TExt (i : Nat) (t : TEd) : TSd := fun Dd ρ M => match ρ[i]? with
  | some (.own ds) => t ρ M fun d M1 => match d with
    | .lst es => ds.length + es.length ≤ 16777216 ∧ Dd.nx (ρ.set i (.own (ds ++ es))) M1
    | _ => False
  | _ => False
theorem sem_app (i : Nat) (h : SemE K te Te) : SemS K (tDrop (tBM K "list" rAppend (tVar i) (tCons te tNil))) (TApp i Te) := fun F Hs M σ H ρ Dh Dd S k q => by
  unfold TApp at q
  split at q
  · rename_i ds e
    obtain ⟨a, vs, q1, q2, q3, q4, q5, q6, q7, q8⟩ := S.ow i ds e
    refine ⟨_, q1, .inl ⟨rfl, vs, SqL.of q2⟩, h F Hs M σ H ρ _ _ S (fun v H1 Hs1 d M1 e1 S1 r1 ⟨ql, p1⟩ => ?_) q⟩
    obtain ⟨a', vs', p2, p3, p4, p5, _⟩ := S1.ow i ds e
    have ea : a' = a := by rw [q1] at p2; cases p2; rfl
    subst ea
    have hl := p5.length
    refine ⟨a', vs', v, rfl, rfl, p3, by rw [line_eq]; omega, ?_⟩
    exact k.nx _ _ Hs1 _ M1 e1 (S1.mutOwn e q1 p3 (by simp; omega) (p5.append (.one r1))) p1
  · exact q.elim
theorem sem_ext (i : Nat) (h : SemE K te Te) : SemS K (tDrop (tBM K "list" rExtend (tVar i) (tCons te tNil))) (TExt i Te) := fun F Hs M σ H ρ Dh Dd S k q => by
  unfold TExt at q
  split at q
  · rename_i ds e
    obtain ⟨a, vs, q1, q2, q3, q4, q5, q6, q7, q8⟩ := S.ow i ds e
    refine ⟨_, q1, .inl ⟨rfl, vs, SqL.of q2⟩, h F Hs M σ H ρ _ _ S (fun v H1 Hs1 d M1 e1 S1 r1 p1 => ?_) q⟩
    split at p1
    · rename_i es
      obtain ⟨ql, p1⟩ := p1
      obtain ⟨a', vs', p2, p3, p4, p5, _⟩ := S1.ow i ds e
      have ea : a' = a := by rw [q1] at p2; cases p2; rfl
      subst ea
      have hl := p5.length
      cases r1 with
      | lst h1 h2 h3 =>
        have hl2 := h3.length
        refine ⟨a', _, vs', _, rfl, rfl, p3, S1.hs _ _ h1, by rw [line_eq]; omega, ?_⟩
        exact k.nx _ _ Hs1 _ M1 e1 (S1.mutOwn e q1 p3 (by simp; omega) (p5.append h3)) p1
    · exact p1.elim
  · exact q.elim
theorem sd_app {i : Nat} {o e : Expr} {apos cpos : Pos} (ho : PE X o (tVar i)) (he : ED X e te Te)
    (hbase : attributeBase o "append" X.env (eval o X.env) = eval o X.env := by rfl)
    (hfew : ((backTo cpos (starEach [e] X.env)).all (fun x => !x.1) && (backToKw cpos (keywordEach [] X.env)).all (fun x => x.1.isSome)
      && decide (([e] : List Expr).length + ([] : List Keyword).length + (if ([] : List Keyword).isEmpty then 0 else 1) < 30)) = true := by rfl)
    (hline : (apos.endLine == cpos.line) = true := by rfl) (hs : starEach [e] X.env = (false, eval e X.env) :: starEach [] X.env := by rfl) (hplain : (backTo cpos (starEach [] X.env)).any (·.1) = false := by rfl) (hsw : swapsWith (.Call (.Attribute o "append" apos) [e] [] cpos) none pos.line X.env = pure false := by rfl) :
    SD X (.Expr (.Call (.Attribute o "append" apos) [e] [] cpos) pos) (tDrop (tBM X.K "list" rAppend (tVar i) (tCons te tNil))) (TApp i Te) :=
  ⟨ps_expr (pe_bm PySem.F.plainAttrs_list PySem.F.slot_list_append PySem.F.type_list_append mt_append ho (pa_cons he.pe pa_nil hs) hbase hfew hline hs hplain) hsw, sem_app i he.se⟩
theorem sd_ext {i : Nat} {o e : Expr} {apos cpos : Pos} (ho : PE X o (tVar i)) (he : ED X e te Te)
    (hbase : attributeBase o "extend" X.env (eval o X.env) = eval o X.env := by rfl)
    (hfew : ((backTo cpos (starEach [e] X.env)).all (fun x => !x.1) && (backToKw cpos (keywordEach [] X.env)).all (fun x => x.1.isSome)
      && decide (([e] : List Expr).length + ([] : List Keyword).length + (if ([] : List Keyword).isEmpty then 0 else 1) < 30)) = true := by rfl)
    (hline : (apos.endLine == cpos.line) = true := by rfl) (hs : starEach [e] X.env = (false, eval e X.env) :: starEach [] X.env := by rfl) (hplain : (backTo cpos (starEach [] X.env)).any (·.1) = false := by rfl) (hsw : swapsWith (.Call (.Attribute o "extend" apos) [e] [] cpos) none pos.line X.env = pure false := by rfl) :
    SD X (.Expr (.Call (.Attribute o "extend" apos) [e] [] cpos) pos) (tDrop (tBM X.K "list" rExtend (tVar i) (tCons te tNil))) (TExt i Te) :=
  ⟨ps_expr (pe_bm PySem.F.plainAttrs_list PySem.F.slot_list_extend PySem.F.type_list_extend mt_extend ho (pa_cons he.pe pa_nil hs) hbase hfew hline hs hplain) hsw, sem_ext i he.se⟩
end
end DL

namespace DL
open PySem PySem.Spec PyProof.Rows L2
/-! ## frames: a call, a block -/
def cfr (Hs : Hp) (M : Mem) (H : Hp) : Hp := fun a => if (Hs a).isNone = true ∧ (M a).isNone = true then H a else none
def unown : List Sl → List Sl
  | [] => []
  | .own _ :: r => .no :: unown r
  | x :: r => x :: unown r
theorem unown_len : ∀ ρ : List Sl, (unown ρ).length = ρ.length
  | [] => rfl
  | .own _ :: r => by show (unown r).length + 1 = r.length + 1; rw [unown_len r]
  | .no :: r => by show (unown r).length + 1 = r.length + 1; rw [unown_len r]
  | .val _ :: r => by show (unown r).length + 1 = r.length + 1; rw [unown_len r]
theorem unown_val : ∀ {ρ : List Sl} {i : Nat} {d : D}, (unown ρ)[i]? = some (Sl.val d) → ρ[i]? = some (Sl.val d)
  | [], i, d, h => by simp [unown] at h
  | .own _ :: r, 0, d, h => by simp [unown] at h
  | .no :: r, 0, d, h => by simp [unown] at h
  | .val _ :: r, 0, d, h => by simpa [unown] using h
  | .own _ :: r, i + 1, d, h => by simpa using unown_val (ρ := r) (by simpa [unown] using h)
  | .no :: r, i + 1, d, h => by simpa using unown_val (ρ := r) (by simpa [unown] using h)
  | .val _ :: r, i + 1, d, h => by simpa using unown_val (ρ := r) (by simpa [unown] using h)
theorem unown_own : ∀ {ρ : List Sl} {i : Nat} {d : List D}, (unown ρ)[i]? = some (Sl.own d) → False
  | [], i, d, h => by simp [unown] at h
  | .own _ :: r, 0, d, h => by simp [unown] at h
  | .no :: r, 0, d, h => by simp [unown] at h
  | .val _ :: r, 0, d, h => by simp [unown] at h
  | .own _ :: r, i + 1, d, h => unown_own (ρ := r) (i := i) (by simpa [unown] using h)
  | .no :: r, i + 1, d, h => unown_own (ρ := r) (i := i) (by simpa [unown] using h)
  | .val _ :: r, i + 1, d, h => unown_own (ρ := r) (i := i) (by simpa [unown] using h)
section
variable {K : PySem.W.Frag} {F Hs Hs' F' : Hp} {M M' : Mem} {σ σ' : L2.St} {H H' : Hp} {ρ ρ' : List Sl}
theorem cfr_some {a : Addr} {o : HO} (h : cfr Hs M H a = some o) : Hs a = none ∧ M a = none ∧ H a = some o := by
  unfold cfr at h
  split at h
  · rename_i q
    exact ⟨Option.isNone_iff_eq_none.mp q.1, Option.isNone_iff_eq_none.mp q.2, h⟩
  · cases h
theorem cfr_of {a : Addr} (h1 : Hs a = none) (h2 : M a = none) : cfr Hs M H a = H a := by
  unfold cfr
  rw [if_pos ⟨by rw [h1]; rfl, by rw [h2]; rfl⟩]
theorem cfr_none {a : Addr} {m : MO} (h : M a = some m) : cfr Hs M H a = none := by
  unfold cfr
  rw [if_neg]
  rw [h]
  rintro ⟨_, q⟩
  cases q
theorem Sta.enframe (S : Sta K F Hs M σ H ρ) : Sta K (cfr Hs M H) Hs M σ H (unown ρ) :=
  ⟨S.hs, fun a o e => (cfr_some e).2.2, fun a o e => (cfr_some e).1, fun a m e => ⟨(S.me a m e).1, (S.me a m e).2.1, cfr_none e⟩, by rw [unown_len]; exact S.ln, fun i d e => S.vl i d (unown_val e), fun i d e => (unown_own e).elim⟩
theorem Sta.unframe (S : Sta K F Hs M σ H ρ) (S' : Sta K (cfr Hs M H) Hs' M' σ' H' ρ') (x : Ext Hs Hs') : Sta K F Hs' M' σ H' ρ := by
  have inF : ∀ a o, F a = some o → cfr Hs M H a = some o := fun a o e => by
    have h1 := S.dj a o e
    have h2 : M a = none := by
      cases q : M a with
      | none => rfl
      | some m =>
        have := (S.me a m q).2.2
        rw [e] at this; cases this
    rw [cfr_of h1 h2]; exact S.fr a o e
  refine ⟨S'.hs, fun a o e => S'.fr a o (inF a o e), fun a o e => S'.dj a o (inF a o e), fun a m e => ?_, S.ln, fun i d e => ?_, fun i ds e => ?_⟩
  · obtain ⟨m1, m2, m3⟩ := S'.me a m e
    refine ⟨m1, m2, ?_⟩
    cases q : F a with
    | none => rfl
    | some o => rw [inF a o q] at m3; cases m3
  · obtain ⟨v, q1, q2⟩ := S.vl i d e
    exact ⟨v, q1, q2.mono x⟩
  · obtain ⟨a, vs, q1, q2, q3, q4, q5, q6, q7, q8⟩ := S.ow i ds e
    have c : cfr Hs M H a = some (.lst vs) := by rw [cfr_of q5 q7]; exact q2
    refine ⟨a, vs, q1, S'.fr _ _ c, q3, q4.mono x, S'.dj _ _ c, q6, ?_, q8⟩
    cases q : M' a with
    | none => rfl
    | some m =>
      have := (S'.me a m q).2.2
      rw [c] at this; cases this
/-- a framed object changed -/
theorem Sta.mutF (S : Sta K F Hs M σ H ρ) {p : Addr} {o o' : HO} (h : F p = some o) : Sta K (upd F p o') Hs M σ (upd H p o') ρ := by
  have hp := S.fr p o h
  have n1 := S.dj p o h
  have n2 : M p = none := by
    cases q : M p with
    | none => rfl
    | some m =>
      have := (S.me p m q).2.2
      rw [h] at this; cases this
  refine ⟨fun a u e => ?_, fun a u e => ?_, fun a u e => ?_, fun a m e => ?_, S.ln, S.vl, fun i ds e => ?_⟩
  · rw [upd_ne (fun z => by rw [z, n1] at e; cases e)]; exact S.hs a u e
  · by_cases q : a = p
    · subst q; rw [upd_same] at e ⊢; exact e
    · rw [upd_ne q] at e ⊢; exact S.fr a u e
  · by_cases q : a = p
    · subst q; exact n1
    · rw [upd_ne q] at e; exact S.dj a u e
  · obtain ⟨m1, m2, m3⟩ := S.me a m e
    have ne : a ≠ p := fun z => by rw [z, n2] at e; cases e
    exact ⟨m1.mono (Ext.refl _) fun w q => by rw [upd_ne ne]; exact q, m2, by rw [upd_ne ne]; exact m3⟩
  · obtain ⟨a, vs, q1, q2, q3, q4, q5, q6, q7, q8⟩ := S.ow i ds e
    have ne : a ≠ p := fun z => by rw [z, h] at q6; cases q6
    exact ⟨a, vs, q1, by rw [upd_ne ne]; exact q2, q3, q4, q5, by rw [upd_ne ne]; exact q6, q7, q8⟩
/-- a new object, framed -/
theorem Sta.allocF (S : Sta K F Hs M σ H ρ) {p : Addr} (n : H p = none) (o : HO) : Sta K (upd F p o) Hs M σ (upd H p o) ρ := by
  obtain ⟨n1, n2, n3⟩ := S.fresh n
  have S1 := S.alloc n o
  have neH : ∀ a u, H a = some u → a ≠ p := fun a u e z => by rw [z, n] at e; cases e
  refine ⟨S1.hs, fun a u e => ?_, fun a u e => ?_, fun a m e => ?_, S1.ln, S1.vl, fun i ds e => ?_⟩
  · by_cases q : a = p
    · subst q; rw [upd_same] at e ⊢; exact e
    · rw [upd_ne q] at e ⊢; exact S.fr a u e
  · by_cases q : a = p
    · subst q; exact n1
    · rw [upd_ne q] at e; exact S.dj a u e
  · obtain ⟨m1, m2, m3⟩ := S1.me a m e
    have ne : a ≠ p := fun z => by rw [z, n3] at e; cases e
    exact ⟨m1, m2, by rw [upd_ne ne]; exact m3⟩
  · obtain ⟨a, vs, q1, q2, q3, q4, q5, q6, q7, q8⟩ := S.ow i ds e
    have ne := neH a _ q2
    exact ⟨a, vs, q1, by rw [upd_ne ne]; exact q2, q3, q4, q5, by rw [upd_ne ne]; exact q6, q7, q8⟩
/-- a list that no one knows is known from now on -/
theorem Sta.know (S : Sta K F Hs M σ H ρ) {a : Addr} {vs : List V} (h : H a = some (.lst vs)) (n1 : Hs a = none) (n2 : F a = none) (n3 : M a = none)
    (un : ∀ (j : Nat) (es : List D), ρ[j]? = some (Sl.own es) → σ[j]? ≠ some (some (V.ref a))) : Sta K F (upd Hs a (.lst vs)) M σ H ρ ∧ Ext Hs (upd Hs a (.lst vs)) := by
  have x : Ext Hs (upd Hs a (.lst vs)) := Ext.new n1
  refine ⟨⟨fun b u e => ?_, S.fr, fun b u e => ?_, fun b m e => ?_, S.ln, fun i d e => ?_, fun i ds e => ?_⟩, x⟩
  · by_cases q : b = a
    · subst q; rw [upd_same] at e; rw [h]; exact e
    · rw [upd_ne q] at e; exact S.hs b u e
  · rw [upd_ne (fun z => by rw [z, n2] at e; cases e)]; exact S.dj b u e
  · obtain ⟨m1, m2, m3⟩ := S.me b m e
    exact ⟨m1.mono x fun w q => q, by rw [upd_ne (fun z => by rw [z, n3] at e; cases e)]; exact m2, m3⟩
  · obtain ⟨v, q1, q2⟩ := S.vl i d e
    exact ⟨v, q1, q2.mono x⟩
  · obtain ⟨b, ws, q1, q2, q3, q4, q5, q6, q7, q8⟩ := S.ow i ds e
    have ne : b ≠ a := fun z => by subst z; exact un i ds e q1
    exact ⟨b, ws, q1, q2, q3, q4.mono x, by rw [upd_ne ne]; exact q5, q6, q7, q8⟩
end
theorem sem_of_F {K : PySem.W.Frag} {t : TE} {T : TAd} (h : SemF K t T) : SemE K t (fun ρ M Q => T ρ M fun ds M1 => Q (.lst ds) M1) := fun F Hs M σ H ρ Q Qd S k q =>
  h F Hs M σ H ρ _ _ S (fun a vs H' Hs' ds M' e S' h' hl r n1 n2 n3 un q' => by
    obtain ⟨S2, x2⟩ := S'.know h' n1 n2 n3 un
    exact k _ H' _ _ M' (e.trans x2) S2 (.lst upd_same hl (r.mono x2)) q') q
/-! ## comprehensions -/
theorem wipe_get (σ : L2.St) : ∀ (vs : List Nat) (j : Nat), (wipe σ vs)[j]? = if j ∈ vs then (σ[j]?).map (fun _ => none) else σ[j]?
  | [], j => by simp [wipe]
  | v :: vs, j => by
    unfold wipe
    by_cases h : v = j
    · subst h
      rw [List.getElem?_set]
      simp only [if_true, List.mem_cons, true_or, wipe_length]
      by_cases hl : v < σ.length
      · rw [if_pos hl, List.getElem?_eq_getElem hl]; rfl
      · rw [if_neg hl, List.getElem?_eq_none (by omega)]; rfl
    · rw [List.getElem?_set_ne h, wipe_get σ vs j]
      simp [Ne.symm h]
theorem wipe_set {σ : L2.St} {i : Nat} {vs : List Nat} (o : Option V) (h : i ∈ vs) : wipe (σ.set i o) vs = wipe σ vs := by
  apply List.ext_getElem?
  intro j
  rw [wipe_get, wipe_get]
  by_cases hj : i = j
  · subst hj
    rw [if_pos h, if_pos h, List.getElem?_set]
    simp only [if_true]
    by_cases hl : i < σ.length
    · rw [if_pos hl, List.getElem?_eq_getElem hl]; rfl
    · rw [if_neg hl, List.getElem?_eq_none (by omega)]
  · rw [List.getElem?_set_ne hj]
theorem wipe_wipe (σ : L2.St) (vs : List Nat) : wipe (wipe σ vs) vs = wipe σ vs := by
  apply List.ext_getElem?
  intro j
  rw [wipe_get, wipe_get]
  by_cases hj : j ∈ vs
  · rw [if_pos hj, if_pos hj]; cases σ[j]? <;> rfl
  · rw [if_neg hj, if_neg hj]
def wipeD (ρ : List Sl) : List Nat → List Sl
  | [] => ρ
  | v :: vs => (wipeD ρ vs).set v .no
theorem Sta.wipe {K : PySem.W.Frag} {F Hs : Hp} {M : Mem} {σ : L2.St} {H : Hp} {ρ : List Sl} (S : Sta K F Hs M σ H ρ) : ∀ vs : List Nat, Sta K F Hs M (L2.wipe σ vs) H (wipeD ρ vs)
  | [] => S
  | v :: vs => (Sta.wipe S vs).no v none
/-- a target stores into these slots alone -/
def GW (g : TG) (vs : List Nat) : Prop := ∀ (x : V) (σ : L2.St) (H : Hp) (Q : L2.St → Hp → Prop), g x σ H Q → g x σ H fun σ2 H2 => wipe σ2 vs = wipe σ vs ∧ Q σ2 H2
def GsW (g : TGs) (vs : List Nat) : Prop := ∀ (x : List V) (σ : L2.St) (H : Hp) (Q : L2.St → Hp → Prop), g x σ H Q → g x σ H fun σ2 H2 => wipe σ2 vs = wipe σ vs ∧ Q σ2 H2
theorem gw_name {i : Nat} {vs : List Nat} (h : i ∈ vs := by decide) : GW (gName i) vs := fun x σ H Q q => ⟨wipe_set _ h, q⟩
theorem gsw_nil {vs : List Nat} : GsW gNil vs := fun x σ H Q q => ⟨q.1, rfl, q.2⟩
theorem SemG.monoH {g : TG} : True := trivial
/-- readings of targets are monotone -/
def GM (g : TG) : Prop := ∀ (x : V) (σ : L2.St) (H : Hp) (Q Q' : L2.St → Hp → Prop), (∀ σ H, Q σ H → Q' σ H) → g x σ H Q → g x σ H Q'
def GsM (g : TGs) : Prop := ∀ (x : List V) (σ : L2.St) (H : Hp) (Q Q' : L2.St → Hp → Prop), (∀ σ H, Q σ H → Q' σ H) → g x σ H Q → g x σ H Q'
structure GO (g : TG) (vs : List Nat) : Prop where
  w : GW g vs
  m : GM g
structure GsO (g : TGs) (vs : List Nat) : Prop where
  w : GsW g vs
  m : GsM g
theorem go_name {i : Nat} {vs : List Nat} (h : i ∈ vs := by decide) : GO (gName i) vs := ⟨gw_name h, fun x σ H Q Q' k q => k _ _ q⟩
theorem gso_nil {vs : List Nat} : GsO gNil vs := ⟨gsw_nil, fun x σ H Q Q' k q => ⟨q.1, k _ _ q.2⟩⟩
theorem gso_cons {g : TG} {gs : TGs} {vs : List Nat} (h : GO g vs) (h2 : GsO gs vs) : GsO (gCons g gs) vs :=
  ⟨fun x σ H Q q => by
    obtain ⟨v, r, e, q⟩ := q
    exact ⟨v, r, e, h.m _ _ _ _ _ (fun σ1 H1 ⟨e1, q1⟩ => h2.m _ _ _ _ _ (fun σ2 H2 ⟨e2, q2⟩ => ⟨e2.trans e1, q2⟩) (h2.w _ _ _ _ q1)) (h.w _ _ _ _ q)⟩,
   fun x σ H Q Q' k q => by
    obtain ⟨v, r, e, q⟩ := q
    exact ⟨v, r, e, h.m _ _ _ _ _ (fun σ1 H1 q1 => h2.m _ _ _ _ _ k q1) q⟩⟩
theorem go_tup {K : PySem.W.Frag} {n : Nat} {gs : TGs} {vs : List Nat} (h : GsO gs vs) : GO (gTup K n gs) vs :=
  ⟨fun x σ H Q q => by
    obtain ⟨a, xs, e, hs, hl, q⟩ := q
    exact ⟨a, xs, e, hs, hl, h.w _ _ _ _ q⟩,
   fun x σ H Q Q' k q => by
    obtain ⟨a, xs, e, hs, hl, q⟩ := q
    exact ⟨a, xs, e, hs, hl, h.m _ _ _ _ _ k q⟩⟩
def lcD (g : TGd) (c : TTd) (e : TEd) : List D → List Sl → Mem → (List D → Mem → Prop) → Prop
  | [], _, M, Q => Q [] M
  | d :: r, ρ, M, Q => g d ρ M fun ρ2 M2 => c ρ2 M2 fun b M3 => match b with
    | true => e ρ2 M3 fun y M4 => lcD g c e r ρ M4 fun ys M5 => Q (y :: ys) M5
    | false => lcD g c e r ρ M3 Q
def TLcF (it : TId) (g : TGd) (c : TTd) (e : TEd) (vs : List Nat) : TAd := fun ρ M Q => it ρ M fun ds M1 => ds.length ≤ 16777215 ∧ lcD g c e ds (wipeD (unown ρ) vs) M1 Q
def TLc (it : TId) (g : TGd) (c : TTd) (e : TEd) (vs : List Nat) : TEd := fun ρ M Q => TLcF it g c e vs ρ M fun ds M1 => Q (.lst ds) M1
def TYes : TTd := fun _ M Q => Q true M
theorem sem_yes (K : PySem.W.Frag) : SemT K tYes TYes := fun F Hs M σ H ρ Q Qd S k q => k true H Hs M (Ext.refl _) S q
theorem sem_lcF {K : PySem.W.Frag} {wi : TI} {T : TId} {g : TG} {G : TGd} {tt : TT} {Tt : TTd} {te : TE} {Te : TEd} {vs : List Nat} (hi : SemI K wi T) (hg : SemG K g G) (go : GO g vs) (ht : SemT K tt Tt) (he : SemE K te Te) : SemF K (tLc wi g tt te vs) (TLcF T G Tt Te vs) := fun F Hs M σ H ρ Q Qd S k q =>
  hi F Hs M σ H ρ _ _ S (fun J H1 Hs1 ds M1 e1 S1 y1 ⟨hlen, q1⟩ => by
    intro p np
    obtain ⟨np1, np2, np3⟩ := S1.fresh np
    have U := own_ne S1 np
    -- the block's frame
    have S1' := S1.enframe
    have SA := (S1'.allocF np (.lst [])).wipe vs
    refine ⟨fun i m H => m = ds.length - i ∧ i ≤ ds.length ∧ ∃ Hs' M' acc done, Ext Hs1 Hs' ∧ Sta K (upd (cfr Hs1 M1 H1) p (.lst acc)) Hs' M' (wipe σ vs) H (wipeD (unown ρ) vs) ∧ Reps K Hs' acc done ∧ done.length ≤ i ∧
      lcD G Tt Te (ds.drop i) (wipeD (unown ρ) vs) M' (fun ys M5 => Qd (done ++ ys) M5), ⟨ds.length, by omega, Nat.zero_le _, Hs1, M1, [], [], Ext.refl _, SA, .nil, by simp, by simpa using q1⟩, ?_⟩
    rintro i m H2 ⟨rfl, hi, Hs2, M2, acc, done, e2, S2, r2, hd2, q2⟩
    obtain ⟨y2, y3⟩ := y1 _ Hs2 M2 _ H2 _ i e2 S2
    by_cases hlt : i < ds.length
    · have hd : ds[i]? = some ds[i] := List.getElem?_eq_getElem hlt
      obtain ⟨go', yl⟩ := y2 _ hd
      rw [List.drop_eq_getElem_cons hlt] at q2
      refine .inr ⟨go', fun H => ∃ Hs' M' acc done, Ext Hs1 Hs' ∧ Sta K (upd (cfr Hs1 M1 H1) p (.lst acc)) Hs' M' (wipe σ vs) H (wipeD (unown ρ) vs) ∧ Reps K Hs' acc done ∧ done.length ≤ i + 1 ∧
        lcD G Tt Te (ds.drop (i + 1)) (wipeD (unown ρ) vs) M' (fun ys M5 => Qd (done ++ ys) M5), fun H' h => ⟨ds.length - (i + 1), by omega, rfl, hlt, h⟩, fun x H3 hy => ?_⟩
      obtain ⟨Hs3, e3, S3, r3⟩ := yl x H3 hy
      have base := hg _ Hs3 M2 _ H3 _ x _ (fun σ4 H4 => tt σ4 H4 fun b H5 => if b = true then te σ4 H5 fun y H6 => ∃ acc, H6 p = some (.lst acc) ∧ acc.length < sizeLine ∧ (∃ Hs' M' acc' done, Ext Hs1 Hs' ∧ Sta K (upd (cfr Hs1 M1 H1) p (.lst acc')) Hs' M' (wipe σ vs) (upd H6 p (.lst (acc ++ [y]))) (wipeD (unown ρ) vs) ∧ Reps K Hs' acc' done ∧ done.length ≤ i + 1 ∧
        lcD G Tt Te (ds.drop (i + 1)) (wipeD (unown ρ) vs) M' (fun ys M5 => Qd (done ++ ys) M5)) else (∃ Hs' M' acc' done, Ext Hs1 Hs' ∧ Sta K (upd (cfr Hs1 M1 H1) p (.lst acc')) Hs' M' (wipe σ vs) H5 (wipeD (unown ρ) vs) ∧ Reps K Hs' acc' done ∧ done.length ≤ i + 1 ∧
        lcD G Tt Te (ds.drop (i + 1)) (wipeD (unown ρ) vs) M' (fun ys M5 => Qd (done ++ ys) M5))) _ S3 r3 (fun σ4 H4 Hs4 ρ4 M4 e4 S4 q4 => ?_) q2
      · refine go.m _ _ _ _ _ (fun σ4 H4 ⟨ew, q⟩ => ⟨ew.trans (wipe_wipe σ vs), q⟩) (go.w _ _ _ _ base)
      · refine ht _ Hs4 M4 σ4 H4 ρ4 _ _ S4 (fun b H5 Hs5 M5 e5 S5 q5 => ?_) q4
        -- the state with the old slots
        have back : ∀ {Hs6 : Hp} {M6 : Mem} {H6 : Hp}, Sta K (upd (cfr Hs1 M1 H1) p (.lst acc)) Hs6 M6 σ4 H6 ρ4 → Ext Hs3 Hs6 → Sta K (upd (cfr Hs1 M1 H1) p (.lst acc)) Hs6 M6 (wipe σ vs) H6 (wipeD (unown ρ) vs) := fun {Hs6 M6 H6} S6 x6 => by
          refine ⟨S6.hs, S6.fr, S6.dj, S6.me, S2.ln, fun j d e => ?_, fun j d e => ?_⟩
          · obtain ⟨v, p1, p2⟩ := S3.vl j d e
            exact ⟨v, p1, p2.mono x6⟩
          · exfalso
            have : ∀ (vs : List Nat), (wipeD (unown ρ) vs)[j]? = some (Sl.own d) → False := by
              intro vs
              induction vs with
              | nil => intro h; exact unown_own h
              | cons v vs ih =>
                intro h
                unfold wipeD at h
                by_cases hv : v = j
                · subst hv
                  rw [List.getElem?_set] at h
                  simp only [if_true] at h
                  split at h <;> cases h
                · rw [List.getElem?_set_ne hv] at h
                  exact ih h
            exact this vs e
        cases b with
        | true =>
          rw [if_pos rfl]
          refine he _ Hs5 M5 σ4 H5 ρ4 _ _ S5 (fun y H6 Hs6 d M6 e6 S6 r6 q6 => ?_) q5
          have hD : H6 p = some (.lst acc) := S6.fr p _ upd_same
          have hl := r2.length
          have x36 := (e4.trans e5).trans e6
          have S7 := (back S6 x36).mutF (o' := .lst (acc ++ [y])) (p := p) upd_same
          rw [upd_upd] at S7
          refine ⟨acc, hD, by rw [line_eq]; omega, Hs6, M6, acc ++ [y], done ++ [d], (e2.trans e3).trans x36, S7, (r2.mono (e3.trans x36)).append (.one r6), by simp; omega, ?_⟩
          simpa [List.append_assoc] using q6
        | false =>
          rw [if_neg Bool.false_ne_true]
          have x35 := e4.trans e5
          exact ⟨Hs5, M5, acc, done, (e2.trans e3).trans x35, back S5 x35, r2.mono (e3.trans x35), by omega, q5⟩
    · have e : i = ds.length := by omega
      subst e
      rw [List.drop_length] at q2
      refine .inl ⟨y3 (Nat.le_refl _), ?_⟩
      have hp : H2 p = some (.lst acc) := S2.fr p _ upd_same
      have n1 : Hs2 p = none := S2.dj p _ upd_same
      have n3 : M2 p = none := by
        cases q : M2 p with
        | none => rfl
        | some m =>
          have := (S2.me p m q).2.2
          rw [upd_same] at this; cases this
      -- back to the caller's frame
      have c0 : cfr Hs1 M1 H1 p = none := by rw [cfr_of np1 np3]; exact np
      have S3 : Sta K (cfr Hs1 M1 H1) Hs2 M2 (wipe σ vs) H2 (wipeD (unown ρ) vs) := by
        have ne : ∀ a o, cfr Hs1 M1 H1 a = some o → a ≠ p := fun a o e z => by rw [z, c0] at e; cases e
        refine ⟨S2.hs, fun a o e => S2.fr a o (by rw [upd_ne (ne a o e)]; exact e), fun a o e => S2.dj a o (by rw [upd_ne (ne a o e)]; exact e), fun a m e => ?_, S2.ln, S2.vl, fun j d e => ?_⟩
        · obtain ⟨m1, m2, m3⟩ := S2.me a m e
          refine ⟨m1, m2, ?_⟩
          by_cases z : a = p
          · subst z; exact c0
          · rw [upd_ne z] at m3; exact m3
        · obtain ⟨a, ws, p1, p2, p3, p4, p5, p6, p7, p8⟩ := S2.ow j d e
          refine ⟨a, ws, p1, p2, p3, p4, p5, ?_, p7, p8⟩
          by_cases z : a = p
          · subst z; exact c0
          · rw [upd_ne z] at p6; exact p6
      have S4 := S1.unframe S3 e2
      have hl := r2.length
      exact k p acc H2 Hs2 _ M2 (e1.trans e2) S4 hp (by omega) r2 n1 np2 n3 U (by have q3 : Qd (done ++ []) M2 := q2; simpa using q3)) q
end DL

namespace DL
open PySem PySem.Spec PyProof.Rows L2
section
variable {X : Cx} {pos : Pos} {ta tb te : TE} {Ta Tb Te : TEd} {tt tu : TT} {T U : TTd} {tr : TA} {R : TAd} {K : PySem.W.Frag} {ts tu' : TS} {Ts Us : TSd}
structure PTD (X : Cx) (ifs : List Expr) (t : TT) (T : TTd) : Prop where
  pe : PTs X ifs t
  se : SemT X.K t T
theorem ptd_nil : PTD X [] tYes TYes := ⟨pts_nil, sem_yes _⟩
theorem ptd_one {c : Expr} (h : TD X c tt T) : PTD X [c] tt T := ⟨pts_one h.pe, h.se⟩
/-- some block's context -/
def aShared : Shared := ⟨⟨#[], {}⟩, #[], {}, 0, (PySem.start (default : Program)).1.os⟩
abbrev Blk (X : Cx) (scope : Scope) (P : Cx → Prop) : Prop := ∀ (s : Shared) (H : Hp) (C : Addr) (cl : List (Str × Addr)) (fp : List Addr), P (X.blk s H scope (compEnvC scope cl C X.env) fp)
variable {elt tg iter : Expr} {ifs : List Expr} {scope : Scope} {own : List (Str × Nat)} {wi : TI} {Ti : TId} {g : TG} {G : TGd}
theorem fd_lc (hc : X.calm = true) (hN : X.N.Nodup) (hi : ID X tg iter wi Ti) (ok : BlkOk X.N X.env.scope scope own) (go : GO g (own.map (·.2)))
    (hg : Blk X scope fun Y => GD Y tg g G) (ht : Blk X scope fun Y => PTD Y ifs tt T) (he : Blk X scope fun Y => ED Y elt te Te) (hs : ∀ x, foldedSetIterable iter X.env x = pure x := by intro _; rfl) :
    FD X (.ListComp elt [⟨tg, iter, ifs, 0⟩] scope pos) (tLc wi g tt te (own.map (·.2))) (TLcF Ti G T Te (own.map (·.2))) :=
  ⟨pe_lc hc hN hi.pe ok (fun s H C cl fp => (hg s H C cl fp).pe) (fun s H C cl fp => (ht s H C cl fp).pe) (fun s H C cl fp => (he s H C cl fp).pe) hs, sem_lcF hi.se (hg aShared (fun _ => none) 0 [] []).se go (ht aShared (fun _ => none) 0 [] []).se (he aShared (fun _ => none) 0 [] []).se⟩
theorem ed_lc (hc : X.calm = true) (hN : X.N.Nodup) (hi : ID X tg iter wi Ti) (ok : BlkOk X.N X.env.scope scope own) (go : GO g (own.map (·.2)))
    (hg : Blk X scope fun Y => GD Y tg g G) (ht : Blk X scope fun Y => PTD Y ifs tt T) (he : Blk X scope fun Y => ED Y elt te Te) (hs : ∀ x, foldedSetIterable iter X.env x = pure x := by intro _; rfl) :
    ED X (.ListComp elt [⟨tg, iter, ifs, 0⟩] scope pos) (tLc wi g tt te (own.map (·.2))) (TLc Ti G T Te (own.map (·.2))) :=
  ⟨(fd_lc hc hN hi ok go hg ht he hs).pe, sem_of_F (fd_lc (pos := pos) hc hN hi ok go hg ht he hs).se⟩
theorem sd_setLcF {i : Nat} {y : Str} {py spos : Pos} (hc : X.calm = true) (hN : X.N.Nodup) (hy : X.N[i]? = some y) (hyl : X.env.scope.names.lookup y = some .local) (hsw : swapsWith (.ListComp elt [⟨tg, iter, ifs, 0⟩] scope pos) (some (.Name y py)) spos.line X.env = pure true) (hi : ID X tg iter wi Ti) (ok : BlkOk X.N X.env.scope scope own) (go : GO g (own.map (·.2)))
    (hg : Blk X scope fun Y => GD Y tg g G) (ht : Blk X scope fun Y => PTD Y ifs tt T) (he : Blk X scope fun Y => ED Y elt te Te) (hs : ∀ x, foldedSetIterable iter X.env x = pure x := by intro _; rfl) :
    SD X (.Assign [.Name y py] (.ListComp elt [⟨tg, iter, ifs, 0⟩] scope pos) spos) (tAsg (tLc wi g tt te (own.map (·.2))) (gName i)) (TSetOwn i (TLcF Ti G T Te (own.map (·.2)))) :=
  ⟨ps_setLc hc hN hy hyl hsw hi.pe ok (fun s H C cl fp => (hg s H C cl fp).pe) (fun s H C cl fp => (ht s H C cl fp).pe) (fun s H C cl fp => (he s H C cl fp).pe) hs, sem_setOwn i (fd_lc (pos := pos) hc hN hi ok go hg ht he hs).se⟩
theorem sd_setLc {i : Nat} {y : Str} {py spos : Pos} (hc : X.calm = true) (hN : X.N.Nodup) (hy : X.N[i]? = some y) (hyl : X.env.scope.names.lookup y = some .local) (hsw : swapsWith (.ListComp elt [⟨tg, iter, ifs, 0⟩] scope pos) (some (.Name y py)) spos.line X.env = pure true) (hi : ID X tg iter wi Ti) (ok : BlkOk X.N X.env.scope scope own) (go : GO g (own.map (·.2)))
    (hg : Blk X scope fun Y => GD Y tg g G) (ht : Blk X scope fun Y => PTD Y ifs tt T) (he : Blk X scope fun Y => ED Y elt te Te) (hs : ∀ x, foldedSetIterable iter X.env x = pure x := by intro _; rfl) :
    SD X (.Assign [.Name y py] (.ListComp elt [⟨tg, iter, ifs, 0⟩] scope pos) spos) (tAsg (tLc wi g tt te (own.map (·.2))) (gName i)) (TSet i (TLc Ti G T Te (own.map (·.2)))) :=
  ⟨ps_setLc hc hN hy hyl hsw hi.pe ok (fun s H C cl fp => (hg s H C cl fp).pe) (fun s H C cl fp => (ht s H C cl fp).pe) (fun s H C cl fp => (he s H C cl fp).pe) hs, sem_set i (ed_lc (pos := pos) hc hN hi ok go hg ht he hs).se⟩
/-! ## defs -/
abbrev SpD := List D → Mem → (D → Mem → Prop) → Prop
def spOf (K : PySem.W.Frag) (fsp : SpD) : Sp := fun vs H Q _ => ∃ (F Hs : Hp) (M : Mem) (ds : List D) (Qd : D → Mem → Prop), Sta K F Hs M [] H [] ∧ Reps K Hs vs ds ∧ fsp ds M Qd ∧
  ∀ (v : V) (H' Hs' : Hp) (d : D) (M' : Mem), Ext Hs Hs' → Sta K F Hs' M' [] H' [] → Rep K Hs' v d → Qd d M' → Q v H'
def TCall (fsp : SpD) (t : TAd) : TEd := fun ρ M Q => t ρ M fun ds M1 => fsp ds M1 Q
theorem sem_call {fsp : SpD} {E : XK} (h : SemA K tr R) : SemE K (tCall (spOf K fsp) [] E tr) (TCall fsp R) := fun F Hs M σ H ρ Q Qd S k q =>
  h F Hs M σ H ρ _ _ S (fun vs H1 Hs1 ds M1 e1 S1 r1 q1 => by
    rw [List.append_nil]
    exact ⟨cfr Hs1 M1 H1, Hs1, M1, ds, Qd, S1.enframe.drop, r1, q1, fun v H' Hs' d M' e S' r' q' => k v H' Hs' d M' (e1.trans e) (S1.unframe S' e) r' q'⟩) q
theorem ed_call {CX : CXT} {k : Nat} {f : Addr} {fd : FuncData} {ps : List Str} {fsp : SpD} {x : Str} {p : Pos} {e : Expr} {es : List Expr} {E : XK} (G : FnOk X.prog X.w X.K X.mg X.base CX k f fd ps (spOf X.K fsp)) (hr : Room k X.A) (hg : Gl X x) (hm : X.mg x = some (.ref f)) (hk : PySem.W.keepIn X.K (.ref f) = true) (hb : Binds X.K fd ps []) (hx : Passes CX X E)
    (ha : AD X (e :: es) tr R) (hdb : (x == ("__debug__" : Str)) = false := by decide) (he : starEach (e :: es) X.env = (false, eval e X.env) :: starEach es X.env := by rfl) (hpl : (backTo pos (starEach es X.env)).any (·.1) = false := by rfl) :
    ED X (.Call (.Name x p) (e :: es) [] pos) (tCall (spOf X.K fsp) [] E tr) (TCall fsp R) := ⟨pe_call G hr hg hm hk hb .nil hx ha.pe hdb he hpl, sem_call ha.se⟩
def startD (N : List Str) (ds : List D) : List Sl := ds.map Sl.val ++ List.replicate (N.length - ds.length) Sl.no
theorem Reps.startD {Hs : Hp} {vs : List V} {ds : List D} (r : Reps K Hs vs ds) (N : List Str) : ∀ (i : Nat) (d : D), (startD N ds)[i]? = some (Sl.val d) → ∃ v, (L2.start N vs)[i]? = some (some v) ∧ Rep K Hs v d := fun i d e => by
  have hl := r.length
  unfold DL.startD at e
  unfold L2.start
  by_cases hi : i < ds.length
  · rw [List.getElem?_append_left (by simpa using hi), List.getElem?_map] at e
    rw [List.getElem?_append_left (by simp; omega), List.getElem?_map]
    cases q : ds[i]? with
    | none => rw [q] at e; cases e
    | some d' =>
      rw [q] at e
      cases e
      obtain ⟨v, h1, h2⟩ := r.get q
      exact ⟨v, by rw [h1]; rfl, h2⟩
  · rw [List.getElem?_append_right (by simp; omega), List.getElem?_replicate] at e
    split at e <;> cases e
theorem startD_own {N : List Str} {ds : List D} {i : Nat} {es : List D} (e : (startD N ds)[i]? = some (Sl.own es)) : False := by
  unfold startD at e
  by_cases hi : i < ds.length
  · rw [List.getElem?_append_left (by simpa using hi), List.getElem?_map] at e
    cases q : ds[i]? <;> rw [q] at e <;> cases e
  · rw [List.getElem?_append_right (by simp; omega), List.getElem?_replicate] at e
    split at e <;> cases e
theorem Sta.begin {F Hs H : Hp} {M : Mem} {vs : List V} {ds : List D} (S : Sta K F Hs M [] H []) (r : Reps K Hs vs ds) (N : List Str) : Sta K F Hs M (L2.start N vs) H (startD N ds) :=
  ⟨S.hs, S.fr, S.dj, S.me, by simp [L2.start, startD, r.length], r.startD N, fun i es e => (startD_own e).elim⟩
/-- a def that lets no exception out -/
theorem fn_ok {P : Program} {w : World} {mg : Str → Option Value} {base : Heap} {x qual : Str} {params : Arguments} {body : List Stmt} {scope : Scope} {dvs : List V} {kws : List (Str × V)} {f : Addr} {fd : FuncData} {N ps : List Str} {k : Nat} {fsp : SpD} (F : FunD K x qual params body scope dvs kws f fd) (S : FnScope N ps scope) (len : ∀ ds M Q, fsp ds M Q → ds.length = ps.length)
    (hbody : ∀ (cdv : Value) (A : Around) (outer : List Env) (s : Shared) (H : Hp) (E : XK), Room k (A.deeper (envOfC qual scope s.heap.objs.size f cdv)) →
      ∃ t T, BD (cxOf CX0 P w K mg base N qual scope f cdv A outer s H E).nox body t T ∧ ∀ (ds : List D) (M : Mem) (Q : D → Mem → Prop), fsp ds M Q → T ⟨fun _ M' => Q .non M', Q, fun _ _ => False, fun _ _ => False⟩ (startD N ds) M) : FnOk P w K mg base CX0 (k + 1) f fd ps (spOf K fsp) := by
  refine F.ok S (fun vs H Q E h => ?_) (fun cdv A outer s H vs Q E hr h => ?_)
  · obtain ⟨F', Hs, M, ds, Qd, S0, r, q, _⟩ := h
    rw [r.length]
    exact len ds M Qd q
  · obtain ⟨F', Hs, M, ds, Qd, S0, r, q, kk⟩ := h
    obtain ⟨t, T, b, hb⟩ := hbody cdv A outer s H E hr
    refine ⟨t, PSs.nox b.pe, b.se F' Hs M _ H _ _ _ (S0.begin r N) ?_ (hb ds M Qd q)⟩
    exact ⟨fun σ' H' Hs' ρ' M' e S' q' => kk .non H' Hs' .non M' e S'.drop .non q', fun v H' Hs' d M' e S' r' q' => kk v H' Hs' d M' e S' r' q', fun _ _ _ _ _ _ _ z => z, fun _ _ _ _ _ _ _ z => z⟩
end
end DL

namespace DL
open PySem PySem.Spec PyProof.Rows L2 TL
/-! ## texts -/
def strOkL (l : List Nat) : Bool := l.all (· < 0x110000)
theorem okS_iff {x : Str} : okS x = true ↔ strOkL (tl x) = true ∧ x.length ≤ 16777216 := by
  unfold okS PyData.strOk strOkL tl
  simp only [Bool.and_eq_true, decide_eq_true_eq]
  constructor
  · rintro ⟨h1, h2⟩
    refine ⟨?_, h2⟩
    rw [List.all_eq_true]
    intro c hc
    exact Array.all_eq_true'.mp h1 c (by simpa using hc)
  · rintro ⟨h1, h2⟩
    refine ⟨?_, h2⟩
    rw [Array.all_eq_true']
    intro c hc
    exact List.all_eq_true.mp h1 c (by simpa using hc)
theorem okS_append {x y : Str} (hx : okS x = true) (hy : okS y = true) (h : x.length + y.length ≤ 16777216) : okS (x ++ y) = true := by
  rw [okS_iff] at *
  refine ⟨?_, ?_⟩
  · rw [tl_append]
    unfold strOkL at *
    rw [List.all_append, hx.1, hy.1]
    rfl
  · rw [len_tl, tl_append, List.length_append, ← len_tl, ← len_tl]
    exact h
theorem okS_sub {x y : Str} (hx : okS x = true) (h : ∀ c ∈ tl y, c ∈ tl x) (hl : y.length ≤ 16777216) : okS y = true := by
  rw [okS_iff] at *
  refine ⟨?_, hl⟩
  unfold strOkL at *
  rw [List.all_eq_true] at *
  exact fun c hc => hx.1 c (h c hc)
theorem okS_one {c : Nat} (h : c < 0x110000) : okS ⟨#[c]⟩ = true := by
  rw [okS_iff]
  refine ⟨?_, by show (1 : Nat) ≤ _; decide⟩
  show strOkL [c] = true
  unfold strOkL
  simp [h]
theorem okS_len {x : Str} (h : okS x = true) : x.length ≤ 16777216 := (okS_iff.mp h).2
/-! ## data as the library's data -/
mutual
def pyOf : D → PyData
  | .non => .none
  | .bl b => .bool b
  | .int i => .int i
  | .str s => .str s
  | .tup ds => .tuple (pysOf ds)
  | .lst ds => .list (pysOf ds)
  | .ref _ | .ty _ | .fzl _ | .ins _ _ | .dct _ => .none
def pysOf : List D → List PyData
  | [] => []
  | d :: r => pyOf d :: pysOf r
end
mutual
def isPy : D → Bool
  | .non | .bl _ | .int _ | .str _ => true
  | .tup ds => isPys ds
  | .lst ds => isPys ds
  | .ref _ | .ty _ | .fzl _ | .ins _ _ | .dct _ => false
def isPys : List D → Bool
  | [] => true
  | d :: r => isPy d && isPys r
end
mutual
def dep : D → Nat
  | .tup ds => deps ds + 1
  | .lst ds => deps ds + 1
  | .non | .bl _ | .int _ | .str _ | .ref _ | .ty _ | .fzl _ | .ins _ _ | .dct _ => 0
def deps : List D → Nat
  | [] => 0
  | d :: r => max (dep d) (deps r)
end
section
variable {K : PySem.W.Frag} {H : Hp}
mutual
theorem Rep.dp : ∀ {v : V} {d : D}, Rep K H v d → isPy d = true → Dp K H v (pyOf d) ∧ (pyOf d).canLay0 = true ∧ (pyOf d).depth = dep d
  | _, _, .non, _ => ⟨.non, rfl, rfl⟩
  | _, _, .bl b, _ => ⟨.bl b, rfl, rfl⟩
  | _, _, .int i, _ => ⟨.int i, rfl, rfl⟩
  | _, _, .str x h, _ => ⟨.str x, (Bool.and_eq_true_iff.mp h).1, rfl⟩
  | _, _, .tup h l r, p => by
    obtain ⟨h1, h2, h3⟩ := Reps.dp r (by simpa [isPy] using p)
    refine ⟨.tup h h1, h2, ?_⟩
    show PyData.depthAll _ + 1 = deps _ + 1
    rw [h3]
  | _, _, .lst h l r, p => by
    obtain ⟨h1, h2, h3⟩ := Reps.dp r (by simpa [isPy] using p)
    refine ⟨.lst (SqL.of h) h1, h2, ?_⟩
    show PyData.depthAll _ + 1 = deps _ + 1
    rw [h3]
  | _, _, .ref a, p => by cases p
  | _, _, .ty a, p => by cases p
  | _, _, .fzl _ _ _, p => by cases p
  | _, _, .ins _ _ _, p => by cases p
  | _, _, .dct _ _, p => by cases p
theorem Reps.dp : ∀ {vs : List V} {ds : List D}, Reps K H vs ds → isPys ds = true → DpAll K H vs (pysOf ds) ∧ PyData.canLayAll0 (pysOf ds) = true ∧ PyData.depthAll (pysOf ds) = deps ds
  | _, _, .nil, _ => ⟨.nil, rfl, rfl⟩
  | _, _, .cons h t, p => by
    unfold isPys at p
    obtain ⟨p1, p2⟩ := Bool.and_eq_true_iff.mp p
    obtain ⟨h1, h2, h3⟩ := Rep.dp h p1
    obtain ⟨t1, t2, t3⟩ := Reps.dp t p2
    refine ⟨.cons h1 t1, ?_, ?_⟩
    · show (PyData.canLay0 _ && PyData.canLayAll0 _) = true
      rw [h2, t2]; rfl
    · show max (PyData.depth _) (PyData.depthAll _) = max (dep _) (deps _)
      rw [h3, t3]
end
end
/-- == of data -/
def eqvD (x y : D) : Bool := PyData.eqv (pyOf x) (pyOf y)
def eqvs (x y : List D) : Bool := PyData.eqvAll (pysOf x) (pysOf y)
def eqOp : Op2 := fun x y k => (isPy x = true ∧ isPy y = true ∧ dep x ≤ 64 ∧ dep y ≤ 64) ∧ k (.bl (eqvD x y))
def neOp : Op2 := fun x y k => (isPy x = true ∧ isPy y = true ∧ dep x ≤ 64 ∧ dep y ≤ 64) ∧ k (.bl (!eqvD x y))
section
variable {K : PySem.W.Frag}
theorem sr_eq : SemR K (rEqD K) eqOp := fun F Hs M σ H ρ x y dx dy Q Qd S rx ry k ⟨⟨p1, p2, p3, p4⟩, q⟩ => by
  obtain ⟨a1, a2, a3⟩ := (rx.mono S.hs).dp p1
  obtain ⟨b1, b2, b3⟩ := (ry.mono S.hs).dp p2
  refine ⟨_, _, a1, b1, ?_, ?_, k _ H Hs _ (Ext.refl _) S (.bl _) q⟩
  · exact Bool.and_eq_true_iff.mpr ⟨a2, decide_eq_true (by rw [a3]; exact p3)⟩
  · exact Bool.and_eq_true_iff.mpr ⟨b2, decide_eq_true (by rw [b3]; exact p4)⟩
theorem sr_ne : SemR K (rNeD K) neOp := fun F Hs M σ H ρ x y dx dy Q Qd S rx ry k ⟨⟨p1, p2, p3, p4⟩, q⟩ => by
  obtain ⟨a1, a2, a3⟩ := (rx.mono S.hs).dp p1
  obtain ⟨b1, b2, b3⟩ := (ry.mono S.hs).dp p2
  refine ⟨_, _, a1, b1, ?_, ?_, k _ H Hs _ (Ext.refl _) S (.bl _) q⟩
  · exact Bool.and_eq_true_iff.mpr ⟨a2, decide_eq_true (by rw [a3]; exact p3)⟩
  · exact Bool.and_eq_true_iff.mpr ⟨b2, decide_eq_true (by rw [b3]; exact p4)⟩
/-! ## int operators -/
def i2 (C : Int → Int → Prop) (g : Int → Int → D) : Op2 := fun x y k => match x, y with
  | .int i, .int j => C i j ∧ k (g i j)
  | _, _ => False
def i20 (g : Int → Int → D) : Op2 := fun x y k => match x, y with
  | .int i, .int j => k (g i j)
  | _, _ => False
theorem sr_i2 {C : Int → Int → Prop} {gv : Int → Int → V} {g : Int → Int → D} (hg : ∀ H i j, Rep K H (gv i j) (g i j)) : SemR K (rI C gv) (i2 C g) := fun F Hs M σ H ρ x y dx dy Q Qd S rx ry k q => by
  unfold i2 at q
  split at q
  · cases rx; cases ry
    exact ⟨_, _, rfl, rfl, q.1, k _ H Hs _ (Ext.refl _) S (hg Hs _ _) q.2⟩
  · exact q.elim
theorem sr_i20 {gv : Int → Int → V} {g : Int → Int → D} (hg : ∀ H i j, Rep K H (gv i j) (g i j)) : SemR K (rI0 gv) (i20 g) := fun F Hs M σ H ρ x y dx dy Q Qd S rx ry k q => by
  unfold i20 at q
  split at q
  · cases rx; cases ry
    exact ⟨_, _, rfl, rfl, k _ H Hs _ (Ext.refl _) S (hg Hs _ _) q⟩
  · exact q.elim
def subO : Op2 := i20 fun i j => .int (i - j)
def mulO : Op2 := i2 CMul fun i j => .int (i * j)
def fdivO : Op2 := i2 CDiv fun i j => .int (i / j)
def fdivWO : Op2 := i2 CDivW fun i j => .int (i / j)
def mulWO : Op2 := i2 CMulW fun i j => .int (i * j)
def modO : Op2 := i2 (fun _ j => 0 < j) fun i j => .int (i % j)
def powO : Op2 := i2 CPow fun i j => .int (i ^ j.toNat)
def ltO : Op2 := i20 fun i j => .bl (decide (i < j))
def leO : Op2 := i20 fun i j => .bl (decide (i ≤ j))
def gtO : Op2 := i20 fun i j => .bl (decide (j < i))
def geO : Op2 := i20 fun i j => .bl (decide (j ≤ i))
theorem sr_sub : SemR K (rI0 fun i j => .int (i - j)) subO := sr_i20 fun _ _ _ => .int _
theorem sr_mul : SemR K (rI CMul fun i j => .int (i * j)) mulO := sr_i2 fun _ _ _ => .int _
theorem sr_mulW : SemR K (rI CMulW fun i j => .int (i * j)) mulWO := sr_i2 fun _ _ _ => .int _
theorem sr_fdiv : SemR K (rI CDiv fun i j => .int (i / j)) fdivO := sr_i2 fun _ _ _ => .int _
theorem sr_fdivW : SemR K (rI CDivW fun i j => .int (i / j)) fdivWO := sr_i2 fun _ _ _ => .int _
theorem sr_mod : SemR K (rI (fun _ j => 0 < j) fun i j => .int (i % j)) modO := sr_i2 fun _ _ _ => .int _
theorem sr_pow : SemR K (rI CPow fun i j => .int (i ^ j.toNat)) powO := sr_i2 fun _ _ _ => .int _
theorem sr_lt : SemR K (rI0 fun i j => .bl (decide (i < j))) ltO := sr_i20 fun _ _ _ => .bl _
theorem sr_le : SemR K (rI0 fun i j => .bl (decide (i ≤ j))) leO := sr_i20 fun _ _ _ => .bl _
theorem sr_gt : SemR K (rI0 fun i j => .bl (decide (j < i))) gtO := sr_i20 fun _ _ _ => .bl _
theorem sr_ge : SemR K (rI0 fun i j => .bl (decide (j ≤ i))) geO := sr_i20 fun _ _ _ => .bl _
/-! ## + -/
def rStrAdd : R2 := fun x y H Q => ∃ i j, x = .str i ∧ y = .str j ∧ i.length + j.length ≤ sizeLine ∧ Q (.str (i ++ j)) H
def rAddAll (K : PySem.W.Frag) : R2 := fun x y H Q => rI0 (fun i j => .int (i + j)) x y H Q ∨ (rStrAdd x y H Q ∨ (rCat x y H Q ∨ rCatA K x y H Q))
theorem op_addAll {X : Cx} : OpR X (binaryOp .Add) (rAddAll X.K) := op_add.or (op_add_str.or (op_cat.or op_catA))
def addO : Op2 := fun x y k => match x, y with
  | .int i, .int j => k (.int (i + j))
  | .str s, .str t => s.length + t.length ≤ 16777216 ∧ k (.str (s ++ t))
  | .lst a, .lst b => a.length + b.length ≤ 16777216 ∧ k (.lst (a ++ b))
  | .tup a, .tup b => a.length + b.length ≤ 16777216 ∧ k (.tup (a ++ b))
  | _, _ => False
theorem sr_add : SemR K (rAddAll K) addO := fun F Hs M σ H ρ x y dx dy Q Qd S rx ry k q => by
  unfold addO at q
  split at q
  · cases rx; cases ry
    exact .inl ⟨_, _, rfl, rfl, k _ H Hs _ (Ext.refl _) S (.int _) q⟩
  · cases rx with
    | str s hs =>
      cases ry with
      | str t ht => exact .inr (.inl ⟨_, _, rfl, rfl, by rw [line_eq]; exact q.1, k _ H Hs _ (Ext.refl _) S (.str _ (okS_append hs ht q.1)) q.2⟩)
  · cases rx with
    | lst h1 l1 r1 =>
      cases ry with
      | lst h2 l2 r2 =>
        have e1 := r1.length
        have e2 := r2.length
        refine .inr (.inr (.inl ⟨_, _, _, _, rfl, rfl, S.hs _ _ h1, S.hs _ _ h2, by rw [line_eq]; omega, fun p np => ?_⟩))
        obtain ⟨S2, x2⟩ := S.new np (.lst _)
        exact k _ _ _ _ x2 S2 (.lst upd_same (by rw [List.length_append]; omega) ((r1.mono x2).append (r2.mono x2))) q.2
  · cases rx with
    | tup h1 l1 r1 =>
      cases ry with
      | tup h2 l2 r2 =>
        rename_i a vs b ws
        have e1 := r1.length
        have e2 := r2.length
        refine .inr (.inr (.inr ⟨_, _, _, _, rfl, rfl, sqT_ext S.hs h1, sqT_ext S.hs h2, by rw [line_eq]; omega, fun c1 => ?_, fun c1 c2 => ?_, fun c1 c2 p np => ?_⟩))
        · subst c1
          cases r1
          exact k _ H Hs _ (Ext.refl _) S (.tup h2 l2 (by simpa using r2)) q.2
        · subst c2
          cases r2
          exact k _ H Hs _ (Ext.refl _) S (.tup h1 l1 (by simpa using r1)) (by simpa using q.2)
        · obtain ⟨S2, x2⟩ := S.new np (.tup (vs ++ ws))
          exact k _ _ _ _ x2 S2 (.tup (SqT.of upd_same) (by rw [List.length_append]; omega) ((r1.mono x2).append (r2.mono x2))) q.2
  · exact q.elim
end
end DL

namespace DL
open PySem PySem.Spec PyProof.Rows L2 TL
section
variable {K : PySem.W.Frag}
/-! ## is None -/
def isNon : D → Bool
  | .non => true
  | _ => false
def rIsNone : R2 := fun x y H Q => y = .non ∧ Q (.bl (decide (x = .non))) H
def rNotNone : R2 := fun x y H Q => y = .non ∧ Q (.bl (!decide (x = .non))) H
theorem op_isNone {X : Cx} : OpR X (compareOp .Is) rIsNone := op_isN
theorem op_notNone {X : Cx} : OpR X (compareOp .IsNot) rNotNone := op_notN
def isNO : Op2 := fun x y k => match y with
  | .non => k (.bl (isNon x))
  | _ => False
def notNO : Op2 := fun x y k => match y with
  | .non => k (.bl (!isNon x))
  | _ => False
theorem rep_non {H : Hp} {v : V} {d : D} (r : Rep K H v d) : decide (v = .non) = isNon d := by
  cases r <;> rfl
theorem sr_isN : SemR K rIsNone isNO := fun F Hs M σ H ρ x y dx dy Q Qd S rx ry k q => by
  unfold isNO at q
  split at q
  · cases ry
    refine ⟨rfl, ?_⟩
    rw [rep_non rx]
    exact k _ H Hs _ (Ext.refl _) S (.bl _) q
  · exact q.elim
theorem sr_notN : SemR K rNotNone notNO := fun F Hs M σ H ρ x y dx dy Q Qd S rx ry k q => by
  unfold notNO at q
  split at q
  · cases ry
    refine ⟨rfl, ?_⟩
    rw [rep_non rx]
    exact k _ H Hs _ (Ext.refl _) S (.bl _) q
  · exact q.elim
/-! ## in -/
def flatD : D → Bool
  | .non | .bl _ | .int _ | .str _ => true
  | _ => false
theorem flat_rep {H : Hp} {v : V} {d : D} (r : Rep K H v d) (f : flatD d = true) : flatV v = true := by
  cases r <;> first | rfl | cases f
theorem flat_reps {H : Hp} : ∀ {vs : List V} {ds : List D}, Reps K H vs ds → ds.all flatD = true → vs.all flatV = true
  | _, _, .nil, _ => rfl
  | _, _, .cons h t, f => by
    rw [List.all_cons, Bool.and_eq_true] at f ⊢
    exact ⟨flat_rep h f.1, flat_reps t f.2⟩
theorem eqv_rep {H : Hp} {v w : V} {d e : D} (r : Rep K H v d) (r2 : Rep K H w e) (f : flatD d = true) (f2 : flatD e = true) : eqV v w = eqvD d e := by
  cases r <;> cases r2 <;> first | (exfalso; exact Bool.false_ne_true f) | (exfalso; exact Bool.false_ne_true f2) | rfl
def inD (x : D) (ds : List D) : Bool := ds.any fun y => eqvD y x
theorem in_reps {H : Hp} {v : V} {d : D} (r : Rep K H v d) (f : flatD d = true) : ∀ {vs : List V} {ds : List D}, Reps K H vs ds → ds.all flatD = true → inV v vs = inD d ds
  | _, _, .nil, _ => rfl
  | _, _, .cons h t, f2 => by
    rw [List.all_cons, Bool.and_eq_true] at f2
    have := in_reps r f t f2.2
    unfold inV inD at *
    rw [List.any_cons, List.any_cons, eqv_rep h r f2.1 f, this]
def inO (neg : Bool) : Op2 := fun x y k => match y with
  | .tup ds => (flatD x = true ∧ ds.all flatD = true) ∧ k (.bl (if neg then !inD x ds else inD x ds))
  | .lst ds => (flatD x = true ∧ ds.all flatD = true) ∧ k (.bl (if neg then !inD x ds else inD x ds))
  | _ => False
theorem sr_in (neg : Bool) : SemR K (rIn K neg) (inO neg) := fun F Hs M σ H ρ x y dx dy Q Qd S rx ry k q => by
  unfold inO at q
  split at q
  · obtain ⟨⟨f1, f2⟩, q⟩ := q
    cases ry with
    | tup h l r =>
      refine ⟨_, _, rfl, .inr (sqT_ext S.hs h), flat_rep rx f1, flat_reps r f2, ?_⟩
      rw [in_reps rx f1 r f2]
      exact k _ H Hs _ (Ext.refl _) S (.bl _) q
  · obtain ⟨⟨f1, f2⟩, q⟩ := q
    cases ry with
    | lst h l r =>
      refine ⟨_, _, rfl, .inl (SqL.of (S.hs _ _ h)), flat_rep rx f1, flat_reps r f2, ?_⟩
      rw [in_reps rx f1 r f2]
      exact k _ H Hs _ (Ext.refl _) S (.bl _) q
  · exact q.elim
/-- one sign in a text -/
def rInSign (neg : Bool) : R2 := fun x y H Q => ∃ (c : Nat) (z : Str), x = .str ⟨#[c]⟩ ∧ y = .str z ∧ Q (.bl (if neg then !decide (c ∈ z.cps.toList) else decide (c ∈ z.cps.toList))) H
theorem op_inSign {X : Cx} : OpR X (compareOp .In) (rInSign false) := op_in_sign
theorem op_ninSign {X : Cx} : OpR X (compareOp .NotIn) (rInSign true) := op_notIn_sign
def inSO (neg : Bool) : Op2 := fun x y k => match x, y with
  | .str s, .str z => match s.cps.toList with
    | [c] => k (.bl (if neg then !decide (c ∈ tl z) else decide (c ∈ tl z)))
    | _ => False
  | _, _ => False
theorem sr_inS (neg : Bool) : SemR K (rInSign neg) (inSO neg) := fun F Hs M σ H ρ x y dx dy Q Qd S rx ry k q => by
  unfold inSO at q
  split at q
  · split at q
    · rename_i s z _ c e
      cases rx
      cases ry
      refine ⟨c, z, ?_, rfl, k _ H Hs _ (Ext.refl _) S (.bl _) q⟩
      rw [show s = ⟨#[c]⟩ from ext_tl e]
    · exact q.elim
  · exact q.elim
/-! ## items -/
def ixO : Op2 := fun x y k => match x, y with
  | .lst ds, .int i => match atI ds i with
    | some d => k d
    | none => False
  | .tup ds, .int i => match atI ds i with
    | some d => k d
    | none => False
  | .fzl ds, .int i => match atI ds i with
    | some d => k d
    | none => False
  | .str z, .int i => match atI (tl z) i with
    | some c => k (.str ⟨#[c]⟩)
    | none => False
  | _, _ => False
theorem atI_reps {H : Hp} {vs : List V} {ds : List D} {i : Int} {d : D} (r : Reps K H vs ds) (h : atI ds i = some d) : ∃ v, atI vs i = some v ∧ Rep K H v d := by
  unfold atI at *
  rw [r.length]
  cases e : ixN ds.length i with
  | none => rw [e] at h; cases h
  | some j =>
    rw [e] at h
    exact r.get h
theorem sr_ix : SemR K (rIx K) ixO := fun F Hs M σ H ρ x y dx dy Q Qd S rx ry k q => by
  unfold ixO at q
  split at q
  · split at q
    · rename_i d e
      cases ry
      cases rx with
      | lst h l r =>
        obtain ⟨v, e1, e2⟩ := atI_reps r e
        exact .inl ⟨_, _, _, v, rfl, rfl, SqL.of (S.hs _ _ h), e1, k _ H Hs _ (Ext.refl _) S e2 q⟩
    · exact q.elim
  · split at q
    · rename_i d e
      cases ry
      cases rx with
      | tup h l r =>
        obtain ⟨v, e1, e2⟩ := atI_reps r e
        exact .inr (.inl ⟨_, _, _, v, rfl, rfl, sqT_ext S.hs h, e1, k _ H Hs _ (Ext.refl _) S e2 q⟩)
    · exact q.elim
  · split at q
    · rename_i d e
      cases ry
      cases rx with
      | fzl h l r =>
        obtain ⟨v, e1, e2⟩ := atI_reps r e
        exact .inl ⟨_, _, _, v, rfl, rfl, sqL_ext S.hs h, e1, k _ H Hs _ (Ext.refl _) S e2 q⟩
    · exact q.elim
  · split at q
    · rename_i z i _ c e
      cases ry
      cases rx with
      | str _ hz =>
        have hc : c ∈ tl z := by
          unfold atI at e
          cases e2 : ixN (tl z).length i with
          | none => rw [e2] at e; cases e
          | some j => rw [e2] at e; exact List.mem_of_getElem? e
        have hb : c < 0x110000 := by
          have := (okS_iff.mp hz).1
          unfold strOkL at this
          simpa using List.all_eq_true.mp this c hc
        exact .inr (.inr ⟨z, _, c, rfl, rfl, by rw [line_eq]; exact okS_len hz, e, k _ H Hs _ (Ext.refl _) S (.str _ (okS_one hb)) q⟩)
    · exact q.elim
  · exact q.elim
/-! ## slices -/
def cutD {α : Type} (xs : List α) (lo hi : Option Int) : List α := (xs.drop (HT.sIx xs.length 0 lo)).take (HT.sIx xs.length xs.length hi - HT.sIx xs.length 0 lo)
theorem cut_reps {H : Hp} {vs : List V} {ds : List D} (lo hi : Option Int) (r : Reps K H vs ds) : Reps K H (cutV vs lo hi) (cutD ds lo hi) := by
  unfold cutV cutD
  rw [r.length]
  exact (r.drop _).take _
theorem cutD_len {α : Type} (xs : List α) (lo hi : Option Int) : (cutD xs lo hi).length ≤ xs.length := by
  unfold cutD
  rw [List.length_take, List.length_drop]
  omega
def slLO : OpS := fun x lo hi k => match x with
  | .lst ds => k (.lst (cutD ds lo hi))
  | .fzl ds => k (.lst (cutD ds lo hi))
  | _ => False
def slTO : OpS := fun x lo hi k => match x with
  | .tup ds => k (.tup (cutD ds lo hi))
  | _ => False
theorem ss_l : SemSl K (rSlL K) slLO := fun F Hs M σ H ρ x dx lo hi Q Qd S rx k q => by
  unfold slLO at q
  split at q
  · cases rx with
    | lst h l r =>
      have e := r.length
      refine ⟨_, _, rfl, SqL.of (S.hs _ _ h), fun p np => ?_⟩
      obtain ⟨S2, x2⟩ := S.new np (.lst _)
      exact k _ _ _ _ x2 S2 (.lst upd_same (Nat.le_trans (cutV_length _ _ _) l) ((cut_reps lo hi r).mono x2)) q
  · cases rx with
    | fzl h l r =>
      refine ⟨_, _, rfl, sqL_ext S.hs h, fun p np => ?_⟩
      obtain ⟨S2, x2⟩ := S.new np (.lst _)
      exact k _ _ _ _ x2 S2 (.lst upd_same (Nat.le_trans (cutV_length _ _ _) l) ((cut_reps lo hi r).mono x2)) q
  · exact q.elim
theorem ss_t : SemSl K (rSlA K) slTO := fun F Hs M σ H ρ x dx lo hi Q Qd S rx k q => by
  unfold slTO at q
  split at q
  · cases rx with
    | tup h l r =>
      have e := r.length
      have hc := cut_reps lo hi r
      refine ⟨_, _, rfl, sqT_ext S.hs h, fun hw => ?_, fun hw p np => ?_⟩
      · refine k _ H Hs _ (Ext.refl _) S (.tup h l ?_) q
        unfold cutV at hc
        rw [hw.1, hw.2, List.drop_zero, Nat.sub_zero, List.take_length] at hc
        exact hc
      · obtain ⟨S2, x2⟩ := S.new np (.tup _)
        exact k _ _ _ _ x2 S2 (.tup (SqT.of upd_same) (Nat.le_trans (cutV_length _ _ _) l) (hc.mono x2)) q
  · exact q.elim
/-! ## len -/
def lenD : D → Option Nat
  | .lst ds => some ds.length
  | .fzl ds => some ds.length
  | .tup ds => some ds.length
  | .str s => some s.length
  | _ => none
def lenO : OpC := fun ds k => match ds with
  | [x] => match lenD x with
    | some n => k (.int n)
    | none => False
  | _ => False
def rLenAll (K : PySem.W.Frag) : List V → Hp → VK → Prop := fun xs H Q => (∃ p ys, xs = [.ref p] ∧ (SqL K H p ys ∨ SqT K H p ys) ∧ Q (.int ys.length) H) ∨ (∃ z, xs = [.str z] ∧ z.length ≤ sizeLine ∧ Q (.int z.length) H)
theorem call_lenAll {X : Cx} : CallR X (.builtin "len") (rLenAll X.K) := call_len_seq.or call_len_str
theorem sc_len : SemC K (rLenAll K) lenO := fun F Hs M σ H ρ xs ds Q Qd S r k q => by
  unfold lenO at q
  split at q
  · cases r with
    | cons h t =>
      cases t
      split at q
      · rename_i n e
        cases h with
        | lst h l r =>
          cases e
          refine .inl ⟨_, _, rfl, .inl (SqL.of (S.hs _ _ h)), ?_⟩
          rw [r.length]
          exact k _ H Hs _ (Ext.refl _) S (.int _) q
        | fzl h l r =>
          cases e
          refine .inl ⟨_, _, rfl, .inl (sqL_ext S.hs h), ?_⟩
          rw [r.length]
          exact k _ H Hs _ (Ext.refl _) S (.int _) q
        | tup h l r =>
          cases e
          refine .inl ⟨_, _, rfl, .inr (sqT_ext S.hs h), ?_⟩
          rw [r.length]
          exact k _ H Hs _ (Ext.refl _) S (.int _) q
        | str z hz =>
          cases e
          exact .inr ⟨_, rfl, by rw [line_eq]; exact okS_len hz, k _ H Hs _ (Ext.refl _) S (.int _) q⟩
        | _ => cases e
      · exact q.elim
  · exact q.elim
/-! ## isinstance with a built-in class -/
def tyName : D → Option String
  | .non => some "NoneType"
  | .bl _ => some "bool"
  | .int _ => some "int"
  | .str _ => some "str"
  | .tup _ => some "tuple"
  | .lst _ => some "list"
  | .dct _ => some "dict"
  | _ => none
theorem tyx_of {F Hs : Hp} {M : Mem} {σ : L2.St} {H : Hp} {ρ : List Sl} {x : V} {d : D} {n : String} (S : Sta K F Hs M σ H ρ) (r : Rep K Hs x d) (h : tyName d = some n) : TyX K H x (.type n) := by
  cases r with
  | non => cases h; exact .base .non
  | bl b => cases h; exact .base (.bl b)
  | int b => cases h; exact .base (.int b)
  | str b _ => cases h; exact .base (.str b)
  | tup h1 _ _ =>
    cases h
    rcases sqT_ext S.hs h1 with (h2 | ⟨o, h2⟩) | ⟨o, its, m, h2, h3, _⟩
    · exact .base (.tup h2)
    · exact .fTuple h2
    · exact .kTuple h2 h3
  | lst h1 _ _ => cases h; exact .base (.lst (S.hs _ _ h1))
  | dct h1 _ => cases h; exact .base (.dK (S.hs _ _ h1))
  | _ => cases h
def isiD (x : D) (n : String) : Option Bool := match tyName x with
  | some a => kitB a n
  | none => none
def isiO : OpC := fun ds k => match ds with
  | [x, .ty n] => match isiD x n with
    | some b => k (.bl b)
    | none => False
  | _ => False
theorem sc_isi : SemC K (rIsi K) isiO := fun F Hs M σ H ρ xs ds Q Qd S r k q => by
  unfold isiO at q
  split at q
  · rename_i x n
    cases r with
    | cons h t =>
      cases t with
      | cons h2 t =>
        cases t
        cases h2
        split at q
        · rename_i b e
          unfold isiD at e
          cases e2 : tyName x with
          | none => rw [e2] at e; cases e
          | some a =>
            rw [e2] at e
            exact ⟨_, _, _, _, b, rfl, .ty n, tyx_of S h e2, kit_ty e, k _ H Hs _ (Ext.refl _) S (.bl _) q⟩
        · exact q.elim
  · exact q.elim
/-! ## int, str, bool, abs, min, max -/
def intO : OpC := fun ds k => match ds with
  | [.int i] => k (.int i)
  | [.bl b] => k (.int (if b then 1 else 0))
  | _ => False
def rInt1 : List V → Hp → VK → Prop := fun xs H Q => (∃ i, xs = [.int i] ∧ Q (.int i) H) ∨ ∃ k, xs = [.bl k] ∧ Q (.int (if k then 1 else 0)) H
theorem call_intI {X : Cx} : CallR X (.type "int") rInt1 := call_int1
theorem sc_int : SemC K rInt1 intO := fun F Hs M σ H ρ xs ds Q Qd S r k q => by
  unfold intO at q
  split at q
  · cases r with
    | cons h t => cases t; cases h; exact .inl ⟨_, rfl, k _ H Hs _ (Ext.refl _) S (.int _) q⟩
  · cases r with
    | cons h t => cases t; cases h; exact .inr ⟨_, rfl, k _ H Hs _ (Ext.refl _) S (.int _) q⟩
  · exact q.elim
def absO : OpC := fun ds k => match ds with
  | [.int i] => k (.int (if i < 0 then -i else i))
  | _ => False
def rAbs : List V → Hp → VK → Prop := fun xs H Q => ∃ i, xs = [.int i] ∧ Q (.int (if i < 0 then -i else i)) H
theorem call_absI {X : Cx} : CallR X (.builtin "abs") rAbs := call_abs
theorem sc_abs : SemC K rAbs absO := fun F Hs M σ H ρ xs ds Q Qd S r k q => by
  unfold absO at q
  split at q
  · cases r with
    | cons h t => cases t; cases h; exact ⟨_, rfl, k _ H Hs _ (Ext.refl _) S (.int _) q⟩
  · exact q.elim
def maxO : OpC := fun ds k => match ds with
  | [.int i, .int j] => k (.int (max i j))
  | _ => False
def minO : OpC := fun ds k => match ds with
  | [.int i, .int j] => k (.int (min i j))
  | _ => False
def rMax2 : List V → Hp → VK → Prop := fun xs H Q => ∃ i j, xs = [.int i, .int j] ∧ Q (.int (if j > i then j else i)) H
def rMin2 : List V → Hp → VK → Prop := fun xs H Q => ∃ i j, xs = [.int i, .int j] ∧ Q (.int (if j < i then j else i)) H
theorem call_maxI {X : Cx} (hc : X.calm = true) : CallR X (.builtin "max") rMax2 := call_max2 hc
theorem call_minI {X : Cx} (hc : X.calm = true) : CallR X (.builtin "min") rMin2 := call_min2 hc
theorem sc_max : SemC K rMax2 maxO := fun F Hs M σ H ρ xs ds Q Qd S r k q => by
  unfold maxO at q
  split at q
  · cases r with
    | cons h t =>
      cases t with
      | cons h2 t =>
        cases t; cases h; cases h2
        refine ⟨_, _, rfl, ?_⟩
        rw [show ∀ i j : Int, (if j > i then j else i) = max i j from fun i j => by split <;> omega]
        exact k _ H Hs _ (Ext.refl _) S (.int _) q
  · exact q.elim
theorem sc_min : SemC K rMin2 minO := fun F Hs M σ H ρ xs ds Q Qd S r k q => by
  unfold minO at q
  split at q
  · cases r with
    | cons h t =>
      cases t with
      | cons h2 t =>
        cases t; cases h; cases h2
        refine ⟨_, _, rfl, ?_⟩
        rw [show ∀ i j : Int, (if j < i then j else i) = min i j from fun i j => by split <;> omega]
        exact k _ H Hs _ (Ext.refl _) S (.int _) q
  · exact q.elim
/-! ## str of an int -/
theorem strOkL_digits : ∀ (l : List Nat), NumText.AllDigits l → strOkL l = true := fun l h => by
  unfold strOkL
  rw [List.all_eq_true]
  intro c hc
  have := h c hc
  simp
  omega
def numS (n : Nat) : Str := toString ((n : Nat) : Int)
theorem tl_numS (n : Nat) : tl (numS n) = numL n := tl_num n
theorem okS_num {n : Nat} (h : n < 10 ^ 600) : okS (numS n) = true := by
  rw [okS_iff]
  refine ⟨by rw [tl_numS]; exact strOkL_digits _ (numL_digits n), ?_⟩
  rw [len_tl, tl_numS]
  have := numL_len (k := 600) (by decide) h
  omega
def strO : OpC := fun ds k => match ds with
  | [.int i] => (0 ≤ i ∧ i < 1000000000000) ∧ k (.str (numS i.toNat))
  | _ => False
def rStrI : List V → Hp → VK → Prop := fun xs H Q => ∃ i, xs = [.int i] ∧ i.natAbs.log2 < 1920 ∧ Q (.str (toString i)) H
theorem call_strI {X : Cx} : CallR X (.type "str") rStrI := call_str_int
theorem log2_small {i : Int} (h0 : 0 ≤ i) (h : i < 1000000000000) : i.natAbs.log2 < 1920 := by
  have : i.natAbs < 2 ^ 1920 := Nat.lt_of_lt_of_le (show i.natAbs < 2 ^ 40 by omega) (Nat.pow_le_pow_right (by decide) (by decide))
  by_cases z : i.natAbs = 0
  · rw [z]; decide
  · exact (Nat.log2_lt z).mpr this
theorem sc_str : SemC K rStrI strO := fun F Hs M σ H ρ xs ds Q Qd S r k q => by
  unfold strO at q
  split at q
  · rename_i i
    obtain ⟨⟨h0, h1⟩, q⟩ := q
    cases r with
    | cons h t =>
      cases t; cases h
      refine ⟨_, rfl, log2_small h0 h1, ?_⟩
      have e : (toString i : Str) = numS i.toNat := by
        unfold numS
        rw [Int.toNat_of_nonneg h0]
      rw [e]
      exact k _ H Hs _ (Ext.refl _) S (.str _ (okS_num (Nat.lt_of_lt_of_le (show i.toNat < 10 ^ 12 by omega) (Nat.pow_le_pow_right (by decide) (by decide))))) q
  · exact q.elim
/-! ## tuple, list -/
def tupO : OpC := fun ds k => match ds with
  | [.lst xs] => k (.tup xs)
  | [.tup xs] => k (.tup xs)
  | _ => False
def rTupOf (K : PySem.W.Frag) : List V → Hp → VK → Prop := fun xs H Q => ∃ p ys, xs = [.ref p] ∧ ((SqL K H p ys ∧ ∀ l, H l = none → Q (.ref l) (upd H l (.tup ys))) ∨ (SqT K H p ys ∧ Q (.ref p) H))
theorem call_tupOf {X : Cx} : CallR X (.type "tuple") (rTupOf X.K) := call_tuple_of
theorem sc_tup : SemC K (rTupOf K) tupO := fun F Hs M σ H ρ xs ds Q Qd S r k q => by
  unfold tupO at q
  split at q
  · cases r with
    | cons h t =>
      cases t
      cases h with
      | lst h l r =>
        refine ⟨_, _, rfl, .inl ⟨SqL.of (S.hs _ _ h), fun p np => ?_⟩⟩
        obtain ⟨S2, x2⟩ := S.new np (.tup _)
        exact k _ _ _ _ x2 S2 (.tup (SqT.of upd_same) l (r.mono x2)) q
  · cases r with
    | cons h t =>
      cases t
      cases h with
      | tup h l r => exact ⟨_, _, rfl, .inr ⟨sqT_ext S.hs h, k _ H Hs _ (Ext.refl _) S (.tup h l r) q⟩⟩
  · exact q.elim
def lstO : OpC := fun ds k => match ds with
  | [.lst xs] => k (.lst xs)
  | [.tup xs] => k (.lst xs)
  | _ => False
def rLstOf (K : PySem.W.Frag) : List V → Hp → VK → Prop := fun xs H Q => ∃ p ys, xs = [.ref p] ∧ (SqL K H p ys ∨ SqT K H p ys) ∧ ∀ l, H l = none → Q (.ref l) (upd H l (.lst ys))
theorem call_lstOf {X : Cx} : CallR X (.type "list") (rLstOf X.K) := call_list_of
theorem sc_lst : SemC K (rLstOf K) lstO := fun F Hs M σ H ρ xs ds Q Qd S r k q => by
  unfold lstO at q
  split at q
  · cases r with
    | cons h t =>
      cases t
      cases h with
      | lst h l r =>
        refine ⟨_, _, rfl, .inl (SqL.of (S.hs _ _ h)), fun p np => ?_⟩
        obtain ⟨S2, x2⟩ := S.new np (.lst _)
        exact k _ _ _ _ x2 S2 (.lst upd_same l (r.mono x2)) q
  · cases r with
    | cons h t =>
      cases t
      cases h with
      | tup h l r =>
        refine ⟨_, _, rfl, .inr (sqT_ext S.hs h), fun p np => ?_⟩
        obtain ⟨S2, x2⟩ := S.new np (.lst _)
        exact k _ _ _ _ x2 S2 (.lst upd_same l (r.mono x2)) q
  · exact q.elim
/-! ## all, any, sum -/
def blsOf : List D → Option (List Bool)
  | [] => some []
  | .bl b :: r => (blsOf r).map (b :: ·)
  | _ => none
theorem bls_rep {H : Hp} : ∀ {vs : List V} {ds : List D} {bs : List Bool}, Reps K H vs ds → blsOf ds = some bs → vs = bs.map V.bl
  | _, _, _, .nil, e => by cases e; rfl
  | _, _, bs, .cons (d := d) h t, e => by
    cases h with
    | bl b =>
      rename_i vs ds
      unfold blsOf at e
      cases e2 : blsOf ds with
      | none => rw [e2] at e; cases e
      | some cs =>
        rw [e2] at e
        cases e
        rw [bls_rep t e2]
        rfl
    | _ => cases e
def allO : OpC := fun ds k => match ds with
  | [.lst xs] => match blsOf xs with
    | some bs => k (.bl (bs.all id))
    | none => False
  | _ => False
def anyO : OpC := fun ds k => match ds with
  | [.lst xs] => match blsOf xs with
    | some bs => k (.bl (bs.any id))
    | none => False
  | _ => False
theorem sc_all : SemC K (rAll K) allO := fun F Hs M σ H ρ xs ds Q Qd S r k q => by
  unfold allO at q
  split at q
  · split at q
    · rename_i bs e
      cases r with
      | cons h t =>
        cases t
        cases h with
        | lst h l r =>
          have e2 := bls_rep r e
          subst e2
          exact ⟨_, bs, rfl, SqL.of (S.hs _ _ h), k _ H Hs _ (Ext.refl _) S (.bl _) q⟩
    · exact q.elim
  · exact q.elim
theorem sc_any : SemC K (rAny K) anyO := fun F Hs M σ H ρ xs ds Q Qd S r k q => by
  unfold anyO at q
  split at q
  · split at q
    · rename_i bs e
      cases r with
      | cons h t =>
        cases t
        cases h with
        | lst h l r =>
          have e2 := bls_rep r e
          subst e2
          exact ⟨_, bs, rfl, SqL.of (S.hs _ _ h), k _ H Hs _ (Ext.refl _) S (.bl _) q⟩
    · exact q.elim
  · exact q.elim
end
end DL

namespace DL
open PySem PySem.Spec PyProof.Rows L2 TL
/-! ## text * int, list * int -/
def mkS (l : List Nat) : Str := ⟨l.toArray⟩
theorem tl_mkS (l : List Nat) : tl (mkS l) = l := rfl
theorem mkS_tl (x : Str) : mkS (tl x) = x := ext_tl rfl
def repS (z : Str) (n : Nat) : Str := mkS (List.replicate n (tl z)).flatten
theorem foldl_app : ∀ (l : List (Array Nat)) (a : Array Nat), (l.foldl (· ++ ·) a).toList = a.toList ++ (l.map Array.toList).flatten
  | [], a => by simp
  | x :: r, a => by rw [List.foldl_cons, foldl_app r (a ++ x)]; simp
theorem len_rep (l : List Nat) : ∀ n : Nat, (List.replicate n l).flatten.length = n * l.length
  | 0 => by simp
  | n + 1 => by rw [List.replicate_succ, List.flatten_cons, List.length_append, len_rep l n, Nat.succ_mul]; omega
theorem mul_repS (z : Str) (n : Int) (h : 0 ≤ n) : Txt.mul z n = repS z n.toNat := by
  unfold Txt.mul repS
  apply ext_tl
  rw [tl_mkS]
  by_cases h1 : n < 1
  · have : n = 0 := by omega
    subst this
    rfl
  · rw [if_neg h1]
    by_cases h2 : (n == 1 || z.length == 0) = true
    · rw [if_pos h2]
      rw [Bool.or_eq_true, beq_iff_eq, beq_iff_eq] at h2
      rcases h2 with h2 | h2
      · subst h2
        show tl z = (List.replicate 1 (tl z)).flatten
        simp
      · have e : tl z = [] := by
          have := len_tl z
          rw [h2] at this
          exact List.length_eq_zero_iff.mp this.symm
        rw [e]
        have : ∀ k : Nat, (List.replicate k ([] : List Nat)).flatten = [] := fun k => by
          induction k with
          | zero => rfl
          | succ k ih => rw [List.replicate_succ, List.flatten_cons, ih]; rfl
        rw [this]
    · rw [if_neg h2]
      show (List.foldl (· ++ ·) #[] (List.replicate n.toNat z.cps)).toList = _
      rw [foldl_app]
      simp [tl]
def rMulS : R2 := fun x y H Q => ∃ (z : Str) (n : Int), x = .str z ∧ y = .int n ∧ 0 ≤ n ∧ n < 2 ^ 62 ∧ z.length * n.toNat ≤ 16777216 ∧ Q (.str (repS z n.toNat)) H
theorem op_mulS {X : Cx} : OpR X (binaryOp .Mult) rMulS := by
  intro pins s σ H x y v u Q I rx ry h
  obtain ⟨z, n, rfl, rfl, h0, h1, hz, q⟩ := h
  obtain ⟨t, rfl⟩ := rx
  obtain ⟨t', rfl⟩ := ry
  refine SB.mul ⟨?_, fun h2 h3 => ?_, fun h2 h3 => ?_⟩ fun t2 k => ?_
  · have a : ¬ n < -(2 ^ 63 : Int) := by omega
    have b : ¬ n ≥ 2 ^ 63 := by omega
    rw [decide_eq_false a, decide_eq_false b]; rfl
  · have hn : 0 < n := by omega
    intro c
    have c1 : (2 ^ 63 - 1 : Int) / n < (z.length : Int) := c
    have c2 : (2 ^ 63 - 1 : Int) < (z.length : Int) * n := (Int.ediv_lt_iff_lt_mul hn).mp c1
    have c3 : ((z.length * n.toNat : Nat) : Int) = (z.length : Int) * n := by
      rw [Int.natCast_mul, Int.toNat_of_nonneg h0]
    rw [← c3] at c2
    omega
  · unfold Builtin.Str.tooLong
    have := line_eq
    simp
    omega
  · rw [mul_repS z n h0]
    exact ⟨.str (repS z n.toNat), H, I.tok _, ⟨_, rfl⟩, q⟩
def rMulAll : R2 := fun x y H Q => rI CMul (fun i j => .int (i * j)) x y H Q ∨ (rMulS x y H Q ∨ rRep x y H Q)
theorem op_mulAll {X : Cx} : OpR X (binaryOp .Mult) rMulAll := op_mul.or (op_mulS.or op_rep)
def mulAllO : Op2 := fun x y k => match x, y with
  | .int i, .int j => CMul i j ∧ k (.int (i * j))
  | .str z, .int n => (0 ≤ n ∧ n < 2 ^ 62 ∧ z.length * n.toNat ≤ 16777216) ∧ k (.str (repS z n.toNat))
  | .lst ds, .int n => (0 ≤ n ∧ n < 2 ^ 62 ∧ ds.length * n.toNat ≤ 16777216) ∧ k (.lst (List.replicate n.toNat ds).flatten)
  | _, _ => False
section
variable {K : PySem.W.Frag}
theorem okS_rep {z : Str} {n : Nat} (h : okS z = true) (hl : z.length * n ≤ 16777216) : okS (repS z n) = true := by
  refine okS_sub h (fun c hc => ?_) ?_
  · rw [repS, tl_mkS, List.mem_flatten] at hc
    obtain ⟨l, h1, h2⟩ := hc
    rw [List.eq_of_mem_replicate h1] at h2
    exact h2
  · rw [len_tl, repS, tl_mkS, len_rep, ← len_tl, Nat.mul_comm]
    exact hl
theorem Reps.rep {H : Hp} {vs : List V} {ds : List D} (r : Reps K H vs ds) : ∀ n : Nat, Reps K H (List.replicate n vs).flatten (List.replicate n ds).flatten
  | 0 => .nil
  | n + 1 => by
    rw [List.replicate_succ, List.replicate_succ, List.flatten_cons, List.flatten_cons]
    exact r.append (Reps.rep r n)
theorem sr_mulAll : SemR K rMulAll mulAllO := fun F Hs M σ H ρ x y dx dy Q Qd S rx ry k q => by
  unfold mulAllO at q
  split at q
  · cases rx; cases ry
    exact .inl ⟨_, _, rfl, rfl, q.1, k _ H Hs _ (Ext.refl _) S (.int _) q.2⟩
  · cases ry
    cases rx with
    | str _ hz => exact .inr (.inl ⟨_, _, rfl, rfl, q.1.1, q.1.2.1, q.1.2.2, k _ H Hs _ (Ext.refl _) S (.str _ (okS_rep hz q.1.2.2)) q.2⟩)
  · rename_i ds n
    cases ry
    cases rx with
    | lst h l r =>
      have e := r.length
      obtain ⟨⟨q1, q2, q3⟩, q⟩ := q
      refine .inr (.inr ⟨_, _, _, rfl, rfl, S.hs _ _ h, by omega, by omega, by rw [line_eq, e]; exact q3, fun p np => ?_⟩)
      obtain ⟨S2, x2⟩ := S.new np (.lst (List.replicate n.toNat _).flatten)
      refine k _ _ _ _ x2 S2 (.lst upd_same ?_ ((r.rep _).mono x2)) q
      rw [(r.rep n.toNat).length]
      have : (List.replicate n.toNat ds).flatten.length = n.toNat * ds.length := by simp
      rw [this, Nat.mul_comm]
      exact q3
  · exact q.elim
/-! ## slices of anything -/
theorem tl_cutS (z : Str) (lo hi : Option Int) : tl (cutS z lo hi) = cutD (tl z) lo hi := by
  unfold cutD
  rw [← len_tl]
  rfl
def cutZ (z : Str) (lo hi : Option Int) : Str := mkS (cutD (tl z) lo hi)
theorem cutS_eq (z : Str) (lo hi : Option Int) : cutS z lo hi = cutZ z lo hi := ext_tl (tl_cutS z lo hi)
theorem cutD_mem {α : Type} {xs : List α} {lo hi : Option Int} {c : α} (h : c ∈ cutD xs lo hi) : c ∈ xs := List.mem_of_mem_drop (List.mem_of_mem_take h)
theorem okS_cut {z : Str} (h : okS z = true) (lo hi : Option Int) : okS (cutZ z lo hi) = true :=
  okS_sub h (fun c hc => cutD_mem hc) (by
    have h1 := cutD_len (tl z) lo hi
    have h2 := okS_len h
    rw [len_tl] at h2 ⊢
    show (cutD (tl z) lo hi).length ≤ _
    omega)
def rSlAll (K : PySem.W.Frag) : V → Option Int → Option Int → Hp → VK → Prop := fun x lo hi H Q => rSlL K x lo hi H Q ∨ (rSlA K x lo hi H Q ∨ rSlS x lo hi H Q)
theorem sl_all {X : Cx} : SlR X (rSlAll X.K) := sl_list.or (sl_tupA.or sl_str)
def slO : OpS := fun x lo hi k => match x with
  | .lst ds => k (.lst (cutD ds lo hi))
  | .fzl ds => k (.lst (cutD ds lo hi))
  | .tup ds => k (.tup (cutD ds lo hi))
  | .str z => k (.str (cutZ z lo hi))
  | _ => False
theorem ss_all : SemSl K (rSlAll K) slO := fun F Hs M σ H ρ x dx lo hi Q Qd S rx k q => by
  unfold slO at q
  split at q
  · exact .inl (ss_l F Hs M σ H ρ x _ lo hi Q Qd S rx k q)
  · exact .inl (ss_l F Hs M σ H ρ x _ lo hi Q Qd S rx k q)
  · exact .inr (.inl (ss_t F Hs M σ H ρ x _ lo hi Q Qd S rx k q))
  · cases rx with
    | str _ hz =>
      refine .inr (.inr ⟨_, rfl, by rw [line_eq]; exact okS_len hz, ?_⟩)
      rw [cutS_eq]
      exact k _ H Hs _ (Ext.refl _) S (.str _ (okS_cut hz lo hi)) q
  · exact q.elim
/-! ## methods of texts, list.index -/
def strsOf : List D → Option (List Str)
  | [] => some []
  | .str b :: r => (strsOf r).map (b :: ·)
  | _ => none
theorem strs_rep {H : Hp} : ∀ {vs : List V} {ds : List D} {bs : List Str}, Reps K H vs ds → strsOf ds = some bs → vs = bs.map V.str ∧ ∀ b ∈ bs, okS b = true
  | _, _, _, .nil, e => by cases e; exact ⟨rfl, fun b hb => by cases hb⟩
  | _, _, bs, .cons (d := d) h t, e => by
    cases h with
    | str b hb =>
      unfold strsOf at e
      cases e2 : strsOf _ with
      | none => rw [e2] at e; cases e
      | some cs =>
        rw [e2] at e
        cases e
        obtain ⟨h1, h2⟩ := strs_rep t e2
        refine ⟨by rw [h1]; rfl, fun c hc => ?_⟩
        rcases List.mem_cons.mp hc with rfl | hc
        · exact hb
        · exact h2 c hc
    | _ => cases e
theorem reps_strs {H : Hp} : ∀ {bs : List Str}, (∀ b ∈ bs, okS b = true) → Reps K H (bs.map V.str) (bs.map D.str)
  | [], _ => .nil
  | b :: r, h => .cons (.str b (h b List.mem_cons_self)) (reps_strs fun c hc => h c (List.mem_cons_of_mem _ hc))
def joinZ (sep : Str) (ys : List Str) : Str := mkS (joinL (tl sep) (ys.map tl))
theorem join_joinZ (sep : Str) (ys : List Str) : Txt.join sep ys = joinZ sep ys := by
  rw [join_eq]
  exact ext_tl (tl_join sep ys)
theorem joinL_mem (S : List Nat) : ∀ (ps : List (List Nat)) (c : Nat), c ∈ joinL S ps → c ∈ S ∨ ∃ p ∈ ps, c ∈ p
  | [], c, h => by simp [joinL] at h
  | [p], c, h => .inr ⟨p, by simp, by simpa [joinL] using h⟩
  | p :: q :: r, c, h => by
    rw [joinL] at h
    rcases List.mem_append.mp h with h | h
    · exact .inr ⟨p, by simp, h⟩
    · rcases List.mem_append.mp h with h | h
      · exact .inl h
      · rcases joinL_mem S (q :: r) c h with h | ⟨x, h1, h2⟩
        · exact .inl h
        · exact .inr ⟨x, List.mem_cons_of_mem _ h1, h2⟩
theorem joinL_len (S : List Nat) : ∀ (ps : List (List Nat)), (joinL S ps).length ≤ (ps.map List.length).sum + ps.length * S.length
  | [] => by simp [joinL]
  | [p] => by simp [joinL]
  | p :: q :: r => by
    have ih := joinL_len S (q :: r)
    rw [joinL]
    simp only [List.length_append, List.map_cons, List.sum_cons, List.length_cons] at ih ⊢
    rw [Nat.succ_mul]
    omega
theorem okS_join {sep : Str} {ys : List Str} (hs : okS sep = true) (hy : ∀ b ∈ ys, okS b = true) (hl : (ys.map (·.length)).sum + ys.length * sep.length ≤ 16777216) : okS (joinZ sep ys) = true := by
  rw [okS_iff]
  constructor
  · unfold strOkL
    rw [List.all_eq_true]
    intro c hc
    rcases joinL_mem _ _ c hc with h | ⟨p, h1, h2⟩
    · exact List.all_eq_true.mp (okS_iff.mp hs).1 c h
    · obtain ⟨b, hb, rfl⟩ := List.mem_map.mp h1
      exact List.all_eq_true.mp (okS_iff.mp (hy b hb)).1 c h2
  · have := joinL_len (tl sep) (ys.map tl)
    rw [len_tl, joinZ, tl_mkS]
    have e : ((ys.map tl).map List.length) = ys.map (·.length) := by
      rw [List.map_map]
      exact List.map_congr_left fun b _ => (len_tl b).symm
    rw [e, List.length_map, ← len_tl] at this
    omega
def joinO : OpM := fun x ds k => match x, ds with
  | .str sep, [.lst xs] => match strsOf xs with
    | some ys => (ys.map (·.length)).sum + ys.length * sep.length ≤ 16777216 ∧ k (.str (joinZ sep ys))
    | none => False
  | .str sep, [.tup xs] => match strsOf xs with
    | some ys => (ys.map (·.length)).sum + ys.length * sep.length ≤ 16777216 ∧ k (.str (joinZ sep ys))
    | none => False
  | _, _ => False
def rJoin (K : PySem.W.Frag) : V → List V → Hp → VK → Prop := fun x xs H Q => ∃ a p, ∃ ys : List Str, x = .str a ∧ xs = [.ref p] ∧ (SqL K H p (ys.map V.str) ∨ SqT K H p (ys.map V.str)) ∧
    (ys.map (·.length)).sum + ys.length * a.length ≤ 16777216 ∧ Q (.str (Txt.join a ys)) H
theorem mt_joinI {X : Cx} : MtR X "str.join" (rJoin X.K) := mt_join
theorem sm_join : SemM K (rJoin K) joinO := fun F Hs M σ H ρ x dx xs ds Q Qd S rx r k q => by
  unfold joinO at q
  split at q
  · split at q
    · rename_i ys e
      cases rx with
      | str _ hz =>
        cases r with
        | cons h t =>
          cases t
          cases h with
          | lst h l r =>
            obtain ⟨e1, e2⟩ := strs_rep r e
            subst e1
            refine ⟨_, _, ys, rfl, rfl, .inl (SqL.of (S.hs _ _ h)), q.1, ?_⟩
            rw [join_joinZ]
            exact k _ H Hs _ (Ext.refl _) S (.str _ (okS_join hz e2 q.1)) q.2
    · exact q.elim
  · split at q
    · rename_i ys e
      cases rx with
      | str _ hz =>
        cases r with
        | cons h t =>
          cases t
          cases h with
          | tup h l r =>
            obtain ⟨e1, e2⟩ := strs_rep r e
            subst e1
            refine ⟨_, _, ys, rfl, rfl, .inr (sqT_ext S.hs h), q.1, ?_⟩
            rw [join_joinZ]
            exact k _ H Hs _ (Ext.refl _) S (.str _ (okS_join hz e2 q.1)) q.2
    · exact q.elim
  · exact q.elim
/-- split at one sign below 256 -/
def splitZ (c : Nat) (l : List Nat) : List (List Nat) := spl [c] 0 [] l
theorem spl_mem (S : List Nat) : ∀ (l : List Nat) (k : Nat) (acc : List Nat), ∀ q ∈ spl S k acc l, (∀ c ∈ q, c ∈ acc ∨ c ∈ l) ∧ q.length ≤ acc.length + l.length
  | [], k, acc, q, h => by
    rw [spl_nil] at h
    simp at h
    subst h
    exact ⟨fun c hc => .inl hc, by simp⟩
  | x :: l, k, acc, q, h => by
    cases k with
    | succ k =>
      rw [spl] at h
      obtain ⟨h1, h2⟩ := spl_mem S l k acc q h
      exact ⟨fun c hc => (h1 c hc).imp id (List.mem_cons_of_mem _), by simp; omega⟩
    | zero =>
      by_cases hp : pre S (x :: l) = true
      · rw [spl_hit hp] at h
        rcases List.mem_cons.mp h with h | h
        · subst h
          exact ⟨fun c hc => .inl hc, by simp⟩
        · obtain ⟨h1, h2⟩ := spl_mem S l _ [] q h
          refine ⟨fun c hc => ?_, by simp at h2 ⊢; omega⟩
          rcases h1 c hc with z | z
          · cases z
          · exact .inr (List.mem_cons_of_mem _ z)
      · have hp' : pre S (x :: l) = false := by simpa using hp
        rw [spl_miss hp'] at h
        obtain ⟨h1, h2⟩ := spl_mem S l 0 (acc ++ [x]) q h
        refine ⟨fun c hc => ?_, by simp at h2 ⊢; omega⟩
        rcases h1 c hc with z | z
        · rcases List.mem_append.mp z with z | z
          · exact .inl z
          · simp at z; subst z; exact .inr List.mem_cons_self
        · exact .inr (List.mem_cons_of_mem _ z)
theorem spl_len (S : List Nat) : ∀ (l : List Nat) (k : Nat) (acc : List Nat), (spl S k acc l).length ≤ l.length + 1
  | [], k, acc => by rw [spl_nil]; simp
  | x :: l, k, acc => by
    cases k with
    | succ k => rw [spl]; have := spl_len S l k acc; simp; omega
    | zero =>
      by_cases hp : pre S (x :: l) = true
      · rw [spl_hit hp]; have := spl_len S l (S.length - 1) []; simp; omega
      · have hp' : pre S (x :: l) = false := by simpa using hp
        rw [spl_miss hp']; have := spl_len S l 0 (acc ++ [x]); simp; omega
def splitO : OpM := fun x ds k => match x, ds with
  | .str a, [.str b] => match tl b with
    | [c] => (c < 256 ∧ a.length ≤ 16777214) ∧ k (.lst ((splitZ c (tl a)).map fun l => .str (mkS l)))
    | _ => False
  | _, _ => False
def rSplit : V → List V → Hp → VK → Prop := fun x xs H Q => ∃ a b, x = .str a ∧ xs = [.str b] ∧ (b.length == 0) = false ∧ a.length + 2 ≤ sizeLine ∧ rNewStrs (Txt.split a b) H Q
theorem mt_splitI {X : Cx} : MtR X "str.split" rSplit := mt_split
theorem split_eq {a b : Str} {c : Nat} (e : tl b = [c]) (hc : c < 256) : Txt.split a b = (splitZ c (tl a)).map mkS := by
  have h1 := split_spl a b (by rw [e]; simp) (kind_ok (by
    rw [Array.all_eq_true']
    intro d hd
    have : d ∈ tl b := by simpa [tl] using hd
    rw [e] at this
    simp at this
    subst this
    simpa using hc))
  rw [e] at h1
  unfold splitZ
  rw [← h1, List.map_map]
  conv => lhs; rw [← List.map_id (Txt.split a b)]
  exact List.map_congr_left fun x _ => (mkS_tl x).symm
theorem sm_split : SemM K rSplit splitO := fun F Hs M σ H ρ x dx xs ds Q Qd S rx r k q => by
  unfold splitO at q
  split at q
  · split at q
    · rename_i a b _ c e
      obtain ⟨⟨q1, q2⟩, q⟩ := q
      cases rx with
      | str _ ha =>
        cases r with
        | cons h t =>
          cases t
          cases h with
          | str _ hb =>
            refine ⟨a, b, rfl, rfl, ?_, by rw [line_eq]; omega, fun p np => ?_⟩
            · rw [len_tl, e]; rfl
            · rw [split_eq e q1]
              obtain ⟨S2, x2⟩ := S.new np (.lst (((splitZ c (tl a)).map mkS).map V.str))
              have hl := spl_len [c] (tl a) 0 []
              have hla := okS_len ha
              rw [len_tl] at hla
              rw [len_tl] at q2
              refine k _ _ _ _ x2 S2 (.lst upd_same (by rw [List.length_map, List.length_map]; unfold splitZ; omega) ?_) q
              have : ((splitZ c (tl a)).map fun l => D.str (mkS l)) = ((splitZ c (tl a)).map mkS).map D.str := by rw [List.map_map]; rfl
              rw [this]
              refine reps_strs fun b hb => ?_
              obtain ⟨l, hl1, rfl⟩ := List.mem_map.mp hb
              obtain ⟨m1, m2⟩ := spl_mem [c] (tl a) 0 [] l hl1
              refine okS_sub ha (fun d hd => ?_) (by rw [len_tl, tl_mkS]; simp only [List.length_nil, Nat.zero_add] at m2; exact Nat.le_trans m2 hla)
              rcases m1 d hd with z | z
              · cases z
              · exact z
    · exact q.elim
  · exact q.elim
def countO : OpM := fun x ds k => match x, ds with
  | .str a, [.str b] => k (.int (Txt.count a b))
  | _, _ => False
def rCount : V → List V → Hp → VK → Prop := fun x xs H Q => ∃ a b, x = .str a ∧ xs = [.str b] ∧ Q (.int (Txt.count a b)) H
theorem mt_countI {X : Cx} : MtR X "str.count" rCount := mt_count
theorem sm_count : SemM K rCount countO := fun F Hs M σ H ρ x dx xs ds Q Qd S rx r k q => by
  unfold countO at q
  split at q
  · cases rx
    cases r with
    | cons h t => cases t; cases h; exact ⟨_, _, rfl, rfl, k _ H Hs _ (Ext.refl _) S (.int _) q⟩
  · exact q.elim
def startsO : OpM := fun x ds k => match x, ds with
  | .str a, [.str b] => k (.bl (Txt.startswith a b))
  | _, _ => False
def rStarts : V → List V → Hp → VK → Prop := fun x xs H Q => ∃ a b, x = .str a ∧ xs = [.str b] ∧ Q (.bl (Txt.startswith a b)) H
theorem mt_startsI {X : Cx} : MtR X "str.startswith" rStarts := mt_startswith
theorem sm_starts : SemM K rStarts startsO := fun F Hs M σ H ρ x dx xs ds Q Qd S rx r k q => by
  unfold startsO at q
  split at q
  · cases rx
    cases r with
    | cons h t => cases t; cases h; exact ⟨_, _, rfl, rfl, k _ H Hs _ (Ext.refl _) S (.bl _) q⟩
  · exact q.elim
/-- the first place -/
def indexD (x : D) : List D → Option Nat
  | [] => none
  | d :: r => if eqvD d x = true then some 0 else (indexD x r).map (· + 1)
def indexO : OpM := fun x ds k => match x, ds with
  | .lst xs, [y] => (flatD y = true ∧ xs.all flatD = true) ∧ match indexD y xs with
    | some j => k (.int (j : Nat))
    | none => False
  | _, _ => False
theorem index_spec {x : D} : ∀ {ds : List D} {j : Nat}, indexD x ds = some j → (∃ d, ds[j]? = some d ∧ eqvD d x = true) ∧ ∀ m d, m < j → ds[m]? = some d → eqvD d x = false
  | [], j, h => by cases h
  | d :: r, j, h => by
    unfold indexD at h
    split at h
    · rename_i e
      cases h
      exact ⟨⟨d, rfl, e⟩, fun m d hm => by omega⟩
    · rename_i e
      cases e2 : indexD x r with
      | none => rw [e2] at h; cases h
      | some i =>
        rw [e2] at h
        cases h
        obtain ⟨⟨d', h1, h2⟩, h3⟩ := index_spec e2
        refine ⟨⟨d', h1, h2⟩, fun m d'' hm hd => ?_⟩
        cases m with
        | zero => simp at hd; subst hd; simpa using e
        | succ m => exact h3 m d'' (Nat.lt_of_succ_lt_succ hm) (by simpa using hd)
theorem sm_index : SemM K (rIndex K) indexO := fun F Hs M σ H ρ x dx xs ds Q Qd S rx r k q => by
  unfold indexO at q
  split at q
  · rename_i xs' y
    obtain ⟨⟨f1, f2⟩, q⟩ := q
    split at q
    · rename_i j e
      obtain ⟨⟨d, h1, h2⟩, h3⟩ := index_spec e
      cases r with
      | cons hy t =>
        cases t
        cases rx with
        | lst h l r =>
          obtain ⟨v, hv, rv⟩ := r.get h1
          refine ⟨_, _, _, j, v, rfl, rfl, SqL.of (S.hs _ _ h), flat_rep hy f1, flat_reps r f2, hv, ?_, fun m z hm hz => ?_, k _ H Hs _ (Ext.refl _) S (.int _) q⟩
          · rw [eqv_rep rv hy (List.all_eq_true.mp f2 d (List.mem_of_getElem? h1)) f1]; exact h2
          · obtain ⟨d', hd', rd'⟩ := r.get' hz
            rw [eqv_rep rd' hy (List.all_eq_true.mp f2 d' (List.mem_of_getElem? hd')) f1]
            exact h3 m d' hm hd'
    · exact q.elim
  · exact q.elim
end
/-! ## f-strings -/
section
variable {X : Cx} {pos : Pos} {K : PySem.W.Frag}
inductive FJ (X : Cx) : List Expr → List TE → List TEd → Prop where
  | nil : FJ X [] [] []
  | cons {e : Expr} {t : TE} {T : TEd} {es : List Expr} {ts : List TE} {Ts : List TEd} (h : ED X e t T) (r : FJ X es ts Ts) : FJ X (e :: es) (t :: ts) (T :: Ts)
def TJs : List TEd → Str → List Sl → Mem → (Str → Mem → Prop) → Prop
  | [], acc, _, M, Q => Q acc M
  | t :: ts, acc, ρ, M, Q => t ρ M fun d M1 => match d with
    | .str y => acc.length + y.length ≤ 16777216 ∧ TJs ts (acc ++ y) ρ M1 Q
    | _ => False
def TFStr (ts : List TEd) : TEd := fun ρ M Q => TJs ts Str.empty ρ M fun s M1 => Q (.str s) M1
theorem FJ.pj {es : List Expr} {ts : List TE} {Ts : List TEd} (h : FJ X es ts Ts) : PJ X es ts := by
  induction h with
  | nil => exact .nil
  | cons h _ ih => exact .cons h.pe ih
theorem sem_js {es : List Expr} {ts : List TE} {Ts : List TEd} (h : FJ X es ts Ts) : ∀ (F Hs : Hp) (M : Mem) (σ : L2.St) (H : Hp) (ρ : List Sl) (acc : Str) (Q : Str → Hp → Prop) (Qd : Str → Mem → Prop), okS acc = true → Sta X.K F Hs M σ H ρ →
    (∀ (s : Str) (H' Hs' : Hp) (M' : Mem), okS s = true → Ext Hs Hs' → Sta X.K F Hs' M' σ H' ρ → Qd s M' → Q s H') → TJs Ts acc ρ M Qd → tJs ts acc σ H Q := by
  induction h with
  | nil => intro F Hs M σ H ρ acc Q Qd ha S k q; exact k acc H Hs M ha (Ext.refl _) S q
  | cons h _ ih =>
    intro F Hs M σ H ρ acc Q Qd ha S k q
    refine h.se F Hs M σ H ρ _ _ S (fun v H1 Hs1 d M1 e1 S1 r1 q1 => ?_) q
    split at q1
    · rename_i y
      cases r1 with
      | str _ hy =>
        refine ⟨y, rfl, ?_, ?_⟩
        · have := okS_len (okS_append ha hy q1.1)
          rw [line_eq]
          exact this
        · exact ih F Hs1 M1 σ H1 ρ _ _ Qd (okS_append ha hy q1.1) S1 (fun s H' Hs' M' hs e S' q' => k s H' Hs' M' hs (e1.trans e) S' q') q1.2
    · exact q1.elim
theorem okS_empty : okS Str.empty = true := by decide +kernel
theorem ed_fstr {v1 v2 : Expr} {rest : List Expr} {ts : List TE} {Ts : List TEd} (h : FJ X (v1 :: v2 :: rest) ts Ts) : ED X (.JoinedStr (v1 :: v2 :: rest) pos) (fun σ H Q => tJs ts Str.empty σ H fun out H1 => Q (.str out) H1) (TFStr Ts) :=
  ⟨pe_joined h.pj, fun F Hs M σ H ρ Q Qd S k q => sem_js h F Hs M σ H ρ _ _ _ okS_empty S (fun s H' Hs' M' hs e S' q' => k _ H' Hs' _ M' e S' (.str s hs) q') q⟩
theorem ed_fstr1 {e : Expr} {te : TE} {Te : TEd} (h : ED X e te Te) : ED X (.JoinedStr [e] pos) te Te := ⟨pe_joined1 h.pe, h.se⟩
def TFmt (t : TEd) : TEd := fun ρ M Q => t ρ M fun d M1 => match d with
  | .str y => Q (.str y) M1
  | .int i => (0 ≤ i ∧ i < 1000000000000) ∧ Q (.str (numS i.toNat)) M1
  | _ => False
theorem ed_fmt {e : Expr} {te : TE} {Te : TEd} (h : ED X e te Te) : ED X (.FormattedValue e (-1) none pos) (tFmt te) (TFmt Te) := ⟨pe_fmt h.pe, fun F Hs M σ H ρ Q Qd S k q => h.se F Hs M σ H ρ _ _ S (fun v H1 Hs1 d M1 e1 S1 r1 q1 => by
  split at q1
  · cases r1 with
    | str _ hy => exact .inl ⟨_, rfl, by rw [line_eq]; exact okS_len hy, k _ H1 Hs1 _ M1 e1 S1 (.str _ hy) q1⟩
  · rename_i i
    obtain ⟨⟨h0, h1⟩, q1⟩ := q1
    cases r1
    refine .inr ⟨_, rfl, log2_small h0 h1, ?_⟩
    have e : (toString i : Str) = numS i.toNat := by
      unfold numS
      rw [Int.toNat_of_nonneg h0]
    rw [e]
    exact k _ H1 Hs1 _ M1 e1 S1 (.str _ (okS_num (Nat.lt_of_lt_of_le (show i.toNat < 10 ^ 12 by omega) (Nat.pow_le_pow_right (by decide) (by decide))))) q1
  · exact q1.elim) q⟩
end
end DL

namespace DL
open PySem PySem.Spec PyProof.Rows L2 TL
section
variable {X : Cx} {pos : Pos} {ta tb tc te tx ty : TE} {Ta Tb Tc Te Tx Ty : TEd}
theorem ed_chain {o o' : CmpOp} {r r' : R2} {op op' : Op2} {a b c : Expr} (ho : OpR X (compareOp o) r) (hr : SemR X.K r op) (ho' : OpR X (compareOp o') r') (hr' : SemR X.K r' op') (ha : ED X a ta Ta) (hb : ED X b tb Tb) (hc : ED X c tc Tc)
    (hm : lastMarks [o, o'] [b, c] = false := by with_unfolding_all rfl) : ED X (.Compare a [o, o'] [b, c] pos) (tChain r r' ta tb tc) (TChain op op' Ta Tb Tc) := ⟨pe_chain ho ho' ha.pe hb.pe hc.pe hm, sem_chain hr hr' ha.se hb.se hc.se⟩
theorem td_chain {o o' : CmpOp} {r r' : R2} {op op' : Op2} {a b c : Expr} (ho : OpR X (compareOp o) r) (hr : SemR X.K r op) (ho' : OpR X (compareOp o') r') (hr' : SemR X.K r' op') (ha : ED X a ta Ta) (hb : ED X b tb Tb) (hc : ED X c tc Tc)
    (hm : lastMarks [o, o'] [b, c] = false := by with_unfolding_all rfl) : TD X (.Compare a [o, o'] [b, c] pos) (tTest (tChain r r' ta tb tc)) (TTst (TChain op op' Ta Tb Tc)) := ⟨pt_chain ho ho' ha.pe hb.pe hc.pe hm, sem_tst (sem_chain hr hr' ha.se hb.se hc.se)⟩
/-! ## a written dict: d.get(k, x) -/
structure WDic (K : PySem.W.Frag) (w : World) (a : Addr) (kvs : List (Str × D)) : Prop where
  keys : He.dicW K a = some (He.keysIn w.params (kvs.map (·.1)))
  vals : ∀ x d, kvs.lookup x = some d → ∃ u v, PySem.W.nsIn K a x = some (some u) ∧ RelV v u ∧ ∀ H, Rep K H v d
theorem keys_miss {P : Params} {x : Str} : ∀ {l : List DictEntry} {ks : List Str}, l.map He.keyOf = He.keysIn P ks → x ∉ ks → l.find? (fun e => Value.isStrOf x e.key) = none
  | [], _, _, _ => rfl
  | e :: r, [], h, _ => by cases h
  | e :: r, k :: ks, h, hx => by
    have h1 : He.keyOf e :: r.map He.keyOf = some (k, PyData.keyHash P k) :: He.keysIn P ks := h
    injection h1 with h2 h3
    have hne : Value.isStrOf x e.key = false := by
      unfold He.keyOf at h2
      split at h2
      · rename_i y t q
        have h4 := Option.some.inj h2
        obtain ⟨h5, _⟩ := Prod.mk.inj h4
        rw [q]
        show (y == x) = false
        rw [beq_eq_false_iff_ne]
        intro c
        exact hx (by rw [← c, h5]; exact List.mem_cons_self)
      · cases h2
    rw [List.find?_cons, hne]
    exact keys_miss h3 (fun c => hx (List.mem_cons_of_mem _ c))
theorem dicW_at {K : PySem.W.Frag} {a : Addr} {L : List (Option (Str × Int))} (h : He.dicW K a = some L) : ∃ es n, K.lookup a = some ⟨.type "dict", none, .dict es n, #[]⟩ ∧ es.toList.map He.keyOf = L ∧ (a == sysModules) = false := by
  unfold He.dicW at h
  cases q : K.lookup a with
  | none =>
    rw [q] at h
    cases h
  | some o =>
    obtain ⟨oc, od, dt, osl⟩ := o
    rw [q] at h
    cases oc with
    | type c =>
      cases od with
      | none =>
        cases dt with
        | dict es n =>
          have h1 : (match decide (c = "dict") && (osl.isEmpty && !(a == sysModules)) with
            | true => some (es.toList.map He.keyOf)
            | false => none) = some L := h
          cases z : decide (c = "dict") && (osl.isEmpty && !(a == sysModules)) with
          | false =>
            rw [z] at h1
            cases h1
          | true =>
            rw [z] at h1
            simp only [Bool.and_eq_true, decide_eq_true_eq, Bool.not_eq_true'] at z
            obtain ⟨e1, e2, e3⟩ := z
            have e2 := Array.isEmpty_iff.mp e2
            subst e1 e2
            exact ⟨es, n, rfl, Option.some.inj h1, e3⟩
        | _ => cases h
      | some b => cases dt <;> cases h
    | _ => cases od <;> cases dt <;> cases h
def tWGet (K : PySem.W.Frag) (w : World) (td ty tx : TE) : TE := fun σ H Q => td σ H fun x H1 => ty σ H1 fun y H2 => tx σ H2 fun z H3 => ∃ (a : Addr) (es : Array DictEntry) (n : Nat) (k : Str), x = .ref a ∧ y = .str k ∧ K.lookup a = some ⟨.type "dict", none, .dict es n, #[]⟩ ∧ PySem.W.KeysLit w.params es.toList ∧ (a == sysModules) = false ∧
  ((∃ u v, findBy Value.isStrOf es k = some u ∧ RelV v u ∧ Q v H3) ∨ (findBy Value.isStrOf es k = none ∧ Q z H3))
theorem pe_wget {o e f : Expr} {apos cpos : Pos} {td : TE} (ho : PE X o td) (he : PE X e ty) (hf : PE X f tx) (m : M2 X o "get" apos e f cpos)
    (hd : ∀ σ H Q, td σ H Q → td σ H fun x H1 => (∃ a es n, x = V.ref a ∧ X.K.lookup a = some ⟨.type "dict", none, .dict es n, #[]⟩) ∧ Q x H1) : PE X (.Call (.Attribute o "get" apos) [e, f] [] cpos) (tWGet X.K X.w td ty tx) := by
  refine ⟨fun pins s σ H Q I h => ?_⟩
  refine wpAny_Call_method m.base m.few m.line PySem.F.plainAttrs_dict PySem.F.slot_dict_get PySem.F.type_dict_get (thn (ho.run pins s σ H _ I (hd _ _ _ h)) fun u s1 ⟨x, H1, I1, rx, ⟨a, es, n, ex, hl⟩, q1⟩ => ?_)
  subst ex
  obtain rfl : u = Value.ref a := rx
  have hat := I1.kIn _ _ hl
  refine ⟨⟨_, hat, rfl⟩, fun b eb => by cases eb; exact ⟨_, hat, rfl⟩, ?_⟩
  rw [m.trees]
  refine Calls.callWith_builtin rfl (Calls.evalArgs_plain (Calls.spliced_cons (thn (he.run pins s1 σ H1 _ I1 q1) fun iv s2 ⟨y, H2, I2, ry, q2⟩ =>
    Calls.spliced_cons (thn (hf.run pins s2 σ H2 _ I2 q2) fun fv s3 ⟨z, H3, I3, rz, q3⟩ => Calls.spliced_nil ?_))))
  obtain ⟨a', es', n', k, ea, ek, hl', hk, lo, q⟩ := q3
  cases ea
  subst ek
  rw [hl] at hl'
  cases hl'
  obtain ⟨t, rfl⟩ := (show ∃ t, iv = Value.str k t from ry)
  have hm := PySem.W.mapOf_K (prog := X.prog) (w := X.w) I3.kIn hl hk
  refine call_meetsIn PySem.F.slot_dict_get hm.typeIs PySem.F.entry_dict_get (PySem.F.args_dict_get_3 _ _ _) (meets_dict_get_default (strKind X.prog X.w) a (strKind_is X.prog X.w k t) lo fv) ⟨_, hm, ?_⟩
  rcases q with ⟨u, v, e1, rv, q⟩ | ⟨e1, q⟩
  · rw [e1]
    exact ⟨v, H3, I3.tok _, rv, q⟩
  · rw [e1]
    exact ⟨z, H3, I3.tok _, rz, q⟩
def TWGet (kvs : List (Str × D)) (Ty Tx : TEd) : TEd := fun ρ M Q => Ty ρ M fun y M1 => Tx ρ M1 fun z M2 => match y with
  | .str k => Q ((kvs.lookup k).getD z) M2
  | _ => False
theorem lookup_mem {x : Str} {d : D} : ∀ {l : List (Str × D)}, l.lookup x = none → x ∉ l.map (·.1)
  | [], _ => by simp
  | (k, v) :: r, h => by
    rw [List.lookup_cons] at h
    split at h
    · cases h
    · rename_i e
      rw [List.map_cons, List.mem_cons, not_or]
      exact ⟨by simpa using e, lookup_mem (d := d) h⟩
theorem ed_wget {e f : Expr} {name : Str} {npos apos cpos : Pos} {a : Addr} {kvs : List (Str × D)} (hW : WDic X.K X.w a kvs) (ho : ED X (.Name name npos) (tC (.ref a)) (TC (.ref a))) (he : ED X e ty Ty) (hf : ED X f tx Tx) (m : M2 X (.Name name npos) "get" apos e f cpos) :
    ED X (.Call (.Attribute (.Name name npos) "get" apos) [e, f] [] cpos) (tWGet X.K X.w (tC (.ref a)) ty tx) (TWGet kvs Ty Tx) := by
  obtain ⟨es, n, hl, hks, lo⟩ := dicW_at hW.keys
  refine ⟨pe_wget ho.pe he.pe hf.pe m fun σ H Q h => ⟨⟨a, es, n, rfl, hl⟩, h⟩, fun F Hs M σ H ρ Q Qd S k q => ?_⟩
  show ty σ H _
  refine he.se F Hs M σ H ρ _ _ S (fun y H1 Hs1 dy M1 e1 S1 r1 q1 => ?_) q
  refine hf.se F Hs1 M1 σ H1 ρ _ _ S1 (fun z H2 Hs2 dz M2 e2 S2 r2 q2 => ?_) q1
  split at q2
  · rename_i key
    cases r1 with
    | str _ hy =>
      refine ⟨a, es, n, key, rfl, rfl, hl, He.keysLit_of hks, lo, ?_⟩
      cases hlk : kvs.lookup key with
      | some d =>
        obtain ⟨u, v, h1, h2, h3⟩ := hW.vals key d hlk
        rw [hlk] at q2
        exact .inl ⟨u, v, PySem.W.find_K hl h1, h2, k v H2 Hs2 d M2 (e1.trans e2) S2 (h3 _) q2⟩
      | none =>
        rw [hlk] at q2
        refine .inr ⟨?_, k z H2 Hs2 dz M2 (e1.trans e2) S2 r2 q2⟩
        obtain ⟨l⟩ := es
        unfold findBy
        rw [List.find?_toArray, keys_miss hks (lookup_mem (d := .non) hlk)]
        rfl
  · exact q2.elim
end
/-! ## int(text) or int(number) -/
section
variable {K : PySem.W.Frag}
def rIntS : List V → Hp → VK → Prop := fun xs H Q => ∃ a n, xs = [V.str a] ∧ PySem.intText? a = some n ∧ a.length ≤ 640 ∧ Q (.int n) H
def intSO : OpC := fun ds k => match ds with
  | [.str z] => match PySem.intText? z with
    | some n => z.length ≤ 640 ∧ k (.int n)
    | none => False
  | _ => False
theorem call_intS {X : Cx} : CallR X (.type "int") rIntS := call_int_str
theorem sc_intS : SemC K rIntS intSO := fun F Hs M σ H ρ xs ds Q Qd S r k q => by
  unfold intSO at q
  split at q
  · split at q
    · rename_i z n e
      cases r with
      | cons h t =>
        cases t
        cases h with
        | str _ hz => exact ⟨_, _, rfl, e, q.1, k _ H Hs _ (Ext.refl _) S (.int _) q.2⟩
    · exact q.elim
  · exact q.elim
end
/-! ## text[::-1] -/
theorem revRange (n : Nat) : Builtin.Str.strSliceIndices none none (-1) n = (List.range n).map fun k => n - 1 - k := by
  unfold Builtin.Str.strSliceIndices sliceRange
  simp only [show ¬ ((-1 : Int) > 0) by decide, if_false]
  by_cases h : n = 0
  · subst h; rfl
  · have e : ((if ((n : Int) - 1) > -1 then ((n : Int) - 1 - -1 - -1 - 1) / (- -1) else 0)).toNat = n := by
      rw [if_pos (by omega)]
      have : (n : Int) - 1 - -1 - -1 - 1 = n := by omega
      rw [this]
      simp
    rw [e]
    refine List.map_congr_left fun k hk => ?_
    have := List.mem_range.mp hk
    omega
theorem revPick (l : List Nat) : ((List.range l.length).map fun k => l.length - 1 - k).filterMap (fun i => l.toArray[i]?) = l.reverse := by
  apply List.ext_getElem?
  intro i
  rw [List.filterMap_map]
  have h1 : (List.range l.length).filterMap ((fun i => l.toArray[i]?) ∘ fun k => l.length - 1 - k) = (List.range l.length).map (fun k => l.getD (l.length - 1 - k) 0) := by
    have : ∀ ks : List Nat, (∀ k ∈ ks, k < l.length) → ks.filterMap ((fun i => l.toArray[i]?) ∘ fun k => l.length - 1 - k) = ks.map (fun k => l.getD (l.length - 1 - k) 0) := by
      intro ks
      induction ks with
      | nil => intro _; rfl
      | cons k ks ih =>
        intro hk
        have hk1 := hk k List.mem_cons_self
        have hlt : l.length - 1 - k < l.length := by omega
        have e : ((fun i => l.toArray[i]?) ∘ fun k => l.length - 1 - k) k = some (l.getD (l.length - 1 - k) 0) := by simp [hlt]
        rw [List.filterMap_cons, e, List.map_cons, ih fun j hj => hk j (List.mem_cons_of_mem _ hj)]
    exact this _ fun k hk => List.mem_range.mp hk
  rw [h1]
  by_cases h : i < l.length
  · rw [List.getElem?_map, List.getElem?_range h, List.getElem?_reverse h]
    have hlt : l.length - 1 - i < l.length := by omega
    simp [hlt]
  · rw [List.getElem?_eq_none (by simpa using h), List.getElem?_eq_none (by simpa using h)]
def revZ (z : Str) : Str := mkS (tl z).reverse
theorem okS_revZ {z : Str} (h : okS z = true) : okS (revZ z) = true := okS_sub h (fun c hc => by simpa [revZ, tl_mkS] using hc) (by
  have := okS_len h
  rw [len_tl] at this
  rw [len_tl, revZ, tl_mkS, List.length_reverse]
  exact this)
section
variable {X : Cx} {te : TE} {Te : TEd}
def tRevZ (te : TE) : TE := fun σ H Q => te σ H fun x H1 => ∃ z, x = .str z ∧ z.length ≤ sizeLine ∧ Q (.str (revZ z)) H1
theorem pe_revZ {e : Expr} {k : Nat} {p1 p2 p3 pos : Pos} (he : PE X e te) : PE X (.Subscript e (.Slice none none (some (.UnaryOp .USub (.Constant (.int 1) k p1) p2)) p3) pos) (tRevZ te) := by
  refine ⟨fun pins s σ H Q I h => ?_⟩
  refine Subscript_ (thn (he.run pins s σ H _ I h) fun v s1 ⟨x, H1, I1, r1, q1⟩ => ?_)
  obtain ⟨z, ex, hz, q⟩ := q1
  subst ex
  obtain ⟨tz, rfl⟩ := r1
  have hst : PO X (some (.UnaryOp .USub (.Constant (.int 1) k p1) p2)) (tPart (tUn (rU fun i => .int (-i)) (tC (.int 1)))) := po_some (pe_un un_neg pe_int)
  refine wpAny_Slice (thn (po_none.run pins s1 σ H1 (fun o H2 => o = none ∧ H2 = H1) I1 ⟨rfl, rfl⟩) fun vl s2 ⟨l, H2, I2, pl, el, e2⟩ => ?_)
  subst el e2
  refine thn (po_none.run pins s2 σ H2 (fun o H3 => o = none ∧ H3 = H2) I2 ⟨rfl, rfl⟩) fun vu s3 ⟨u, H3, I3, pu, eu, e3⟩ => ?_
  subst eu e3
  refine thn (hst.run pins s3 σ H3 (fun o H4 => o = some (-1) ∧ H4 = H3) I3 ⟨1, rfl, -1, rfl, rfl, rfl⟩) fun vs s4 ⟨o, H4, I4, ps, eo, e4⟩ => ?_
  subst eo e4
  have I5 : Inv X pins σ H4 { s4 with heap := s4.heap.push { cls := .type "slice", data := .fields #[vl, vu, vs] } } := I4.kept (t' := s4.toks) fun b ob q => Heap.get?_push_of_some _ q
  show wpAny (model X.prog X.w) X.A (subscriptTail e (.Slice none none (some (.UnaryOp .USub (.Constant (.int 1) k p1) p2)) p3) (.str z tz) (.ref s4.heap.objs.size)) (EP X pins σ Q) X.xe { s4 with heap := s4.heap.push { cls := .type "slice", data := .fields #[vl, vu, vs] } }
  refine tail_any (ops := [.str z tz, .ref s4.heap.objs.size]) (typeIs_str _ _ _) (F.slot_str_getitem.lookup) ?_ (by with_unfolding_all rfl)
  obtain ⟨l, rfl, hl⟩ := IsPart.raw pl
  obtain ⟨u, rfl, hu⟩ := IsPart.raw pu
  obtain ⟨st, rfl, hst'⟩ := IsPart.raw ps
  refine wpAny_getItem_str_slice (l := l) (u := u) (st := st) ⟨_, Heap.get?_push_size _ rfl, rfl, rfl⟩ (by rw [hst']; rfl) ?_
  have e1 : sliceMade z tz l u st = .str (revZ z) := by
    unfold sliceMade slicePicked
    rw [hl, hu, hst']
    show (if ((-1 : Int) == 1 && _) = true then _ else _) = _
    rw [if_neg (by simp)]
    show Made.str ⟨((Builtin.Str.strSliceIndices none none (-1) z.length).filterMap (z.cps[·]?)).toArray⟩ = _
    rw [revRange]
    have := revPick (tl z)
    unfold revZ mkS
    rw [← this]
    rfl
  rw [e1]
  refine ⟨?_, .str _, H4, I5.tok _, ⟨_, rfl⟩, q⟩
  have : (revZ z).length = z.length := by rw [len_tl, len_tl, revZ, tl_mkS, List.length_reverse]
  rw [this]
  exact hz
def TRevZ (Te : TEd) : TEd := fun ρ M Q => Te ρ M fun x M1 => match x with
  | .str z => Q (.str (revZ z)) M1
  | _ => False
theorem ed_revZ {e : Expr} {k : Nat} {p1 p2 p3 pos : Pos} (he : ED X e te Te) : ED X (.Subscript e (.Slice none none (some (.UnaryOp .USub (.Constant (.int 1) k p1) p2)) p3) pos) (tRevZ te) (TRevZ Te) :=
  ⟨pe_revZ he.pe, fun F Hs M σ H ρ Q Qd S k q => he.se F Hs M σ H ρ _ _ S (fun x H1 Hs1 dx M1 e1 S1 r1 q1 => by
    split at q1
    · cases r1 with
      | str _ hz => exact ⟨_, rfl, by rw [line_eq]; exact okS_len hz, k _ H1 Hs1 _ M1 e1 S1 (.str _ (okS_revZ hz)) q1⟩
    · exact q1.elim) q⟩
end
end DL

namespace DL
open PySem PySem.Spec PyProof.Rows L2 TL
section
variable {X : Cx} {pos : Pos}
theorem ed_ty {x : Str} {n : String} (hg : Gl X x) (hm : X.mg x = none) (hv : bootBuiltins x = some (.type n)) (hn : x ≠ "__name__" := by decide) (hd : (x == ("__debug__" : Str)) = false := by decide) : ED X (.Name x pos) (tC (.ty n)) (TC (.ty n)) := ed_blt hg hm hv (v := .ty n) rfl (fun _ => .ty _) hn hd
theorem ed_ref {x : Str} {a : Addr} (hg : Gl X x) (hm : X.mg x = some (.ref a)) (hd : (x == ("__debug__" : Str)) = false := by decide) : ED X (.Name x pos) (tC (.ref a)) (TC (.ref a)) := ed_glob hg hm (v := .ref a) rfl (fun _ => .ref _) hd
theorem ed_gint {x : Str} {i : Int} (hm : ∃ t, X.mg x = some (.int i t)) (hg : Gl X x) (hd : (x == ("__debug__" : Str)) = false := by decide) : ED X (.Name x pos) (tC (.int i)) (TC (.int i)) := by
  obtain ⟨t, hm⟩ := hm
  exact ed_glob hg hm (v := .int i) ⟨t, rfl⟩ (fun _ => .int _) hd
theorem ed_gtup {x : Str} {a : Addr} {ds : List D} (hm : X.mg x = some (.ref a) ∧ ∀ H, Rep X.K H (.ref a) (.tup ds)) (hg : Gl X x) (hd : (x == ("__debug__" : Str)) = false := by decide) : ED X (.Name x pos) (tC (.ref a)) (TC (.tup ds)) := ed_glob hg hm.1 (v := .ref a) rfl hm.2 hd
def TNeg (Te : TEd) : TEd := fun ρ M Q => Te ρ M fun x M1 => match x with
  | .int i => Q (.int (-i)) M1
  | _ => False
theorem ed_neg {a : Expr} {te : TE} {Te : TEd} (h : ED X a te Te) : ED X (.UnaryOp .USub a pos) (tUn (rU fun i => .int (-i)) te) (TNeg Te) := ⟨pe_un un_neg h.pe, fun F Hs M σ H ρ Q Qd S k q => h.se F Hs M σ H ρ _ _ S (fun x H1 Hs1 dx M1 e1 S1 r1 q1 => by
  split at q1
  · cases r1; exact ⟨_, rfl, k _ H1 Hs1 _ M1 e1 S1 (.int _) q1⟩
  · exact q1.elim) q⟩
end
end DL

namespace DL
open PySem PySem.Spec PyProof.Rows L2 TL
section
variable (K : PySem.W.Frag) {X : Cx} {pos : Pos} {ta tb te : TE} {Ta Tb Te : TEd} {tr : TA} {R : TAd} {ts : TS} {Ts : TSd}
theorem k_add (hK : X.K = K) : OpR X (binaryOp .Add) (rAddAll K) := hK ▸ op_addAll
theorem k_in (hK : X.K = K) : OpR X (compareOp .In) (rIn K false) := hK ▸ op_in_seq
theorem k_notIn (hK : X.K = K) : OpR X (compareOp .NotIn) (rIn K true) := hK ▸ op_notIn_seq
theorem k_eq (hK : X.K = K) (hu : X.A.units + 64 < cLine) : OpR X (compareOp .Eq) (rEqD K) := hK ▸ op_eqD hu
theorem k_ne (hK : X.K = K) (hu : X.A.units + 64 < cLine) : OpR X (compareOp .NotEq) (rNeD K) := hK ▸ op_neD hu
theorem k_ix (hK : X.K = K) : IxR X (rIx K) := hK ▸ ix_seq
theorem k_sl (hK : X.K = K) : SlR X (rSlAll K) := hK ▸ sl_all
theorem k_len (hK : X.K = K) : CallR X (.builtin "len") (rLenAll K) := hK ▸ call_lenAll
theorem k_isi (hK : X.K = K) : CallR X (.builtin "isinstance") (rIsi K) := hK ▸ call_isi
theorem k_tup (hK : X.K = K) : CallR X (.type "tuple") (rTupOf K) := hK ▸ call_tupOf
theorem k_lst (hK : X.K = K) : CallR X (.type "list") (rLstOf K) := hK ▸ call_lstOf
theorem k_all (hK : X.K = K) (hc : X.calm = true) : CallR X (.builtin "all") (rAll K) := hK ▸ cr_all hc
theorem k_any (hK : X.K = K) (hc : X.calm = true) : CallR X (.builtin "any") (rAny K) := hK ▸ cr_any hc
theorem k_join (hK : X.K = K) : MtR X "str.join" (rJoin K) := hK ▸ mt_joinI
theorem k_index (hK : X.K = K) : MtR X "list.index" (rIndex K) := hK ▸ mt_index
theorem ed_bmK {o e : Expr} {es : List Expr} {name : Str} {apos cpos : Pos} {T id : String} {r : V → List V → Hp → VK → Prop} {op : OpM} (hK : X.K = K) (pa : PlainAttrs T) (slot : Slot T name id) (hty : typeOf (.builtin id) = pure (.type "method_descriptor")) (hm : MtR X id r) (hr : SemM K r op) (ho : ED X o ta Ta) (ha : AD X (e :: es) tr R)
    (hbase : attributeBase o name X.env (eval o X.env) = eval o X.env := by rfl)
    (hfew : ((backTo cpos (starEach (e :: es) X.env)).all (fun x => !x.1) && (backToKw cpos (keywordEach [] X.env)).all (fun x => x.1.isSome)
      && decide ((e :: es).length + ([] : List Keyword).length + (if ([] : List Keyword).isEmpty then 0 else 1) < 30)) = true := by rfl)
    (hline : (apos.endLine == cpos.line) = true := by rfl) (hs : starEach (e :: es) X.env = (false, eval e X.env) :: starEach es X.env := by rfl) (hplain : (backTo cpos (starEach es X.env)).any (·.1) = false := by rfl) :
    ED X (.Call (.Attribute o name apos) (e :: es) [] cpos) (tBM K T r ta tr) (TBM T op Ta R) := by
  subst hK
  exact ed_bm pa slot hty hm hr ho ha hbase hfew hline hs hplain
theorem ed_bm0K {o : Expr} {name : Str} {apos cpos : Pos} {T id : String} {r : V → List V → Hp → VK → Prop} {op : OpM} (hK : X.K = K) (pa : PlainAttrs T) (slot : Slot T name id) (hty : typeOf (.builtin id) = pure (.type "method_descriptor")) (hm : MtR X id r) (hr : SemM K r op) (ho : ED X o ta Ta)
    (hbase : attributeBase o name X.env (eval o X.env) = eval o X.env := by rfl) (hline : (apos.endLine == cpos.line) = true := by rfl) : ED X (.Call (.Attribute o name apos) [] [] cpos) (tBM0 K T r ta) (TBM0 T op Ta) := by
  subst hK
  exact ed_bm0 pa slot hty hm hr ho hbase hline
theorem ed_callK {CX : CXT} {k : Nat} {f : Addr} {fd : FuncData} {ps : List Str} {fsp : SpD} {x : Str} {p : Pos} {e : Expr} {es : List Expr} {E : XK} (hK : X.K = K) (G : FnOk X.prog X.w K X.mg X.base CX k f fd ps (spOf K fsp)) (hr : Room k X.A) (hg : Gl X x) (hm : X.mg x = some (.ref f)) (hk : PySem.W.keepIn K (.ref f) = true) (hb : Binds K fd ps []) (hx : Passes CX X E)
    (ha : AD X (e :: es) tr R) (hdb : (x == ("__debug__" : Str)) = false := by decide) (he : starEach (e :: es) X.env = (false, eval e X.env) :: starEach es X.env := by rfl) (hpl : (backTo pos (starEach es X.env)).any (·.1) = false := by rfl) :
    ED X (.Call (.Name x p) (e :: es) [] pos) (tCall (spOf K fsp) [] E tr) (TCall fsp R) := by
  subst hK
  exact ed_call G hr hg hm hk hb hx ha hdb he hpl
theorem gd_tupK {es : List Expr} {k n : Nat} {gs : TGs} {Gs : TGsd} (hK : X.K = K) (hc : X.calm = true) (h : GsD X es gs Gs) (hn : (assignEach es X.env).length = n := by rfl) (hst : (assignEach es X.env).findIdx? (·.1) = none := by rfl) : GD X (.Tuple es k pos) (gTup K n gs) (GTup n Gs) := by
  subst hK
  exact gd_tup hc h hn hst
theorem id_listK {tg l : Expr} (hK : X.K = K) (h : ED X l te Te) : ID X tg l (iList K te) (IList Te) := by
  subst hK
  exact id_list h
theorem id_tupK {tg l : Expr} (hK : X.K = K) (h : ED X l te Te) : ID X tg l (iTup K te) (ITup Te) := by
  subst hK
  exact id_tup h
theorem ed_wgetK {w : World} {tx ty : TE} {Tx Ty : TEd} {e f : Expr} {name : Str} {npos apos cpos : Pos} {a : Addr} {kvs : List (Str × D)} (hK : X.K = K) (hw : X.w = w) (hW : WDic K w a kvs) (ho : ED X (.Name name npos) (tC (.ref a)) (TC (.ref a))) (he : ED X e ty Ty) (hf : ED X f tx Tx) (m : M2 X (.Name name npos) "get" apos e f cpos) :
    ED X (.Call (.Attribute (.Name name npos) "get" apos) [e, f] [] cpos) (tWGet K w (tC (.ref a)) ty tx) (TWGet kvs Ty Tx) := by
  subst hK hw
  exact ed_wget hW ho he hf m
theorem ed_gtupK {x : Str} {a : Addr} {ds : List D} (hK : X.K = K) (hm : X.mg x = some (.ref a) ∧ ∀ H, Rep K H (.ref a) (.tup ds)) (hg : Gl X x) (hd : (x == ("__debug__" : Str)) = false := by decide) : ED X (.Name x pos) (tC (.ref a)) (TC (.tup ds)) := by
  subst hK
  exact ed_gtup hm hg hd
end
end DL

namespace DL
open PySem PySem.Spec PyProof.Rows L2 TL
/-! ## loops and comprehensions at the data level -/
theorem lcD_fm {α : Type} {g : TGd} {c : TTd} {e : TEd} {ρ : List Sl} {M : Mem} (inj : α → D) (F : α → Option D) : ∀ (xs : List α) (Q : List D → Mem → Prop),
    (∀ a ∈ xs, ∀ (K1 : D → Mem → Prop) (K2 : Mem → Prop), (match F a with | some x => K1 x M | none => K2 M) → g (inj a) ρ M fun ρ2 M2 => c ρ2 M2 fun b M3 => match b with | true => e ρ2 M3 K1 | false => K2 M3) →
    Q (xs.filterMap F) M → lcD g c e (xs.map inj) ρ M Q
  | [], Q, _, q => q
  | a :: r, Q, h, q => by
    have ih := fun Q' q' => lcD_fm (g := g) (c := c) (e := e) (ρ := ρ) (M := M) inj F r Q' (fun b hb => h b (List.mem_cons_of_mem _ hb)) q'
    refine h a List.mem_cons_self (fun y M4 => lcD g c e (r.map inj) ρ M4 fun ys M5 => Q (y :: ys) M5) (fun M3 => lcD g c e (r.map inj) ρ M3 Q) ?_
    rw [List.filterMap_cons] at q
    cases hF : F a with
    | some x =>
      rw [hF] at q
      exact ih _ q
    | none =>
      rw [hF] at q
      exact ih _ q
theorem lcD_m {α : Type} {g : TGd} {e : TEd} {ρ : List Sl} {M : Mem} (inj : α → D) (f : α → D) (xs : List α) (Q : List D → Mem → Prop)
    (h : ∀ a ∈ xs, ∀ (K1 : D → Mem → Prop), K1 (f a) M → g (inj a) ρ M fun ρ2 M2 => e ρ2 M2 K1)
    (q : Q (xs.map f) M) : lcD g TYes e (xs.map inj) ρ M Q := by
  refine lcD_fm inj (fun a => some (f a)) xs Q (fun a ha K1 K2 k => h a ha K1 k) ?_
  rw [List.filterMap_eq_map']
  exact q
theorem lcD_f {α : Type} {g : TGd} {c : TTd} {e : TEd} {ρ : List Sl} {M : Mem} (inj : α → D) (p : α → Bool) (f : α → D) (xs : List α) (Q : List D → Mem → Prop)
    (h : ∀ a ∈ xs, ∀ (K1 : D → Mem → Prop) (K2 : Mem → Prop), (p a = true → K1 (f a) M) → (p a = false → K2 M) → g (inj a) ρ M fun ρ2 M2 => c ρ2 M2 fun b M3 => match b with | true => e ρ2 M3 K1 | false => K2 M3)
    (q : Q ((xs.filter p).map f) M) : lcD g c e (xs.map inj) ρ M Q := by
  refine lcD_fm inj (fun a => if p a then some (f a) else none) xs Q (fun a ha K1 K2 k => h a ha K1 K2 (fun e1 => ?_) (fun e1 => ?_)) ?_
  · rw [e1] at k; exact k
  · rw [e1] at k; exact k
  · have : xs.filterMap (fun a => if p a then some (f a) else none) = (xs.filter p).map f := by
      clear h q
      induction xs with
      | nil => rfl
      | cons a r ih =>
        rw [List.filterMap_cons, List.filter_cons, ih]
        cases p a <;> rfl
    rw [this]
    exact q
theorem forD_inv {g : TGd} {b : TSd} {Dd : EndsD} {α : Type} (inj : α → D) : ∀ (xs : List α) (I : List α → List Sl → Mem → Prop) (ρ : List Sl) (M : Mem),
    (∀ a r ρ M (Kn : List Sl → Mem → Prop), (∃ pre, xs = pre ++ a :: r) → I (a :: r) ρ M → (∀ ρ' M', I r ρ' M' → Kn ρ' M') → g (inj a) ρ M fun ρ1 M1 => b ⟨Kn, Dd.rt, Dd.nx, Kn⟩ ρ1 M1) →
    I xs ρ M → (∀ ρ M, I [] ρ M → Dd.nx ρ M) → forD g b (xs.map inj) Dd ρ M
  | [], I, ρ, M, _, i0, hE => hE ρ M i0
  | a :: r, I, ρ, M, hS, i0, hE => by
    refine hS a r ρ M _ ⟨[], rfl⟩ i0 fun ρ' M' i' => ?_
    exact forD_inv inj r I ρ' M' (fun a' r' ρ M Kn ⟨pre, e⟩ => hS a' r' ρ M Kn ⟨a :: pre, by rw [e]; rfl⟩) i' hE
/-- a loop whose turns leave slots and cells as they are known to be -/
theorem forD_n {g : TGd} {b : TSd} {Dd : EndsD} {α : Type} (inj : α → D) (xs : List α) (I : Nat → List Sl → Mem → Prop) (ρ : List Sl) (M : Mem)
    (hS : ∀ i a ρ M (Kn : List Sl → Mem → Prop), xs[i]? = some a → I i ρ M → (∀ ρ' M', I (i + 1) ρ' M' → Kn ρ' M') → g (inj a) ρ M fun ρ1 M1 => b ⟨Kn, Dd.rt, Dd.nx, Kn⟩ ρ1 M1)
    (i0 : I 0 ρ M) (hE : ∀ ρ M, I xs.length ρ M → Dd.nx ρ M) : forD g b (xs.map inj) Dd ρ M := by
  refine forD_inv inj xs (fun r ρ M => r.length ≤ xs.length ∧ I (xs.length - r.length) ρ M) ρ M (fun a r ρ M Kn ⟨pre, e⟩ ⟨_, i⟩ k => ?_) ⟨Nat.le_refl _, by rw [Nat.sub_self]; exact i0⟩ (fun ρ M ⟨_, i⟩ => hE ρ M i)
  have hl : xs.length = pre.length + (r.length + 1) := by rw [e]; simp
  refine hS (xs.length - (r.length + 1)) a ρ M Kn ?_ i (fun ρ' M' i' => k ρ' M' ⟨by omega, ?_⟩)
  · have : xs.length - (r.length + 1) = pre.length := by omega
    rw [this, e]; simp
  · have : xs.length - r.length = xs.length - (r.length + 1) + 1 := by omega
    rw [this]; exact i'
theorem rangeD_map (lo hi : Int) : rangeD lo hi = ((List.range (hi - lo).toNat).map fun (k : Nat) => lo + (k : Int)).map D.int := by
  unfold rangeD
  rw [List.map_map]
  rfl
theorem rangeD_n (n : Nat) : rangeD 0 (n : Int) = (List.range n).map fun (k : Nat) => D.int (k : Int) := by
  unfold rangeD
  simp
/-! ## isinstance -/
def kok (d : D) : Bool := (tyName d).isSome
def isBl : D → Bool | .bl _ => true | _ => false
def isInt : D → Bool | .int _ => true | _ => false
def isStr : D → Bool | .str _ => true | _ => false
def isTup : D → Bool | .tup _ => true | _ => false
def isLst : D → Bool | .lst _ => true | _ => false
theorem isi_int {d : D} (h : kok d = true) : isiD d "int" = some (isInt d || isBl d) := by
  cases d <;> first | (cases h; done) | (decide +kernel) | rfl
theorem isi_bool {d : D} (h : kok d = true) : isiD d "bool" = some (isBl d) := by
  cases d <;> first | (cases h; done) | (decide +kernel) | rfl
theorem isi_str {d : D} (h : kok d = true) : isiD d "str" = some (isStr d) := by
  cases d <;> first | (cases h; done) | (decide +kernel) | rfl
theorem isi_tup {d : D} (h : kok d = true) : isiD d "tuple" = some (isTup d) := by
  cases d <;> first | (cases h; done) | (decide +kernel) | rfl
theorem isi_lst {d : D} (h : kok d = true) : isiD d "list" = some (isLst d) := by
  cases d <;> first | (cases h; done) | (decide +kernel) | rfl
theorem isiO_int {d : D} {k : D → Prop} (h : kok d = true) : isiO [d, .ty "int"] k = k (.bl (isInt d || isBl d)) := by unfold isiO; simp only [isi_int h]
theorem isiO_bool {d : D} {k : D → Prop} (h : kok d = true) : isiO [d, .ty "bool"] k = k (.bl (isBl d)) := by unfold isiO; simp only [isi_bool h]
theorem isiO_str {d : D} {k : D → Prop} (h : kok d = true) : isiO [d, .ty "str"] k = k (.bl (isStr d)) := by unfold isiO; simp only [isi_str h]
theorem isiO_tup {d : D} {k : D → Prop} (h : kok d = true) : isiO [d, .ty "tuple"] k = k (.bl (isTup d)) := by unfold isiO; simp only [isi_tup h]
theorem isiO_lst {d : D} {k : D → Prop} (h : kok d = true) : isiO [d, .ty "list"] k = k (.bl (isLst d)) := by unfold isiO; simp only [isi_lst h]
/-! ## texts -/
theorem cnt_count (c : Nat) : ∀ l : List Nat, cnt c l = (l.count c : Int)
  | [] => rfl
  | n :: r => by
    rw [cnt_cons, cnt_count c r, List.count_cons]
    by_cases h : n = c
    · subst h; simp; omega
    · simp [h]
theorem count_one (z : Str) (c : Nat) : Txt.count z ⟨#[c]⟩ = ((tl z).count c : Int) := by
  rw [count_cnt, cnt_count]
theorem blsOf_map {α : Type} (f : α → Bool) : ∀ xs : List α, blsOf (xs.map fun a => D.bl (f a)) = some (xs.map f)
  | [] => rfl
  | a :: r => by rw [List.map_cons, blsOf, blsOf_map f r]; rfl
theorem strsOf_map : ∀ xs : List Str, strsOf (xs.map D.str) = some xs
  | [] => rfl
  | a :: r => by rw [List.map_cons, strsOf, strsOf_map r]; rfl
theorem flat_strs : ∀ xs : List Str, (xs.map D.str).all flatD = true
  | [] => rfl
  | a :: r => by rw [List.map_cons, List.all_cons, flat_strs r]; rfl
theorem isPys_all : ∀ (xs : List D), (∀ d ∈ xs, isPy d = true) → isPys xs = true
  | [], _ => rfl
  | d :: r, h => by
    show (isPy d && isPys r) = true
    rw [h d List.mem_cons_self, isPys_all r fun e he => h e (List.mem_cons_of_mem _ he)]
    rfl
theorem deps_le {n : Nat} : ∀ (xs : List D), (∀ d ∈ xs, dep d ≤ n) → deps xs ≤ n
  | [], _ => Nat.zero_le _
  | d :: r, h => Nat.max_le.mpr ⟨h d List.mem_cons_self, deps_le r fun e he => h e (List.mem_cons_of_mem _ he)⟩
theorem eqv_str (x y : Str) : eqvD (.str x) (.str y) = (x == y) := rfl
theorem inD_strs (x : Str) (xs : List Str) : inD (.str x) (xs.map D.str) = decide (x ∈ xs) := by
  unfold inD
  rw [List.any_map]
  induction xs with
  | nil => rfl
  | cons a r ih =>
    rw [List.any_cons, ih]
    show ((a == x) || _) = _
    by_cases h : a = x
    · subst h; simp
    · have h' : ¬ x = a := fun e => h e.symm
      simp [h, h']
theorem atI_nat {α : Type} (xs : List α) (k : Nat) : atI xs (k : Int) = xs[k]? := by
  unfold atI ixN
  rw [if_pos (Int.natCast_nonneg k)]
  by_cases h : k < xs.length
  · rw [if_pos (by omega)]; simp
  · rw [if_neg (by omega), List.getElem?_eq_none (by omega)]; rfl
theorem str_eq {x y : Str} (h : tl x = tl y) : x = y := ext_tl h
theorem tl_app (x y : Str) : tl (x ++ y) = tl x ++ tl y := by
  show (x.cps ++ y.cps).toList = _
  rw [Array.toList_append]
theorem len_app (x y : Str) : (x ++ y).length = x.length + y.length := by rw [len_tl, len_tl, len_tl, tl_app, List.length_append]
end DL
namespace DL
open PySem PySem.Spec PyProof.Rows L2 TL
def ltSO : Op2 := fun x y k => match x, y with
  | .str i, .str j => k (.bl (decide (tl i < tl j)))
  | _, _ => False
theorem sr_ltS {K : PySem.W.Frag} : SemR K (fun x y H Q => ∃ i j : Str, x = .str i ∧ y = .str j ∧ Q (.bl (decide (i.cps.toList < j.cps.toList))) H) ltSO := fun F Hs M σ H ρ x y dx dy Q Qd S rx ry k q => by
  unfold ltSO at q
  split at q
  · cases rx; cases ry
    exact ⟨_, _, rfl, rfl, k _ H Hs _ (Ext.refl _) S (.bl _) q⟩
  · exact q.elim
end DL
namespace DL
def un1 : Sl → Sl
  | .own _ => .no
  | x => x
theorem unown_nil : unown [] = [] := rfl
theorem unown_cons (b : Sl) (r : List Sl) : unown (b :: r) = un1 b :: unown r := by cases b <;> rfl
end DL

namespace DL
open PySem PySem.Spec PyProof.Rows L2 TL
/-! ## the purse -/
section
variable {K : PySem.W.Frag} {F Hs : Hp} {M : Mem} {σ : L2.St} {H : Hp} {ρ : List Sl}
theorem Sta.mutM (S : Sta K F Hs M σ H ρ) {p : Addr} {m : MO} {vs : List V} (h : M p = some m) (r : MRep K (upd H p (.lst vs)) Hs p m) : Sta K F Hs M σ (upd H p (.lst vs)) ρ := by
  obtain ⟨_, n1, n2⟩ := S.me p m h
  refine ⟨fun a u e => ?_, fun a u e => ?_, S.dj, fun a m' e => ?_, S.ln, S.vl, fun i ds e => ?_⟩
  · rw [upd_ne (fun z => by rw [z, n1] at e; cases e)]; exact S.hs a u e
  · rw [upd_ne (fun z => by rw [z, n2] at e; cases e)]; exact S.fr a u e
  · obtain ⟨m1, m2, m3⟩ := S.me a m' e
    by_cases q : a = p
    · subst q
      rw [h] at e; cases e
      exact ⟨r, m2, m3⟩
    · exact ⟨m1.mono (Ext.refl _) fun w z => by rw [upd_ne q]; exact z, m2, m3⟩
  · obtain ⟨a, ws, q1, q2, q3, q4, q5, q6, q7, q8⟩ := S.ow i ds e
    have ne : a ≠ p := fun z => by rw [z, h] at q7; cases q7
    exact ⟨a, ws, q1, by rw [upd_ne ne]; exact q2, q3, q4, q5, q6, q7, q8⟩
def updM (M : Mem) (p : Addr) (m : MO) : Mem := fun a => if a = p then some m else M a
theorem updM_same {M : Mem} {p : Addr} {m : MO} : updM M p m p = some m := if_pos rfl
theorem updM_ne {M : Mem} {p a : Addr} {m : MO} (h : a ≠ p) : updM M p m a = M a := if_neg h
theorem Sta.newM (S : Sta K F Hs M σ H ρ) {p : Addr} {m : MO} (r : MRep K H Hs p m) (n1 : Hs p = none) (n2 : F p = none) (un : ∀ (j : Nat) (es : List D), ρ[j]? = some (Sl.own es) → σ[j]? ≠ some (some (V.ref p))) : Sta K F Hs (updM M p m) σ H ρ := by
  refine ⟨S.hs, S.fr, S.dj, fun a m' e => ?_, S.ln, S.vl, fun i ds e => ?_⟩
  · by_cases q : a = p
    · subst q
      rw [updM_same] at e; cases e
      exact ⟨r, n1, n2⟩
    · rw [updM_ne q] at e
      exact S.me a m' e
  · obtain ⟨a, ws, q1, q2, q3, q4, q5, q6, q7, q8⟩ := S.ow i ds e
    have ne : a ≠ p := fun z => by subst z; exact un i ds e q1
    exact ⟨a, ws, q1, q2, q3, q4, q5, q6, by rw [updM_ne ne]; exact q7, q8⟩
end
def purV (i v : Int) : Prop := (i = 0 ∧ 0 ≤ v ∧ v.toNat < purseB) ∨ (i = 1 ∧ 0 ≤ v ∧ v < 2305843009213693951)
section
variable {X : Cx} {pos : Pos} {ta tb te : TE} {Ta Tb Te : TEd} {K : PySem.W.Frag} {tr : TA} {R : TAd}
def purO (M : Mem) : Op2 := fun x y k => match x, y with
  | .ref p, .int i => M p = some .purse ∧ (i = 0 ∨ i = 1) ∧ ∀ v, purV i v → k (.int v)
  | _, _ => False
def TPur (Ta Tb : TEd) : TEd := fun ρ M Q => Ta ρ M fun x M1 => Tb ρ M1 fun y M2 => purO M2 x y fun z => Q z M2
theorem ed_pur {a b : Expr} (hK : X.K = K) (ha : ED X a ta Ta) (hb : ED X b tb Tb) (hs : PlainIx b := by intro _ _; rfl) : ED X (.Subscript a b pos) (tOp (rIx K) ta tb) (TPur Ta Tb) := by
  subst hK
  refine ⟨pe_ix ix_seq ha.pe hb.pe hs, fun F Hs M σ H ρ Q Qd S k q => ?_⟩
  refine ha.se F Hs M σ H ρ _ _ S (fun x H1 Hs1 dx M1 e1 S1 r1 q1 => ?_) q
  refine hb.se F Hs1 M1 σ H1 ρ _ _ S1 (fun y H2 Hs2 dy M2 e2 S2 r2 q2 => ?_) q1
  unfold purO at q2
  split at q2
  · rename_i p i
    obtain ⟨hm, hi, q2⟩ := q2
    cases r1
    cases r2
    obtain ⟨⟨x, y, hp, x0, x1, y0, y1⟩, _, _⟩ := S2.me p _ hm
    rcases hi with rfl | rfl
    · exact .inl ⟨p, [.int x, .int y], 0, .int x, rfl, rfl, SqL.of hp, rfl, k _ H2 Hs2 _ M2 (e1.trans e2) S2 (.int x) (q2 x (.inl ⟨rfl, x0, x1⟩))⟩
    · exact .inl ⟨p, [.int x, .int y], 1, .int y, rfl, rfl, SqL.of hp, rfl, k _ H2 Hs2 _ M2 (e1.trans e2) S2 (.int y) (q2 y (.inr ⟨rfl, y0, y1⟩))⟩
  · exact q2.elim
def GPur (Ta Tb : TEd) : TGd := fun d ρ M Q => Ta ρ M fun x M1 => Tb ρ M1 fun y M2 => match x, y, d with
  | .ref p, .int i, .int v => M2 p = some .purse ∧ purV i v ∧ Q ρ M2
  | _, _, _ => False
theorem gd_pur {a b : Expr} (ha : ED X a ta Ta) (hb : ED X b tb Tb)
    (hs : ∀ v, assign (.Subscript a b pos) X.env v = (do
      let ov ← holding [v] (eval a X.env)
      let iv ← holding [v, ov] (eval b X.env)
      standAt pos
      holding [v, ov, iv] (setItem ov iv v)
      release [v, ov, iv] []) := by intro _; rfl) : GD X (.Subscript a b pos) (gSub ta tb rSetL) (GPur Ta Tb) :=
  ⟨pg_sub ha.pe hb.pe set_list hs, fun F Hs M σ H ρ v d Q Qd S r k q => by
    refine ha.se F Hs M σ H ρ _ _ S (fun x H1 Hs1 dx M1 e1 S1 r1 q1 => ?_) q
    refine hb.se F Hs1 M1 σ H1 ρ _ _ S1 (fun y H2 Hs2 dy M2 e2 S2 r2 q2 => ?_) q1
    split at q2
    · rename_i p i w
      obtain ⟨hm, hv, q2⟩ := q2
      cases r1
      cases r2
      cases r
      obtain ⟨⟨x, y, hp, x0, x1, y0, y1⟩, _, _⟩ := S2.me p _ hm
      rcases hv with ⟨rfl, v0, v1⟩ | ⟨rfl, v0, v1⟩
      · exact ⟨p, [.int x, .int y], 0, 0, rfl, rfl, hp, rfl, k σ _ Hs2 ρ M2 (e1.trans e2) (S2.mutM hm ⟨w, y, upd_same, v0, v1, y0, y1⟩) q2⟩
      · exact ⟨p, [.int x, .int y], 1, 1, rfl, rfl, hp, rfl, k σ _ Hs2 ρ M2 (e1.trans e2) (S2.mutM hm ⟨x, w, upd_same, x0, x1, v0, v1⟩) q2⟩
    · exact q2.elim⟩
/-- return [a, b], a new purse -/
def TRetP (R : TAd) : TSd := fun Dd ρ M => R ρ M fun ds M1 => match ds with
  | [.int x, .int y] => (0 ≤ x ∧ x.toNat < purseB ∧ 0 ≤ y ∧ y < 2305843009213693951) ∧ ∀ p, M1 p = none → Dd.rt (.ref p) (updM M1 p .purse)
  | _ => False
theorem sd_retP {e : Expr} {te : TE} (h : FD X e te R) : SD X (.Return (some e) pos) (tRet te) (TRetP R) := ⟨ps_ret h.pe, fun F Hs M σ H ρ Dh Dd S k q => h.se F Hs M σ H ρ _ _ S (fun a vs H1 Hs1 ds M1 e1 S1 h1 hl r1 n1 n2 n3 un q1 => by
  split at q1
  · rename_i x y
    obtain ⟨⟨x0, x1, y0, y1⟩, q1⟩ := q1
    cases r1 with
    | cons ha t =>
      cases t with
      | cons hb t =>
        cases t
        cases ha
        cases hb
        have S2 := S1.newM (p := a) (m := .purse) ⟨x, y, h1, x0, x1, y0, y1⟩ n1 n2 un
        exact k.rt _ H1 Hs1 _ _ e1 S2.drop (.ref a) (q1 a n3)
  · exact q1.elim) q⟩
end
end DL

namespace DL
open PySem PySem.Spec PyProof.Rows L2 TL
/-- a law's end over a head by facts, with the script's bits told -/
theorem walk_ofEB {l : PySem.W.OpenLaw} {n k : Nat} {q : Program} {loose : List Str} {XP : (Str → Option Value) → Heap → Prop} {YP : World → Heap → Prop} {d : DefRec} {CX : CXT} {x : Str}
    (hn : l.most = some n) (hn2 : n ≤ sizeLine) (hdf : d.params.defaults = []) (hr : Room k callerA)
    (F : ∀ (w : World) (mg : Str → Option Value) (fa : Addr) (h : Heap), YP w h → h.Ns mainGlobals mg → mg d.name = some (.ref fa) →
      ∃ (K : PySem.W.Frag) (fd : FuncData) (sp : Sp), K.In h ∧ (∀ (s : Shared) (u : Value), BindsTo s fd ⟨[u], []⟩ [(x, u)]) ∧
        (∀ (H : Hp) (a : Addr) (ns : List Int), ns.length ≤ n → (∀ z ∈ ns, Builtin.Int.intBits z ≤ 1048576) → Only H → SqL K H a (ns.map V.int) → sp [.ref a] H (fun v _ => v = .bl true) fun _ _ _ => False) ∧
        ∀ base : Heap, K.In base → base.Ns mainGlobals mg → FnOk l.prog w K mg base CX k fa fd [x] sp)
    (hCX : ∀ (H : Hp) (s : Shared) (e : Value) (s' : Shared), CX [] H s (fun _ _ _ => False) e s' → False) :
    PySem.W.WalkO q loose XP YP l.row.toRowW d [] (fun f vs => PySem.call f vs) := by
  refine Att.attach_callB hn hdf fun w s₀ s₁ mg mb fa o pm cd doc a vs ns G Y ho hd hcd hmg hobj hints hlen hbits hg => ?_
  obtain ⟨K, fd, sp, KX, hb, hsp, hF⟩ := F w mg fa _ Y G.T.g hmg
  exact law_call KX G.T.g G.T.b G.T.builtins G.T.nolimit hg hobj hints (Nat.le_trans hlen hn2) hr hF hb (fun H hO hS => hsp H a ns hlen hbits hO hS) fun H e s' => hCX H s₁ e s'
theorem law_sp {K : PySem.W.Frag} {H : Hp} {a : Addr} {ns : List Int} {E : XK} {fsp : SpD} (hS : SqL K H a (ns.map V.int)) (hl : ns.length ≤ 63) (hf : fsp [.fzl (ns.map D.int)] (fun _ => none) (fun d _ => d = .bl true)) : spOf K fsp [.ref a] H (fun v _ => v = .bl true) E :=
  ⟨fun _ => none, H, fun _ => none, [.fzl (ns.map D.int)], fun d _ => d = .bl true,
    ⟨fun _ _ e => e, fun _ _ e => (nomatch e), fun _ _ e => (nomatch e), fun _ _ e => (nomatch e), rfl, fun i d e => (by simp at e), fun i d e => (by simp at e)⟩,
    .cons (.fzl hS (by rw [List.length_map]; omega) (Reps.ints ns)) .nil, hf, fun v H' Hs' d M' e S r q => by
      subst q
      cases r
      rfl⟩
theorem wdic_of {K : PySem.W.Frag} {w : World} {a : Addr} (vs : List (Str × Int)) (hk : He.dicW K a = some (He.keysIn w.params (vs.map (·.1)))) (hv : He.valsB K a (vs.map fun p => (p.1, .int p.2)) = true) : WDic K w a (vs.map fun p => (p.1, D.int p.2)) := by
  refine ⟨by rw [hk, List.map_map]; rfl, fun x d h => ?_⟩
  have : ∃ i, (x, i) ∈ vs ∧ d = .int i := by
    clear hk hv
    induction vs with
    | nil => cases h
    | cons p r ih =>
      rw [List.map_cons, List.lookup_cons] at h
      split at h
      · rename_i e
        cases h
        have e : x = p.1 := by simpa using e
        exact ⟨p.2, by rw [e]; exact List.mem_cons_self, rfl⟩
      · obtain ⟨i, h1, h2⟩ := ih h
        exact ⟨i, List.mem_cons_of_mem _ h1, h2⟩
  obtain ⟨i, hi, rfl⟩ := this
  obtain ⟨u, h1, h2⟩ := He.valsB_ok hv (List.mem_map.mpr ⟨(x, i), hi, rfl⟩)
  exact ⟨u, .int i, h1, h2, fun _ => .int i⟩
theorem tab_at {fa : List He.Fa} {fn : List He.DefD} {ts : List He.Tab} {w : World} {K : PySem.W.Frag} (c : He.SaysT fa fn ts w K) (i : Nat) {t : He.Tab} (h : ts[i]? = some t := by rfl) : He.dicW K (t.1 K) = some (He.keysIn w.params t.2) := by
  have e : ts.map (fun t => He.dicW K (t.1 K)) = ts.map fun t => some (He.keysIn w.params t.2) := congrArg (fun z : He.AlT => z.2) c
  have e2 : (ts.map fun t => He.dicW K (t.1 K))[i]? = (ts.map fun t => some (He.keysIn w.params t.2))[i]? := by rw [e]
  rw [List.getElem?_map, List.getElem?_map, h] at e2
  exact Option.some.inj e2
theorem rep_strs {K : PySem.W.Frag} {H : Hp} {a : Addr} {xs : List Str} (h : SqT K H a (xs.map V.str)) (hl : xs.length ≤ 16777216) (ho : ∀ x ∈ xs, okS x = true) : Rep K H (.ref a) (.tup (xs.map D.str)) := .tup h (by rw [List.length_map]; exact hl) (reps_strs ho)
end DL

namespace DL
open PySem PySem.Spec PyProof.Rows L2 TL
/-! ## comprehensions with two fors -/
def NoOwn (ρ : List Sl) : Prop := ∀ (j : Nat) (d : List D), ρ[j]? ≠ some (Sl.own d)
theorem noOwn_unown (ρ : List Sl) : NoOwn (unown ρ) := fun j d h => unown_own h
theorem noOwn_wipe {ρ : List Sl} (h : NoOwn ρ) : ∀ vs : List Nat, NoOwn (wipeD ρ vs)
  | [] => h
  | v :: vs => fun j d e => by
    unfold wipeD at e
    by_cases hv : v = j
    · subst hv
      rw [List.getElem?_set] at e
      simp only [if_true] at e
      split at e <;> cases e
    · rw [List.getElem?_set_ne hv] at e
      exact noOwn_wipe h vs j d e
section
variable {K : PySem.W.Frag} {F F6 Hs Hs6 : Hp} {M M6 : Mem} {σ σ6 : L2.St} {H H6 : Hp} {ρ ρ6 : List Sl}
theorem Sta.back (S : Sta K F Hs M σ H ρ) (no : NoOwn ρ) (S6 : Sta K F6 Hs6 M6 σ6 H6 ρ6) (x : Ext Hs Hs6) : Sta K F6 Hs6 M6 σ H6 ρ :=
  ⟨S6.hs, S6.fr, S6.dj, S6.me, S.ln, fun j d e => let ⟨v, p1, p2⟩ := S.vl j d e; ⟨v, p1, p2.mono x⟩, fun j d e => (no j d e).elim⟩
theorem Sta.unown (S : Sta K F Hs M σ H ρ) : Sta K F Hs M σ H (unown ρ) :=
  ⟨S.hs, S.fr, S.dj, S.me, by rw [unown_len]; exact S.ln, fun i d e => S.vl i d (unown_val e), fun i d e => (unown_own e).elim⟩
end
section
variable {K : PySem.W.Frag} {wi1 : TI} {T1 : TId} {g1 : TG} {G1 : TGd} {tt1 : TT} {Tt1 : TTd} {te : TE} {Te : TEd} {vs1 : List Nat}
/-- the inner for of a comprehension, p: the list that is being made -/
theorem inner_for {Fr : Hp} {p : Addr} (hi : SemI K wi1 T1) (hg : SemG K g1 G1) (go : GO g1 vs1) (ht : SemT K tt1 Tt1) (he : SemE K te Te) {Hs : Hp} {M : Mem} {σ : L2.St} {H : Hp} {ρ : List Sl} {acc : List V} {done : List D} {Nx : Hp → Prop} {Qd : List D → Mem → Prop}
    (S : Sta K (upd Fr p (.lst acc)) Hs M σ H ρ) (r : Reps K Hs acc done) (hd : done.length + 4095 ≤ 16777215)
    (q : T1 ρ M fun ds M1 => ds.length ≤ 4095 ∧ lcD G1 Tt1 Te ds (wipeD (unown ρ) vs1) M1 Qd)
    (k : ∀ (H' Hs' : Hp) (M' : Mem) (acc' : List V) (ys : List D), Ext Hs Hs' → Sta K (upd Fr p (.lst acc')) Hs' M' (wipe σ vs1) H' (wipeD (unown ρ) vs1) → Reps K Hs' acc' (done ++ ys) → ys.length ≤ 4095 → Qd ys M' → Nx H') :
    wi1 σ H fun J1 H4 => ∃ W1 : Nat → Nat → Hp → Prop, (∃ m, W1 0 m H4) ∧ ∀ j k H, W1 j k H →
      (J1.stop j H ∧ Nx H) ∨ (J1.go j H ∧ ∃ Nx1 : Hp → Prop, (∀ H', Nx1 H' → ∃ k', k' < k ∧ W1 (j + 1) k' H') ∧ ∀ x H', J1.yld j H x H' → g1 x (wipe σ vs1) H' fun σ3 H5 => wipe σ3 vs1 = wipe σ vs1 ∧ tt1 σ3 H5 fun b H6 =>
        if b = true then te σ3 H6 fun y H7 => ∃ acc, H7 p = some (.lst acc) ∧ acc.length < sizeLine ∧ Nx1 (upd H7 p (.lst (acc ++ [y]))) else Nx1 H6) := by
  refine hi _ Hs M σ H ρ _ _ S (fun J H1 Hs1 ds M1 e1 S1 y1 ⟨hlen, q1⟩ => ?_) q
  have nw := noOwn_wipe (noOwn_unown ρ) vs1
  have SA := (S1.unown).wipe vs1
  let Inv1 : Nat → Hp → Prop := fun i H => ∃ (Hs' : Hp) (M' : Mem) (acc' : List V) (ys : List D), Ext Hs1 Hs' ∧ Sta K (upd Fr p (.lst acc')) Hs' M' (wipe σ vs1) H (wipeD (unown ρ) vs1) ∧ Reps K Hs' acc' (done ++ ys) ∧ ys.length ≤ i ∧
      lcD G1 Tt1 Te (ds.drop i) (wipeD (unown ρ) vs1) M' (fun zs M5 => Qd (ys ++ zs) M5)
  refine ⟨fun i m H => m = ds.length - i ∧ i ≤ ds.length ∧ Inv1 i H, ⟨ds.length, by omega, Nat.zero_le _, Hs1, M1, acc, [], Ext.refl _, SA, by rw [List.append_nil]; exact r.mono e1, by simp, by simpa using q1⟩, ?_⟩
  rintro i m H2 ⟨rfl, hil, Hs2, M2, acc2, ys, e2, S2, r2, hy2, q2⟩
  obtain ⟨y2, y3⟩ := y1 _ Hs2 M2 _ H2 _ i e2 S2
  by_cases hlt : i < ds.length
  · obtain ⟨go', yl⟩ := y2 _ (List.getElem?_eq_getElem hlt)
    rw [List.drop_eq_getElem_cons hlt] at q2
    refine .inr ⟨go', Inv1 (i + 1), fun H' h => ⟨ds.length - (i + 1), by omega, rfl, hlt, h⟩, fun x H3 hyd => ?_⟩
    obtain ⟨Hs3, e3, S3, r3⟩ := yl x H3 hyd
    have base := hg _ Hs3 M2 _ H3 _ x _ (fun σ4 H4 => tt1 σ4 H4 fun b H5 => if b = true then te σ4 H5 fun y H6 => ∃ acc, H6 p = some (.lst acc) ∧ acc.length < sizeLine ∧ Inv1 (i + 1) (upd H6 p (.lst (acc ++ [y]))) else Inv1 (i + 1) H5) _ S3 r3 (fun σ4 H4 Hs4 ρ4 M4 e4 S4 q4 => ?_) q2
    · exact go.m _ _ _ _ _ (fun σ4 H4 ⟨ew, q⟩ => ⟨ew.trans (wipe_wipe σ vs1), q⟩) (go.w _ _ _ _ base)
    · refine ht _ Hs4 M4 σ4 H4 ρ4 _ _ S4 (fun b H5 Hs5 M5 e5 S5 q5 => ?_) q4
      cases b with
      | true =>
        rw [if_pos rfl]
        refine he _ Hs5 M5 σ4 H5 ρ4 _ _ S5 (fun y H6 Hs6 d M6 e6 S6 r6 q6 => ?_) q5
        have x36 := (e4.trans e5).trans e6
        have hl := r2.length
        have S7 := (S3.back nw S6 x36).mutF (o' := .lst (acc2 ++ [y])) (p := p) upd_same
        rw [upd_upd] at S7
        rw [List.length_append] at hl
        refine ⟨acc2, S6.fr p _ upd_same, by rw [line_eq]; omega, Hs6, M6, acc2 ++ [y], ys ++ [d], (e2.trans e3).trans x36, S7, ?_, by simp; omega, ?_⟩
        · rw [← List.append_assoc]
          exact (r2.mono (e3.trans x36)).append (.one r6)
        · simpa [List.append_assoc] using q6
      | false =>
        rw [if_neg Bool.false_ne_true]
        have x35 := e4.trans e5
        exact ⟨Hs5, M5, acc2, ys, (e2.trans e3).trans x35, S3.back nw S5 x35, r2.mono (e3.trans x35), by omega, q5⟩
  · have e : i = ds.length := by omega
    subst e
    rw [List.drop_length] at q2
    exact .inl ⟨y3 (Nat.le_refl _), k H2 Hs2 M2 acc2 ys (e1.trans e2) S2 r2 (by omega) (by have q3 : Qd (ys ++ []) M2 := q2; simpa using q3)⟩
end
def lc2D (g : TGd) (c : TTd) (it1 : TId) (g1 : TGd) (c1 : TTd) (e : TEd) (vs1 : List Nat) : List D → List Sl → Mem → (List D → Mem → Prop) → Prop
  | [], _, M, Q => Q [] M
  | d :: r, ρ, M, Q => g d ρ M fun ρ2 M2 => c ρ2 M2 fun b M3 => match b with
    | true => it1 ρ2 M3 fun ds M4 => ds.length ≤ 4095 ∧ lcD g1 c1 e ds (wipeD (unown ρ2) vs1) M4 fun ys M5 => lc2D g c it1 g1 c1 e vs1 r ρ M5 fun zs M6 => Q (ys ++ zs) M6
    | false => lc2D g c it1 g1 c1 e vs1 r ρ M3 Q
def TLc2F (it : TId) (g : TGd) (c : TTd) (it1 : TId) (g1 : TGd) (c1 : TTd) (e : TEd) (vs vs1 : List Nat) : TAd := fun ρ M Q => it ρ M fun ds M1 => ds.length ≤ 4095 ∧ lc2D g c it1 g1 c1 e vs1 ds (wipeD (unown ρ) vs) M1 Q
def TLc2 (it : TId) (g : TGd) (c : TTd) (it1 : TId) (g1 : TGd) (c1 : TTd) (e : TEd) (vs vs1 : List Nat) : TEd := fun ρ M Q => TLc2F it g c it1 g1 c1 e vs vs1 ρ M fun ds M1 => Q (.lst ds) M1
theorem sem_lc2F {K : PySem.W.Frag} {wi wi1 : TI} {T T1 : TId} {g g1 : TG} {G G1 : TGd} {tt tt1 : TT} {Tt Tt1 : TTd} {te : TE} {Te : TEd} {vs vs1 : List Nat} (hi : SemI K wi T) (hg : SemG K g G) (go : GO g vs) (ht : SemT K tt Tt) (hi1 : SemI K wi1 T1) (hg1 : SemG K g1 G1) (go1 : GO g1 vs1) (ht1 : SemT K tt1 Tt1) (he : SemE K te Te) :
    SemF K (tLc2 wi g tt wi1 g1 tt1 te vs vs1) (TLc2F T G Tt T1 G1 Tt1 Te vs vs1) := fun F Hs M σ H ρ Q Qd S k q =>
  hi F Hs M σ H ρ _ _ S (fun J H1 Hs1 ds M1 e1 S1 y1 ⟨hlen, q1⟩ => by
    intro p np
    obtain ⟨np1, np2, np3⟩ := S1.fresh np
    have U := own_ne S1 np
    have SA := (S1.enframe.allocF np (.lst [])).wipe vs
    have nw := noOwn_wipe (noOwn_unown ρ) vs
    let Iv : Nat → Hp → Prop := fun i H => ∃ (Hs' : Hp) (M' : Mem) (acc : List V) (done : List D), Ext Hs1 Hs' ∧ Sta K (upd (cfr Hs1 M1 H1) p (.lst acc)) Hs' M' (wipe σ vs) H (wipeD (unown ρ) vs) ∧ Reps K Hs' acc done ∧ done.length ≤ i * 4095 ∧
      lc2D G Tt T1 G1 Tt1 Te vs1 (ds.drop i) (wipeD (unown ρ) vs) M' (fun ys M5 => Qd (done ++ ys) M5)
    refine ⟨fun i m H => m = ds.length - i ∧ i ≤ ds.length ∧ Iv i H, ⟨ds.length, by omega, Nat.zero_le _, Hs1, M1, [], [], Ext.refl _, SA, .nil, by simp, by simpa using q1⟩, ?_⟩
    rintro i m H2 ⟨rfl, hil, Hs2, M2, acc, done, e2, S2, r2, hd2, q2⟩
    obtain ⟨y2, y3⟩ := y1 _ Hs2 M2 _ H2 _ i e2 S2
    by_cases hlt : i < ds.length
    · obtain ⟨go', yl⟩ := y2 _ (List.getElem?_eq_getElem hlt)
      rw [List.drop_eq_getElem_cons hlt] at q2
      refine .inr ⟨go', Iv (i + 1), fun H' h => ⟨ds.length - (i + 1), by omega, rfl, hlt, h⟩, fun x H3 hy => ?_⟩
      obtain ⟨Hs3, e3, S3, r3⟩ := yl x H3 hy
      have base := hg _ Hs3 M2 _ H3 _ x _ (fun σ4 H4 => tt σ4 H4 fun b H5 => if b = true then wi1 σ4 H5 fun J1 H4 => ∃ W1 : Nat → Nat → Hp → Prop, (∃ m, W1 0 m H4) ∧ ∀ j k H, W1 j k H →
        (J1.stop j H ∧ Iv (i + 1) H) ∨ (J1.go j H ∧ ∃ Nx1 : Hp → Prop, (∀ H', Nx1 H' → ∃ k', k' < k ∧ W1 (j + 1) k' H') ∧ ∀ x H', J1.yld j H x H' → g1 x (wipe σ4 vs1) H' fun σ3 H5 => wipe σ3 vs1 = wipe σ4 vs1 ∧ tt1 σ3 H5 fun b H6 =>
          if b = true then te σ3 H6 fun y H7 => ∃ acc, H7 p = some (.lst acc) ∧ acc.length < sizeLine ∧ Nx1 (upd H7 p (.lst (acc ++ [y]))) else Nx1 H6) else Iv (i + 1) H5) _ S3 r3 (fun σ4 H4 Hs4 ρ4 M4 e4 S4 q4 => ?_) q2
      · exact go.m _ _ _ _ _ (fun σ4 H4 ⟨ew, q⟩ => ⟨ew.trans (wipe_wipe σ vs), q⟩) (go.w _ _ _ _ base)
      · refine ht _ Hs4 M4 σ4 H4 ρ4 _ _ S4 (fun b H5 Hs5 M5 e5 S5 q5 => ?_) q4
        have x35 := e4.trans e5
        cases b with
        | true =>
          rw [if_pos rfl]
          have hb : i * 4095 + 4095 ≤ 16777215 := by omega
          refine inner_for hi1 hg1 go1 ht1 he S5 (r2.mono (e3.trans x35)) (by omega) q5 fun H' Hs' M' acc' ys x S' r' hy' q' => ?_
          exact ⟨Hs', M', acc', done ++ ys, ((e2.trans e3).trans x35).trans x, S3.back nw S' (x35.trans x), r', by rw [List.length_append, Nat.succ_mul]; omega, by simpa [List.append_assoc] using q'⟩
        | false =>
          rw [if_neg Bool.false_ne_true]
          exact ⟨Hs5, M5, acc, done, (e2.trans e3).trans x35, S3.back nw S5 x35, r2.mono (e3.trans x35), by rw [Nat.succ_mul]; omega, q5⟩
    · have e : i = ds.length := by omega
      subst e
      rw [List.drop_length] at q2
      refine .inl ⟨y3 (Nat.le_refl _), ?_⟩
      have hp : H2 p = some (.lst acc) := S2.fr p _ upd_same
      have n1 : Hs2 p = none := S2.dj p _ upd_same
      have n3 : M2 p = none := by
        cases q : M2 p with
        | none => rfl
        | some m =>
          have := (S2.me p m q).2.2
          rw [upd_same] at this; cases this
      have c0 : cfr Hs1 M1 H1 p = none := by rw [cfr_of np1 np3]; exact np
      have S3 : Sta K (cfr Hs1 M1 H1) Hs2 M2 (wipe σ vs) H2 (wipeD (unown ρ) vs) := by
        have ne : ∀ a o, cfr Hs1 M1 H1 a = some o → a ≠ p := fun a o e z => by rw [z, c0] at e; cases e
        refine ⟨S2.hs, fun a o e => S2.fr a o (by rw [upd_ne (ne a o e)]; exact e), fun a o e => S2.dj a o (by rw [upd_ne (ne a o e)]; exact e), fun a m e => ?_, S2.ln, S2.vl, fun j d e => (nw j d e).elim⟩
        obtain ⟨m1, m2, m3⟩ := S2.me a m e
        refine ⟨m1, m2, ?_⟩
        by_cases z : a = p
        · subst z; exact c0
        · rw [upd_ne z] at m3; exact m3
      have hl := r2.length
      have hm : ds.length * 4095 ≤ 4095 * 4095 := Nat.mul_le_mul_right _ hlen
      exact k p acc H2 Hs2 _ M2 (e1.trans e2) (S1.unframe S3 e2) hp (by omega) r2 n1 np2 n3 U (by have q3 : Qd (done ++ []) M2 := q2; simpa using q3)) q
section
variable {X : Cx} {pos : Pos} {ta tb te : TE} {Ta Tb Te : TEd} {tt tt1 : TT} {Tt Tt1 : TTd} {elt tg iter tg1 iter1 : Expr} {ifs ifs1 : List Expr} {scope : Scope} {own : List (Str × Nat)} {vs1 : List Nat} {wi wi1 : TI} {Ti Ti1 : TId} {g g1 : TG} {Gd G1 : TGd}
theorem fd_lc2 (hc : X.calm = true) (hN : X.N.Nodup) (hi : ID X tg iter wi Ti) (ok : BlkOk X.N X.env.scope scope own) (hv : ∀ i ∈ vs1, i ∈ own.map (·.2)) (go : GO g (own.map (·.2))) (go1 : GO g1 vs1)
    (hg : Blk X scope fun Y => GD Y tg g Gd) (ht : Blk X scope fun Y => PTD Y ifs tt Tt) (hi1 : Blk X scope fun Y => ID Y tg1 iter1 wi1 Ti1) (hg1 : Blk X scope fun Y => GD Y tg1 g1 G1) (ht1 : Blk X scope fun Y => PTD Y ifs1 tt1 Tt1) (he : Blk X scope fun Y => ED Y elt te Te)
    (hs : ∀ x, foldedSetIterable iter X.env x = pure x := by intro _; rfl) (hs1 : ∀ env x, foldedSetIterable iter1 env x = pure x := by intro _ _; rfl) :
    FD X (.ListComp elt [⟨tg, iter, ifs, 0⟩, ⟨tg1, iter1, ifs1, 0⟩] scope pos) (tLc2 wi g tt wi1 g1 tt1 te (own.map (·.2)) vs1) (TLc2F Ti Gd Tt Ti1 G1 Tt1 Te (own.map (·.2)) vs1) :=
  ⟨pe_lc2 hc hN hi.pe ok hv (fun s H C cl fp => (hg s H C cl fp).pe) (fun s H C cl fp => (ht s H C cl fp).pe) (fun s H C cl fp => (hi1 s H C cl fp).pe) (fun s H C cl fp => (hg1 s H C cl fp).pe) (fun s H C cl fp => (ht1 s H C cl fp).pe) (fun s H C cl fp => (he s H C cl fp).pe) hs hs1,
   sem_lc2F hi.se (hg aShared (fun _ => none) 0 [] []).se go (ht aShared (fun _ => none) 0 [] []).se (hi1 aShared (fun _ => none) 0 [] []).se (hg1 aShared (fun _ => none) 0 [] []).se go1 (ht1 aShared (fun _ => none) 0 [] []).se (he aShared (fun _ => none) 0 [] []).se⟩
theorem ed_lc2 (hc : X.calm = true) (hN : X.N.Nodup) (hi : ID X tg iter wi Ti) (ok : BlkOk X.N X.env.scope scope own) (hv : ∀ i ∈ vs1, i ∈ own.map (·.2)) (go : GO g (own.map (·.2))) (go1 : GO g1 vs1)
    (hg : Blk X scope fun Y => GD Y tg g Gd) (ht : Blk X scope fun Y => PTD Y ifs tt Tt) (hi1 : Blk X scope fun Y => ID Y tg1 iter1 wi1 Ti1) (hg1 : Blk X scope fun Y => GD Y tg1 g1 G1) (ht1 : Blk X scope fun Y => PTD Y ifs1 tt1 Tt1) (he : Blk X scope fun Y => ED Y elt te Te)
    (hs : ∀ x, foldedSetIterable iter X.env x = pure x := by intro _; rfl) (hs1 : ∀ env x, foldedSetIterable iter1 env x = pure x := by intro _ _; rfl) :
    ED X (.ListComp elt [⟨tg, iter, ifs, 0⟩, ⟨tg1, iter1, ifs1, 0⟩] scope pos) (tLc2 wi g tt wi1 g1 tt1 te (own.map (·.2)) vs1) (TLc2 Ti Gd Tt Ti1 G1 Tt1 Te (own.map (·.2)) vs1) :=
  ⟨(fd_lc2 hc hN hi ok hv go go1 hg ht hi1 hg1 ht1 he hs hs1).pe, sem_of_F (fd_lc2 (pos := pos) hc hN hi ok hv go go1 hg ht hi1 hg1 ht1 he hs hs1).se⟩
theorem sd_setLc2 {i : Nat} {y : Str} {py spos : Pos} (hc : X.calm = true) (hN : X.N.Nodup) (hy : X.N[i]? = some y) (hyl : X.env.scope.names.lookup y = some .local) (hsw : swapsWith (.ListComp elt [⟨tg, iter, ifs, 0⟩, ⟨tg1, iter1, ifs1, 0⟩] scope pos) (some (.Name y py)) spos.line X.env = pure true)
    (hi : ID X tg iter wi Ti) (ok : BlkOk X.N X.env.scope scope own) (hv : ∀ i ∈ vs1, i ∈ own.map (·.2)) (go : GO g (own.map (·.2))) (go1 : GO g1 vs1)
    (hg : Blk X scope fun Y => GD Y tg g Gd) (ht : Blk X scope fun Y => PTD Y ifs tt Tt) (hi1 : Blk X scope fun Y => ID Y tg1 iter1 wi1 Ti1) (hg1 : Blk X scope fun Y => GD Y tg1 g1 G1) (ht1 : Blk X scope fun Y => PTD Y ifs1 tt1 Tt1) (he : Blk X scope fun Y => ED Y elt te Te)
    (hs : ∀ x, foldedSetIterable iter X.env x = pure x := by intro _; rfl) (hs1 : ∀ env x, foldedSetIterable iter1 env x = pure x := by intro _ _; rfl) :
    SD X (.Assign [.Name y py] (.ListComp elt [⟨tg, iter, ifs, 0⟩, ⟨tg1, iter1, ifs1, 0⟩] scope pos) spos) (tAsg (tLc2 wi g tt wi1 g1 tt1 te (own.map (·.2)) vs1) (gName i)) (TSet i (TLc2 Ti Gd Tt Ti1 G1 Tt1 Te (own.map (·.2)) vs1)) :=
  ⟨ps_setLc2 hc hN hy hyl hsw hi.pe ok hv (fun s H C cl fp => (hg s H C cl fp).pe) (fun s H C cl fp => (ht s H C cl fp).pe) (fun s H C cl fp => (hi1 s H C cl fp).pe) (fun s H C cl fp => (hg1 s H C cl fp).pe) (fun s H C cl fp => (ht1 s H C cl fp).pe) (fun s H C cl fp => (he s H C cl fp).pe) hs hs1,
   sem_set i (ed_lc2 (pos := pos) hc hN hi ok hv go go1 hg ht hi1 hg1 ht1 he hs hs1).se⟩
end
end DL

namespace DL
open PySem PySem.Spec PyProof.Rows L2 TL
/-! ## zip of any two of lists, tuples, texts -/
inductive Sk where
  | lst (a : Addr) | tup (a : Addr) | str (z : Str) (t : Tok)
def Sk.val : Sk → Value
  | .lst a => .ref a
  | .tup a => .ref a
  | .str z t => .str z t
def Sk.src : Sk → List Addr
  | .lst a => [a]
  | .tup a => [a]
  | .str _ _ => []
def Sk.on (it : Addr) (i : Nat) (h : Heap) : Sk → Prop
  | .lst a => h.IsListIter it a i
  | .tup a => h.IsTupleIter it a i
  | .str z t => h.IsStrIter it (strIterType z) z t i
def Sk.ok (K : PySem.W.Frag) (H : Hp) (xs : List V) : Sk → Prop
  | .lst a => SqL K H a xs
  | .tup a => SqT K H a xs
  | .str z _ => xs = z.cps.toList.map fun c => V.str ⟨#[c]⟩
theorem Sk.on_obj {k : Sk} {it : Addr} {i : Nat} {h : Heap} (x : k.on it i h) : ∃ o, h.get? it = some o ∧ ∀ v, o.data ≠ .cell v := by
  cases k with
  | lst a => obtain ⟨o, e, _, d⟩ := (x : h.IsListIter it a i); exact ⟨o, e, fun v z => by rw [d] at z; cases z⟩
  | tup a => obtain ⟨o, e, _, d⟩ := (x : h.IsTupleIter it a i); exact ⟨o, e, fun v z => by rw [d] at z; cases z⟩
  | str z t => obtain ⟨o, e, _, d⟩ := (x : h.IsStrIter it (strIterType z) z t i); exact ⟨o, e, fun v z => by rw [d] at z; cases z⟩
theorem Sk.on_keep {k : Sk} {it : Addr} {i : Nat} {h h' : Heap} (x : k.on it i h) (q : ∀ o, h.get? it = some o → h'.get? it = some o) : k.on it i h' := by
  cases k with
  | lst a => exact Heap.IsListIter.at x q
  | tup a => exact Heap.IsTupleIter.at x q
  | str z t => obtain ⟨o, e, r⟩ := (x : h.IsStrIter it (strIterType z) z t i); exact ⟨o, q o e, r⟩
theorem vals_at {xs : List V} {its : List Value} (r : Vals xs its) {j : Nat} {u : Value} (h : its[j]? = some u) : ∃ x, xs[j]? = some x ∧ RelV x u := by
  induction r generalizing j with
  | nil => cases h
  | cons a t ih =>
    cases j with
    | zero => cases h; exact ⟨_, rfl, a⟩
    | succ j => exact ih h
theorem Sk.draws {X : Cx} {pins : List (Addr × Obj)} {σ : L2.St} {H : Hp} {s : Shared} {xs : List V} {k : Sk} {it : Addr} (I : Inv X pins σ H s) (ok : k.ok X.K H xs) (hh : X.A.handled = none) (hn : ∀ a ∈ k.src, a ≠ it) :
    ∃ (P : Nat → Value → Prop) (St : Nat → Heap → Prop), Draws X.prog X.w X.A.in1 it (it :: k.src) xs.length P St ∧ (∀ j, k.on it j s.heap → St j s.heap) ∧ (∀ j h, St j h → k.on it j h) ∧ ∀ j u, P j u → ∃ x, xs[j]? = some x ∧ RelV x u := by
  cases k with
  | lst a =>
    obtain ⟨its, r, p, hz⟩ := I.list (show SqL X.K H a xs from ok)
    have e : its.toArray.size = xs.length := by rw [List.size_toArray]; exact r.length.symm
    have d := Draws.list (prog := X.prog) (w := X.w) (A := X.A.in1) hh it a (hn a List.mem_cons_self) its.toArray
    rw [e] at d
    exact ⟨_, _, d, fun j q => ⟨q, p.isList⟩, fun j h q => q.1, fun j u q => vals_at r (by simpa using q)⟩
  | tup a =>
    obtain ⟨its, r, p, hz⟩ := I.tuple (show SqT X.K H a xs from ok)
    have e : its.toArray.size = xs.length := by rw [List.size_toArray]; exact r.length.symm
    have d := Draws.tuple (prog := X.prog) (w := X.w) (A := X.A.in1) hh it a (hn a List.mem_cons_self) its.toArray
    rw [e] at d
    exact ⟨_, _, d, fun j q => ⟨q, p⟩, fun j h q => q.1, fun j u q => vals_at r (by simpa using q)⟩
  | str z t =>
    have e0 : xs = z.cps.toList.map fun c => V.str ⟨#[c]⟩ := ok
    have e : z.cps.size = xs.length := by rw [e0, List.length_map]; rfl
    have d := Draws.text (prog := X.prog) (w := X.w) (A := X.A.in1) hh it z t
    rw [e] at d
    refine ⟨_, _, d, fun j q => q, fun j h q => q, fun j u ⟨c, v, h1, h2⟩ => ?_⟩
    subst h2
    refine ⟨.str ⟨#[c]⟩, ?_, ⟨v, rfl⟩⟩
    rw [e0, List.getElem?_map]
    have : z.cps.toList[j]? = some c := by simpa using h1
    rw [this]
    rfl
def Itg (K : PySem.W.Frag) (k1 k2 : Sk) (xs ys : List V) : It :=
  ⟨fun i H => (k1.ok K H xs ∧ k2.ok K H ys) ∧ i < xs.length ∧ i < ys.length,
   fun i H v H' => ∃ (T : Addr) (x y : V), v = .ref T ∧ H T = none ∧ H' = upd H T (.tup [x, y]) ∧ xs[i]? = some x ∧ ys[i]? = some y,
   fun i H => (k1.ok K H xs ∧ k2.ok K H ys) ∧ (xs.length ≤ i ∨ ys.length ≤ i)⟩
abbrev zCells (N : Nat) : List Addr := [N + 4, N + 2, N + 3, N, N + 1]
def zSt (k1 k2 : Sk) (n m N : Nat) (i : Nat) (h : Heap) : Prop := (i ≤ n ∧ i ≤ m) ∧ IsZip h (N + 4) (N + 2) (N + 3) .none ∧ IsTupOf2 h (N + 2) (.ref (N : Nat)) (.ref (N + 1 : Nat)) ∧ (∃ a b, IsTupOf2 h (N + 3) a b) ∧ k1.on (N : Nat) i h ∧ k2.on (N + 1 : Nat) i h
theorem mem_cells {N c : Nat} (h : c ∈ zCells N) : c = N + 4 ∨ c = N + 2 ∨ c = N + 3 ∨ c = N ∨ c = N + 1 := by simpa using h
theorem turn_zipG {P : Program} {w : World} {K : PySem.W.Frag} {elts : List Expr} {kk : Nat} {tpos : Pos} (k1 k2 : Sk) (xs ys : List V) (N : Nat) (h1 : ∀ b ∈ k1.src, b < N) (h2 : ∀ b ∈ k2.src, b < N) :
    Turn P w K (.Tuple elts kk tpos) (Itg K k1 k2 xs ys) (zCells N) (N + 4) (zSt k1 k2 xs.length ys.length N) := by
  have SP := zip_sep2 h1 h2
  have n1 : ∀ a ∈ k1.src, a ≠ (N : Nat) := fun a ha => Nat.ne_of_lt (h1 a ha)
  have n2 : ∀ a ∈ k2.src, a ≠ (N + 1 : Nat) := fun a ha => Nat.ne_of_lt (Nat.lt_succ_of_lt (h2 a ha))
  refine ⟨List.mem_cons_self, fun i h st b hb => ?_, fun i h h' st kp => ?_, ?_, ?_, fun A i s Q E st q => wpAny_pyIter_zip st.2.1 q⟩
  · obtain ⟨_, z1, z2, ⟨a, c, z3⟩, z4, z5⟩ := st
    rcases mem_cells hb with e | e | e | e | e
    · rw [e]; exact ⟨_, z1, fun v q => nomatch q⟩
    · rw [e]; exact ⟨_, z2, fun v q => nomatch q⟩
    · rw [e]; exact ⟨_, z3, fun v q => nomatch q⟩
    · rw [e]; exact Sk.on_obj z4
    · rw [e]; exact Sk.on_obj z5
  · obtain ⟨z0, z1, z2, ⟨a, c, z3⟩, z4, z5⟩ := st
    exact ⟨z0, kp _ (by simp) _ z1, kp _ (by simp) _ z2, ⟨a, c, kp _ (by simp) _ z3⟩, Sk.on_keep z4 fun o q => kp _ (by simp) o q, Sk.on_keep z5 fun o q => kp _ (by simp) o q⟩
  · intro X eP ew eK hc i pins s σ H E I hf st hg
    subst eP ew eK
    obtain ⟨z0, z1, z2, ⟨a, c, z3⟩, z4, z5⟩ := st
    obtain ⟨⟨o1, o2⟩, l1, l2⟩ := hg
    have hh := I.ok.hd hc
    obtain ⟨P1, S1, d1, a1, b1, c1⟩ := Sk.draws I o1 hh n1
    obtain ⟨P2, S2, d2, a2, b2, c2⟩ := Sk.draws I o2 hh n2
    refine wpAny_pyNext_zipD2_item SP d1 d2 z1 z2 z3 (a1 i z4) (a2 i z5) l1 l2 fun x1 x2 h' tk p1 p2 y1 y2 t1 t2 y3 hsz hk => ?_
    obtain ⟨x, ex, rx⟩ := c1 i x1 p1
    obtain ⟨y, ey, ry⟩ := c2 i x2 p2
    have zl : N + 4 < s.heap.objs.size := Heap.lt_size z1
    refine ⟨_, rfl, wpAny_letOwnedTupleGo_zip (s := { s with heap := h', toks := tk }) y1 fun h'' w1 sb => ?_⟩
    have e3 : h''.get? s.heap.objs.size = some { cls := .type "tuple", data := .seq #[x1, x2] } := (sb.2 _ (Nat.ne_of_gt zl)).trans y3
    have ob : ObjOk X.prog X.w (upd H s.heap.objs.size (.tup [x, y])) h'' s.heap.objs.size (.tup [x, y]) := ⟨(by decide : 2 ≤ sizeLine), [x1, x2], .cons rx (.cons ry .nil), ⟨_, e3, rfl, _, rfl⟩⟩
    have kk2 : ∀ (c : Addr) (o : Obj), c ∉ zCells N → s.heap.get? c = some o → h''.get? c = some o := fun c o hb q => (sb.2 c fun e => hb (by rw [e]; simp)).trans (hk c o (fun e => hb (by rw [e]; simp)) (fun e => hb (by rw [e]; simp)) (fun e => hb (by rw [e]; simp)) (fun e => hb (by rw [e]; simp)) q)
    have I1 : Inv X pins σ (upd H s.heap.objs.size (.tup [x, y])) { s with heap := h'', toks := tk } := I.turnedNew (t' := tk) (ch := zCells N) kk2 hf (Nat.le_refl _) ob
    refine ⟨.ref s.heap.objs.size, _, I1, rfl, ⟨_, x, y, rfl, I.hok.fresh (Nat.le_refl _), rfl, ex, ey⟩, ⟨⟨by omega, by omega⟩, w1, ?_, ⟨x1, x2, ?_⟩, ?_, ?_⟩, fun c hcm => ?_⟩
    · exact (sb.2 _ SP.TIz).trans (hk _ _ SP.TIz SP.TITO SP.TIi1 SP.TIi2 z2)
    · exact (sb.2 _ SP.TOz).trans y2
    · exact Sk.on_keep (b1 _ _ t1) fun o q => (sb.2 _ SP.zi1.symm).trans q
    · exact Sk.on_keep (b2 _ _ t2) fun o q => (sb.2 _ SP.zi2.symm).trans q
    · have hlt : c < s.heap.objs.size := by
        rcases mem_cells hcm with e | e | e | e | e
        · rw [e]; exact zl
        · rw [e]; exact Nat.lt_trans (show N + 2 < N + 4 from by omega) zl
        · rw [e]; exact Nat.lt_trans (show N + 3 < N + 4 from by omega) zl
        · rw [e]; exact Nat.lt_trans (show N < N + 4 from by omega) zl
        · rw [e]; exact Nat.lt_trans (show N + 1 < N + 4 from by omega) zl
      rw [upd_ne (Nat.ne_of_lt hlt)]
      exact (hf c hcm).1
  · intro X eP ew eK hc i pins s σ H E I hf st hg
    subst eP ew eK
    obtain ⟨⟨z0, z0'⟩, z1, z2, ⟨a, c, z3⟩, z4, z5⟩ := st
    obtain ⟨⟨o1, o2⟩, l⟩ := hg
    have hh := I.ok.hd hc
    obtain ⟨P1, S1, d1, a1, b1, c1⟩ := Sk.draws I o1 hh n1
    obtain ⟨P2, S2, d2, a2, b2, c2⟩ := Sk.draws I o2 hh n2
    exact wpAny_pyNext_zipD2_end SP d1 d2 z1 z2 z3 (a1 i z4) (a2 i z5) z0 z0' (by omega) fun h' tk hk => ⟨rfl, I.turnedL (t' := tk) (ch := zCells N) (fun c o hb q =>
      hk c o (fun e => hb (by rw [e]; simp)) (fun e => hb (by rw [e]; simp)) (fun e => hb (by rw [e]; simp)) (fun e => hb (by rw [e]; simp)) q) hf⟩
def Sk.v : Sk → V
  | .lst a => .ref a
  | .tup a => .ref a
  | .str z _ => .str z
def Sk.tk (t : Tok) : Sk → Sk
  | .str z _ => .str z t
  | k => k
theorem Sk.tk_ok {k : Sk} {t : Tok} {K : PySem.W.Frag} {H : Hp} {xs : List V} : (k.tk t).ok K H xs ↔ k.ok K H xs := by cases k <;> exact Iff.rfl
theorem Sk.rel {k : Sk} {u : Value} (r : RelV k.v u) : ∃ t, u = (k.tk t).val := by
  cases k with
  | lst a => exact ⟨0, r⟩
  | tup a => exact ⟨0, r⟩
  | str z _ => obtain ⟨t, e⟩ := r; exact ⟨t, e⟩
theorem Sk.begin {X : Cx} {pins : List (Addr × Obj)} {σ : L2.St} {H : Hp} {s : Shared} {xs : List V} {k : Sk} (I : Inv X pins σ H s) (ok : k.ok X.K H xs) :
    ∃ (o : Obj) (G : Heap → Prop), Begins k.val o G ∧ G s.heap ∧ (∀ it h, h.get? it = some o → k.on it 0 h) ∧ ∀ b ∈ k.src, b < s.heap.objs.size := by
  cases k with
  | lst a =>
    obtain ⟨its, r, p, hz⟩ := I.list (show SqL X.K H a xs from ok)
    exact ⟨_, _, begins_list a its.toArray, p.isList, fun it h e => ⟨_, e, rfl, rfl⟩, fun b hb => by rw [List.mem_singleton.mp hb]; exact p.lt⟩
  | tup a =>
    obtain ⟨its, r, p, hz⟩ := I.tuple (show SqT X.K H a xs from ok)
    exact ⟨_, _, begins_tuple a its.toArray, p, fun it h e => ⟨_, e, rfl, rfl⟩, fun b hb => by rw [List.mem_singleton.mp hb]; obtain ⟨o, ho, _⟩ := p; exact Heap.lt_size ho⟩
  | str z t => exact ⟨_, _, begins_text z t, trivial, fun it h e => ⟨_, e, rfl, rfl⟩, fun b hb => nomatch hb⟩
def iZipG (K : PySem.W.Frag) (ta : TA) : TI := fun σ H R => ta σ H fun vs H1 => ∃ (k1 k2 : Sk) (xs ys : List V), vs = [k1.v, k2.v] ∧ k1.ok K H1 xs ∧ k2.ok K H1 ys ∧ ∀ t1 t2, R (Itg K (k1.tk t1) (k2.tk t2) xs ys) H1
theorem pi_zipG {X : Cx} {e e2 : Expr} {ta : TA} {p pos tpos : Pos} {elts : List Expr} {kk : Nat} (hg : Gl X "zip") (hm : X.mg "zip" = none) (ha : PA X [e, e2] ta)
    (hs : starEach [e, e2] X.env = (false, eval e X.env) :: starEach [e2] X.env) (hpl : (backTo pos (starEach [e2] X.env)).any (·.1) = false) : PI X (.Tuple elts kk tpos) (.Call (.Name "zip" p) [e, e2] [] pos) (iZipG X.K ta) := by
  refine ⟨fun pins s σ H R I h => Call_ (ld_blt I hg hm PyProof.Rows.boot_zip (PyProof.Rows.callWith_type1 (thn (ha.run pos pins s σ H _ I h) fun us s1 ⟨vs, H1, I1, r1, q1⟩ => ?_) hs hpl))⟩
  obtain ⟨k1, k2, xs, ys, ex, o1, o2, q⟩ := q1
  subst ex
  cases r1 with
  | cons ra rr =>
    cases rr with
    | cons rb rr =>
      cases rr
      obtain ⟨t1, rfl⟩ := Sk.rel ra
      obtain ⟨t2, rfl⟩ := Sk.rel rb
      have o1' := Sk.tk_ok (t := t1).mpr o1
      have o2' := Sk.tk_ok (t := t2).mpr o2
      obtain ⟨oa, Ga, ba, ga, fa, la⟩ := Sk.begin I1 o1'
      obtain ⟨ob, Gb, bb, gb, fb, lb⟩ := Sk.begin I1 o2'
      refine zip_begins2 ba bb ga gb fun h' w1 w2 w3 w4 w5 hsz hk => wpAny_pyIter_zip w1 ?_
      have I2 : Inv X pins σ H1 { s1 with heap := h' } := I1.kept (t' := s1.toks) hk
      refine ⟨s1.heap.objs.size + 4, zCells s1.heap.objs.size, _, _, H1, rfl, I2, turn_zipG (k1.tk t1) (k2.tk t2) xs ys s1.heap.objs.size la lb, ⟨⟨Nat.zero_le _, Nat.zero_le _⟩, w1, w2, ⟨_, _, w3⟩, fa _ _ w4, fb _ _ w5⟩, fun c hc => ?_, q t1 t2⟩
      have hle : s1.heap.objs.size ≤ c := by
        rcases mem_cells hc with z | z | z | z | z
        · rw [z]; exact Nat.le_add_right _ _
        · rw [z]; exact Nat.le_add_right _ _
        · rw [z]; exact Nat.le_add_right _ _
        · rw [z]; exact Nat.le_refl _
        · rw [z]; exact Nat.le_add_right _ _
      exact I1.fpOk hle (I1.hok.fresh hle)
/-- what zip walks, as data -/
def srcD : D → Option (List D)
  | .lst ds => some ds
  | .tup ds => some ds
  | .str z => some (charsD z)
  | _ => none
def IZip (t : TAd) : TId := fun ρ M Q => t ρ M fun ds M1 => match ds with
  | [x, y] => match srcD x, srcD y with
    | some xs, some ys => Q ((xs.zip ys).map fun p => .tup [p.1, p.2]) M1
    | _, _ => False
  | _ => False
theorem src_rep {K : PySem.W.Frag} {H : Hp} {u : V} {d : D} {ds : List D} (r : Rep K H u d) (e : srcD d = some ds) : ∃ (k : Sk) (xs : List V), u = k.v ∧ k.ok K H xs ∧ Reps K H xs ds := by
  cases r with
  | lst h l r => cases e; exact ⟨.lst _, _, rfl, SqL.of h, r⟩
  | tup h l r => cases e; exact ⟨.tup _, _, rfl, h, r⟩
  | str z hz =>
    cases e
    refine ⟨.str z 0, _, rfl, rfl, ?_⟩
    unfold charsD
    have : ∀ l : List Nat, (∀ c ∈ l, c ∈ tl z) → Reps K H (l.map fun c => V.str ⟨#[c]⟩) (l.map fun c => D.str ⟨#[c]⟩) := by
      intro l
      induction l with
      | nil => intro _; exact .nil
      | cons c r ih =>
        intro hl
        refine .cons (.str _ (okS_sub hz (fun d hd => ?_) (by show 1 ≤ _; decide))) (ih fun b hb => hl b (List.mem_cons_of_mem _ hb))
        have : d = c := by simpa [tl] using hd
        rw [this]
        exact hl c List.mem_cons_self
    exact this _ fun c hc => hc
  | _ => cases e
theorem Sk.ok_ext {k : Sk} {K : PySem.W.Frag} {H H' : Hp} {xs : List V} (x : Ext H H') (o : k.ok K H xs) : k.ok K H' xs := by
  cases k with
  | lst a => exact sqL_ext x o
  | tup a => exact sqT_ext x o
  | str z t => exact o
theorem yl_zip {K : PySem.W.Frag} {Hs : Hp} {k1 k2 : Sk} {xs ys : List V} {dx dy : List D} (o1 : k1.ok K Hs xs) (o2 : k2.ok K Hs ys) (r1 : Reps K Hs xs dx) (r2 : Reps K Hs ys dy) : Yl K (Itg K k1 k2 xs ys) Hs ((dx.zip dy).map fun p => .tup [p.1, p.2]) := fun F Hs1 M σ H ρ i e S => by
  have l1 := r1.length
  have l2 := r2.length
  have q1 := Sk.ok_ext S.hs (Sk.ok_ext e o1)
  have q2 := Sk.ok_ext S.hs (Sk.ok_ext e o2)
  refine ⟨fun d hd => ?_, fun hl => ⟨⟨q1, q2⟩, ?_⟩⟩
  · rw [List.getElem?_map] at hd
    cases hz : (dx.zip dy)[i]? with
    | none => rw [hz] at hd; cases hd
    | some p =>
      rw [hz] at hd
      cases hd
      obtain ⟨z1, z2⟩ := List.getElem?_zip_eq_some.mp hz
      obtain ⟨x, ex, rx⟩ := r1.get z1
      obtain ⟨y, ey, ry⟩ := r2.get z2
      have hx := (List.getElem?_eq_some_iff.mp ex).1
      have hy := (List.getElem?_eq_some_iff.mp ey).1
      refine ⟨⟨⟨q1, q2⟩, hx, hy⟩, fun v H' ⟨T, x', y', ev, hn, eH, ex', ey'⟩ => ?_⟩
      rw [ex] at ex'
      rw [ey] at ey'
      cases ex'
      cases ey'
      subst ev eH
      obtain ⟨S2, x2⟩ := S.new hn (.tup [x, y])
      exact ⟨_, x2, S2, .tup (.inl (.inl upd_same)) (by show 2 ≤ _; decide) (.cons ((rx.mono e).mono x2) (.cons ((ry.mono e).mono x2) .nil))⟩
  · rw [List.length_map, List.length_zip] at hl
    omega
theorem id_zip {X : Cx} {K : PySem.W.Frag} {e e2 : Expr} {tr : TA} {R : TAd} {p pos tpos : Pos} {elts : List Expr} {kk : Nat} (hK : X.K = K) (hg : Gl X "zip") (hm : X.mg "zip" = none) (ha : AD X [e, e2] tr R)
    (hs : starEach [e, e2] X.env = (false, eval e X.env) :: starEach [e2] X.env := by rfl) (hpl : (backTo pos (starEach [e2] X.env)).any (·.1) = false := by rfl) : ID X (.Tuple elts kk tpos) (.Call (.Name "zip" p) [e, e2] [] pos) (iZipG K tr) (IZip R) := by
  subst hK
  refine ⟨pi_zipG hg hm ha.pe hs hpl, fun F Hs M σ H ρ R Qd S k q => ha.se F Hs M σ H ρ _ _ S (fun vs H1 Hs1 ds M1 e1 S1 r1 q1 => ?_) q⟩
  split at q1
  · rename_i x y
    split at q1
    · rename_i xs ys ex ey
      cases r1 with
      | cons ra rr =>
        cases rr with
        | cons rb rr =>
          cases rr
          obtain ⟨k1, us, rfl, o1, s1⟩ := src_rep ra ex
          obtain ⟨k2, vs, rfl, o2, s2⟩ := src_rep rb ey
          refine ⟨k1, k2, us, vs, rfl, Sk.ok_ext S1.hs o1, Sk.ok_ext S1.hs o2, fun t1 t2 => ?_⟩
          exact k _ H1 Hs1 _ M1 e1 S1 (yl_zip (Sk.tk_ok.mpr o1) (Sk.tk_ok.mpr o2) s1 s2) q1
    · exact q1.elim
  · exact q1.elim
end DL

namespace DL
open PySem PySem.Spec PyProof.Rows L2 TL
/-! ## x[::-1] of a text, a list, a tuple -/
theorem rev_places (n : Nat) : Builtin.Slice.sliceAdjust none none (-1) (n : Int) = ((n : Int) - 1, -1) ∧ Builtin.Slice.slicePlaces ((n : Int) - 1) (-1) (-1) = n := by
  refine ⟨rfl, ?_⟩
  unfold Builtin.Slice.slicePlaces
  have h : ¬ ((-1 : Int) > 0) := by decide
  rw [if_neg h]
  by_cases h0 : n = 0
  · subst h0; rfl
  · rw [if_pos (by omega)]
    have : ((n : Int) - 1 - -1 - 1) / (- -1) = (n : Int) - 1 := by
      have e : (n : Int) - 1 - -1 - 1 = (n : Int) - 1 := by omega
      rw [e]
      exact Int.ediv_one _
    rw [this]
    omega
theorem rev_picked (xs : Array Value) : ((List.range xs.size).filterMap fun (k : Nat) => xs[(((xs.size : Nat) : Int) - 1 + (k : Int) * (-1)).toNat]?).toArray = xs.toList.reverse.toArray := by
  obtain ⟨l⟩ := xs
  congr 1
  have e : (fun (k : Nat) => (List.toArray l)[((((List.toArray l).size : Nat) : Int) - 1 + (k : Int) * (-1)).toNat]?) = fun (k : Nat) => (if k < l.length then l[l.length - 1 - k]? else l[((((List.toArray l).size : Nat) : Int) - 1 + (k : Int) * (-1)).toNat]?) := by
    funext k
    by_cases h : k < l.length
    · rw [if_pos h]
      have : ((((List.toArray l).size : Nat) : Int) - 1 + (k : Int) * (-1)).toNat = l.length - 1 - k := by
        rw [List.size_toArray]; omega
      rw [this]
      simp
    · rw [if_neg h]; simp
  rw [e]
  show (List.range l.length).filterMap _ = l.reverse
  apply List.ext_getElem?
  intro i
  have h1 : ∀ ks : List Nat, (∀ k ∈ ks, k < l.length) → ks.filterMap (fun k => if k < l.length then l[l.length - 1 - k]? else l[((((List.toArray l).size : Nat) : Int) - 1 + (k : Int) * (-1)).toNat]?) = ks.map fun k => l.getD (l.length - 1 - k) .none := by
    intro ks
    induction ks with
    | nil => intro _; rfl
    | cons k ks ih =>
      intro hk
      have hk1 := hk k List.mem_cons_self
      have hlt : l.length - 1 - k < l.length := by omega
      rw [List.filterMap_cons, if_pos hk1]
      have : l[l.length - 1 - k]? = some (l.getD (l.length - 1 - k) .none) := by simp [hlt]
      rw [this, List.map_cons, ih fun j hj => hk j (List.mem_cons_of_mem _ hj)]
  rw [h1 _ fun k hk => List.mem_range.mp hk]
  by_cases h : i < l.length
  · rw [List.getElem?_map, List.getElem?_range h, List.getElem?_reverse h]
    have hlt : l.length - 1 - i < l.length := by omega
    simp [hlt]
  · rw [List.getElem?_eq_none (by simpa using h), List.getElem?_eq_none (by simpa using h)]
section
variable {prog : Program} {w : World} {A : Around} {E : Value → Shared → Prop} {s : Shared}
theorem applied_rev {sl : Addr} {vs : Value} {n : Nat} {Q : Int × Int × Nat → Shared → Prop} (hs : s.heap.IsSliceOf sl .none .none vs) (ps : IsPart vs (some (-1))) (q : Q ((n : Int) - 1, -1, n) s) : wpAny (model prog w) A (Builtin.Slice.sliceApplied (.ref sl) (pure (n : Int))) Q E s := by
  obtain ⟨os, hos, hcs, hds⟩ := id hs
  unfold Builtin.Slice.sliceApplied Builtin.Slice.sliceFields
  refine wpAny_bind (wpAny_bind (wpAny_field hos hds (x := .none) rfl (wpAny_bind (wpAny_field hos hds (x := .none) rfl (wpAny_bind (wpAny_field hos hds (x := vs) rfl (wpAny_pure (wpAny_bind (HT.slicePart_ ps ?_)))))))))
  show wpAny _ _ (if ((-1 : Int) == 0) = true then _ else _) _ _ s
  rw [if_neg (show ¬ ((-1 : Int) == 0) = true by decide)]
  refine wpAny_bind (HT.slicePart_ .none (wpAny_bind (HT.slicePart_ .none (wpAny_bind (wpAny_pure ?_)))))
  obtain ⟨e1, e2⟩ := rev_places n
  show wpAny _ _ (match Builtin.Slice.sliceAdjust none none (-1) (n : Int) with | (a, b) => pure (a, (-1 : Int), Builtin.Slice.slicePlaces a b (-1))) _ _ s
  rw [e1]
  show wpAny _ _ (pure ((n : Int) - 1, (-1 : Int), Builtin.Slice.slicePlaces ((n : Int) - 1) (-1) (-1))) _ _ s
  rw [e2]
  exact wpAny_pure q
theorem getItem_tuple_rev {t sl : Addr} {items : Array Value} {vs : Value} {Q : Value → Shared → Prop} (ht : IsTup s.heap t items) (hs : s.heap.IsSliceOf sl .none .none vs) (ps : IsPart vs (some (-1)))
    (q : Q (.ref s.heap.objs.size) { s with heap := s.heap.push { cls := .type "tuple", data := .seq items.toList.reverse.toArray } }) (hsz : items.size ≤ sizeLine) : wpAny (model prog w) A (getItem (.ref t) (.ref sl)) Q E s := by
  have hok : sizeOk (.seq items.toList.reverse.toArray) := by
    show items.toList.reverse.toArray.size ≤ sizeLine
    rw [List.size_toArray, List.length_reverse, Array.length_toList]
    exact hsz
  have hTs : s.TypeIs (.ref sl) "slice" := by obtain ⟨os, hos, hcs, hds⟩ := id hs; exact ⟨os, hos, hcs⟩
  unfold getItem
  try with_reducible refine wpAny_holding ?_
  first | (refine wpAny_bind (wpAny_pure ?_); skip) | skip
  refine wpAny_bind (wpAny_sequenceKey ht.typeIs (by decide) (wpAny_bind (wpAny_callSpecial?_slot (name := Str.ofString "__getitem__") ht.typeIs PyProof.Rows.slot_tuple_getitem (wpAny_call_entry PyProof.Rows.slot_tuple_getitem ht.typeIs entry_tuple_getitem ?_ (args_tuple_getitem _ _)))))
  show wpAny _ _ (Builtin.Tuple.tupleItemsOf (.ref t) >>= _) _ _ _
  refine wpAny_bind (tupleItemsOf_ ht (wpAny_bind (wpAny_typeOf hTs ?_)))
  rw [if_pos (show (Value.type "slice" == Value.type "slice") = true by decide)]
  refine wpAny_bind (applied_rev hs ps ?_)
  have hno : ¬ ((((items.size : Nat) : Int) - 1 == 0 && (-1 : Int) == 1 && items.size == items.size) = true) := by simp
  show wpAny _ _ (if ((((items.size : Nat) : Int) - 1 == 0 && (-1 : Int) == 1 && items.size == items.size) = true) then _ else _) _ _ s
  rw [if_neg hno, rev_picked]
  first
    | (exact wpAny_bind (m := Builtin.Tuple.tupleExact _) (wpAny_newObj_type (wpAny_pure ⟨_, rfl, wpAny_pure q⟩) hok); skip)
    | (exact wpAny_bind (m := Builtin.Tuple.tupleExact _) (wpAny_newObj_type (wpAny_bind (wpAny_pure (wpAny_pure ⟨_, rfl, wpAny_pure q⟩))) hok); skip)
    | (exact wpAny_bind (wpAny_bind (m := Builtin.Tuple.tupleExact _) (wpAny_newObj_type (wpAny_pure (wpAny_pure ⟨_, rfl, wpAny_pure q⟩)) hok)); skip)
end
section
variable {X : Cx} {te : TE} {Te : TEd}
def tRevA (K : PySem.W.Frag) (te : TE) : TE := fun σ H Q => te σ H fun x H1 => (∃ z, x = .str z ∧ z.length ≤ sizeLine ∧ Q (.str (revZ z)) H1) ∨ (∃ a xs, x = .ref a ∧ SqL K H1 a xs ∧ ∀ p, H1 p = none → Q (.ref p) (upd H1 p (.lst xs.reverse))) ∨ (∃ a xs, x = .ref a ∧ SqT K H1 a xs ∧ ∀ p, H1 p = none → Q (.ref p) (upd H1 p (.tup xs.reverse)))
theorem pe_revA {e : Expr} {k : Nat} {p1 p2 p3 pos : Pos} (he : PE X e te) : PE X (.Subscript e (.Slice none none (some (.UnaryOp .USub (.Constant (.int 1) k p1) p2)) p3) pos) (tRevA X.K te) := by
  refine ⟨fun pins s σ H Q I h => Subscript_ (thn (he.run pins s σ H _ I h) fun v s1 ⟨x, H1, I1, r1, q1⟩ => ?_)⟩
  have hst : PO X (some (.UnaryOp .USub (.Constant (.int 1) k p1) p2)) (tPart (tUn (rU fun i => .int (-i)) (tC (.int 1)))) := po_some (pe_un un_neg pe_int)
  refine wpAny_Slice (thn (po_none.run pins s1 σ H1 (fun o H2 => o = none ∧ H2 = H1) I1 ⟨rfl, rfl⟩) fun vl s2 ⟨l, H2, I2, pl, el, e2⟩ => ?_)
  subst el e2
  refine thn (po_none.run pins s2 σ H2 (fun o H3 => o = none ∧ H3 = H2) I2 ⟨rfl, rfl⟩) fun vu s3 ⟨u, H3, I3, pu, eu, e3⟩ => ?_
  subst eu e3
  refine thn (hst.run pins s3 σ H3 (fun o H4 => o = some (-1) ∧ H4 = H3) I3 ⟨1, rfl, -1, rfl, rfl, rfl⟩) fun vs s4 ⟨o, H4, I4, ps, eo, e4⟩ => ?_
  subst eo e4
  have I5 : Inv X pins σ H4 { s4 with heap := s4.heap.push { cls := .type "slice", data := .fields #[vl, vu, vs] } } := I4.kept (t' := s4.toks) fun b ob q => Heap.get?_push_of_some _ q
  show wpAny (model X.prog X.w) X.A (subscriptTail e (.Slice none none (some (.UnaryOp .USub (.Constant (.int 1) k p1) p2)) p3) v (.ref s4.heap.objs.size)) (EP X pins σ Q) X.xe { s4 with heap := s4.heap.push { cls := .type "slice", data := .fields #[vl, vu, vs] } }
  rcases q1 with ⟨z, ex, hz, q⟩ | ⟨a, xs, ex, hx, q⟩ | ⟨a, xs, ex, hx, q⟩
  · subst ex
    obtain ⟨tz, rfl⟩ := r1
    refine tail_any (ops := [.str z tz, .ref s4.heap.objs.size]) (typeIs_str _ _ _) (F.slot_str_getitem.lookup) ?_ (by with_unfolding_all rfl)
    obtain ⟨l, rfl, hl⟩ := IsPart.raw pl
    obtain ⟨u, rfl, hu⟩ := IsPart.raw pu
    obtain ⟨st, rfl, hst'⟩ := IsPart.raw ps
    refine wpAny_getItem_str_slice (l := l) (u := u) (st := st) ⟨_, Heap.get?_push_size _ rfl, rfl, rfl⟩ (by rw [hst']; rfl) ?_
    have e1 : sliceMade z tz l u st = .str (revZ z) := by
      unfold sliceMade slicePicked
      rw [hl, hu, hst']
      show (if ((-1 : Int) == 1 && _) = true then _ else _) = _
      rw [if_neg (by simp)]
      show Made.str ⟨((Builtin.Str.strSliceIndices none none (-1) z.length).filterMap (z.cps[·]?)).toArray⟩ = _
      rw [revRange]
      have := revPick (tl z)
      unfold revZ mkS
      rw [← this]
      rfl
    rw [e1]
    refine ⟨?_, .str _, H4, I5.tok _, ⟨_, rfl⟩, q⟩
    rw [show (revZ z).length = z.length by rw [len_tl, len_tl, revZ, tl_mkS, List.length_reverse]]
    exact hz
  · subst ex
    cases r1
    obtain ⟨its, r, ht, hz⟩ := I5.list hx
    have hlen := r.length
    refine tail_any (ops := [.ref a, .ref s4.heap.objs.size]) ht.isList.typeIs (PySem.slot_list_getitem.lookup) ?_ (by with_unfolding_all rfl)
    refine wpAny_getItem_list_slice ht.isList (Heap.IsSliceOf.new _ vl vu vs) pl pu ps (by decide) ?_ (by rw [List.size_toArray]; omega)
    rw [PySem.W.krv_pick]
    exact ⟨.ref _, _, I5.laid (t' := s4.toks) (o := .lst xs.reverse) (fun b ob q => Heap.get?_push_of_some _ q) (Nat.le_refl _) ⟨by rw [List.length_reverse]; exact hz, _, 0, r.reverse, Heap.get?_push_size _ rfl⟩, rfl, q _ (I5.hok.fresh (Nat.le_refl _))⟩
  · subst ex
    cases r1
    obtain ⟨its, r, ht, hz⟩ := I5.tuple hx
    have hlen := r.length
    obtain rfl : vl = .none := by cases pl; rfl
    obtain rfl : vu = .none := by cases pu; rfl
    refine tail_any (ops := [.ref a, .ref s4.heap.objs.size]) ht.typeIs (PyProof.Rows.slot_tuple_getitem.lookup) ?_ (by with_unfolding_all rfl)
    refine getItem_tuple_rev ht (Heap.IsSliceOf.new _ _ _ vs) ps ?_ (by rw [List.size_toArray]; omega)
    exact ⟨.ref _, _, I5.laid (t' := s4.toks) (o := .tup xs.reverse) (fun b ob q => Heap.get?_push_of_some _ q) (Nat.le_refl _) ⟨by rw [List.length_reverse]; exact hz, _, r.reverse, ⟨_, Heap.get?_push_size _ rfl, rfl, _, rfl⟩⟩, rfl, q _ (I5.hok.fresh (Nat.le_refl _))⟩
def TRevA (Te : TEd) : TEd := fun ρ M Q => Te ρ M fun x M1 => match x with
  | .str z => Q (.str (revZ z)) M1
  | .lst ds => Q (.lst ds.reverse) M1
  | .tup ds => Q (.tup ds.reverse) M1
  | _ => False
theorem Reps.reverse {K : PySem.W.Frag} {H : Hp} : ∀ {vs : List V} {ds : List D}, Reps K H vs ds → Reps K H vs.reverse ds.reverse
  | _, _, .nil => .nil
  | _, _, .cons h t => by
    rw [List.reverse_cons, List.reverse_cons]
    exact (Reps.reverse t).append (.one h)
theorem ed_revA {K : PySem.W.Frag} {e : Expr} {k : Nat} {p1 p2 p3 pos : Pos} (hK : X.K = K) (he : ED X e te Te) : ED X (.Subscript e (.Slice none none (some (.UnaryOp .USub (.Constant (.int 1) k p1) p2)) p3) pos) (tRevA K te) (TRevA Te) := by
  subst hK
  refine ⟨pe_revA he.pe, fun F Hs M σ H ρ Q Qd S k q => he.se F Hs M σ H ρ _ _ S (fun x H1 Hs1 dx M1 e1 S1 r1 q1 => ?_) q⟩
  split at q1
  · cases r1 with
    | str _ hz => exact .inl ⟨_, rfl, by rw [line_eq]; exact okS_len hz, k _ H1 Hs1 _ M1 e1 S1 (.str _ (okS_revZ hz)) q1⟩
  · cases r1 with
    | lst h l r =>
      refine .inr (.inl ⟨_, _, rfl, SqL.of (S1.hs _ _ h), fun p np => ?_⟩)
      obtain ⟨S2, x2⟩ := S1.new np (.lst _)
      exact k _ _ _ _ M1 (e1.trans x2) S2 (.lst upd_same (by rw [List.length_reverse]; exact l) (r.reverse.mono x2)) q1
  · cases r1 with
    | tup h l r =>
      refine .inr (.inr ⟨_, _, rfl, sqT_ext S1.hs h, fun p np => ?_⟩)
      obtain ⟨S2, x2⟩ := S1.new np (.tup _)
      exact k _ _ _ _ M1 (e1.trans x2) S2 (.tup (.inl (.inl upd_same)) (by rw [List.length_reverse]; exact l) (r.reverse.mono x2)) q1
  · exact q1.elim
end
end DL

namespace DL
open PySem PySem.Spec PyProof.Rows L2 TL
theorem forD_sm {g : TGd} {b : TSd} {Dd : EndsD} {α : Type} (inj : α → D) (xs : List α) (I : List Sl → Prop) (ρ : List Sl) (M : Mem)
    (hS : ∀ a ∈ xs, ∀ ρ (Kn : List Sl → Mem → Prop), I ρ → (∀ ρ', I ρ' → Kn ρ' M) → g (inj a) ρ M fun ρ1 M1 => b ⟨Kn, Dd.rt, Dd.nx, Kn⟩ ρ1 M1)
    (i0 : I ρ) (hE : ∀ ρ, I ρ → Dd.nx ρ M) : forD g b (xs.map inj) Dd ρ M :=
  forD_inv inj xs (fun _ ρ M' => M' = M ∧ I ρ) ρ M (fun a r ρ M' Kn ⟨pre, e⟩ ⟨hM, i⟩ k => by
    subst hM
    exact hS a (by rw [e]; simp) ρ Kn i fun ρ' i' => k ρ' _ ⟨rfl, i'⟩) ⟨rfl, i0⟩ (fun ρ M' ⟨hM, i⟩ => by subst hM; exact hE ρ i)
/-- a loop that returns False at the first item at which p does not hold -/
theorem forD_all {g : TGd} {b : TSd} {Dd : EndsD} {α : Type} (inj : α → D) (p : α → Bool) (I : List Sl → Prop) (M : Mem) : ∀ (xs : List α) (ρ : List Sl),
    (∀ a ∈ xs, ∀ ρ (Kn : List Sl → Mem → Prop), I ρ → (p a = true → ∀ ρ', I ρ' → Kn ρ' M) → (p a = false → Dd.rt (.bl false) M) → g (inj a) ρ M fun ρ1 M1 => b ⟨Kn, Dd.rt, Dd.nx, Kn⟩ ρ1 M1) →
    I ρ → (xs.all p = true → ∀ ρ, I ρ → Dd.nx ρ M) → (xs.all p = false → Dd.rt (.bl false) M) → forD g b (xs.map inj) Dd ρ M
  | [], ρ, _, i0, hE, _ => hE rfl ρ i0
  | a :: r, ρ, hS, i0, hE, hF => by
    refine hS a List.mem_cons_self ρ _ i0 (fun hp ρ' i' => ?_) (fun hp => hF (by rw [List.all_cons, hp]; rfl))
    exact forD_all inj p I M r ρ' (fun a' ha => hS a' (List.mem_cons_of_mem _ ha)) i' (fun h => hE (by rw [List.all_cons, hp, h]; rfl)) (fun h => hF (by rw [List.all_cons, hp, h]; rfl))
theorem lc2D_m {α : Type} {g : TGd} {it1 : TId} {g1 : TGd} {c1 : TTd} {e : TEd} {vs1 : List Nat} {ρ : List Sl} {M : Mem} (inj : α → D) (f : α → List D) : ∀ (xs : List α) (Q : List D → Mem → Prop),
    (∀ a ∈ xs, ∀ (K1 : List D → Mem → Prop), K1 (f a) M → g (inj a) ρ M fun ρ2 M2 => it1 ρ2 M2 fun ds M4 => ds.length ≤ 4095 ∧ lcD g1 c1 e ds (wipeD (unown ρ2) vs1) M4 K1) →
    Q (xs.flatMap f) M → lc2D g TYes it1 g1 c1 e vs1 (xs.map inj) ρ M Q
  | [], Q, _, q => q
  | a :: r, Q, h, q => by
    refine h a List.mem_cons_self (fun ys M5 => lc2D g TYes it1 g1 c1 e vs1 (r.map inj) ρ M5 fun zs M6 => Q (ys ++ zs) M6) ?_
    exact lc2D_m inj f r _ (fun b hb => h b (List.mem_cons_of_mem _ hb)) q
end DL
namespace DL
open PySem PySem.Spec PyProof.Rows L2 TL
theorem cut1 {A R : TSd} {Dd : EndsD} {ρ : List Sl} {M : Mem} (J : List Sl → Mem → Prop) (h : ∀ nx : List Sl → Mem → Prop, (∀ ρ' M', J ρ' M' → nx ρ' M') → A { Dd with nx := nx } ρ M) (k : ∀ ρ' M', J ρ' M' → R Dd ρ' M') : TSeq A R Dd ρ M := h _ k
theorem cut2 {A B R : TSd} {Dd : EndsD} {ρ : List Sl} {M : Mem} (J : List Sl → Mem → Prop) (h : ∀ nx : List Sl → Mem → Prop, (∀ ρ' M', J ρ' M' → nx ρ' M') → TSeq A B { Dd with nx := nx } ρ M) (k : ∀ ρ' M', J ρ' M' → R Dd ρ' M') : TSeq A (TSeq B R) Dd ρ M := h _ k
theorem cut3 {A B C R : TSd} {Dd : EndsD} {ρ : List Sl} {M : Mem} (J : List Sl → Mem → Prop) (h : ∀ nx : List Sl → Mem → Prop, (∀ ρ' M', J ρ' M' → nx ρ' M') → TSeq A (TSeq B C) { Dd with nx := nx } ρ M) (k : ∀ ρ' M', J ρ' M' → R Dd ρ' M') : TSeq A (TSeq B (TSeq C R)) Dd ρ M := h _ k
theorem cut4 {A B C E R : TSd} {Dd : EndsD} {ρ : List Sl} {M : Mem} (J : List Sl → Mem → Prop) (h : ∀ nx : List Sl → Mem → Prop, (∀ ρ' M', J ρ' M' → nx ρ' M') → TSeq A (TSeq B (TSeq C E)) { Dd with nx := nx } ρ M) (k : ∀ ρ' M', J ρ' M' → R Dd ρ' M') : TSeq A (TSeq B (TSeq C (TSeq E R))) Dd ρ M := h _ k
theorem cut5 {A B C E G R : TSd} {Dd : EndsD} {ρ : List Sl} {M : Mem} (J : List Sl → Mem → Prop) (h : ∀ nx : List Sl → Mem → Prop, (∀ ρ' M', J ρ' M' → nx ρ' M') → TSeq A (TSeq B (TSeq C (TSeq E G))) { Dd with nx := nx } ρ M) (k : ∀ ρ' M', J ρ' M' → R Dd ρ' M') : TSeq A (TSeq B (TSeq C (TSeq E (TSeq G R)))) Dd ρ M := h _ k
end DL

namespace DL
open PySem PySem.Spec PyProof.Rows L2 TL
/-! ## bool + bool, {}, shifts, str of wide ints, loops that fold -/
section
variable {X : Cx} {K : PySem.W.Frag} {pos : Pos}
def bN (b : Bool) : Int := if b = true then 1 else 0
def rAddBB : R2 := fun x y H Q => ∃ a b, x = .bl a ∧ y = .bl b ∧ Q (.int (bN a + bN b)) H
theorem op_addBB : OpR X (binaryOp .Add) rAddBB := by
  intro pins s σ H x y v u Q I rx ry h
  obtain ⟨a, b, rfl, rfl, q⟩ := h
  cases rx
  cases ry
  exact PyProof.Rows.add_bool ⟨.int (bN a + bN b), H, I.tok _, ⟨_, rfl⟩, q⟩
def addBO : Op2 := fun x y k => match x, y with
  | .bl a, .bl b => k (.int (bN a + bN b))
  | _, _ => False
theorem sr_addBB : SemR K rAddBB addBO := fun F Hs M σ H ρ x y dx dy Q Qd S rx ry k q => by
  unfold addBO at q
  split at q
  · cases rx; cases ry
    exact ⟨_, _, rfl, rfl, k _ H Hs _ (Ext.refl _) S (.int _) q⟩
  · exact q.elim
def TDic0 : TEd := fun _ M Q => Q (.dct []) M
theorem ed_dic0 : ED X (.Dict [] [] pos) tDNewK TDic0 := ⟨pe_dnewK, fun F Hs M σ H ρ Q Qd S k q => fun p np => by
  obtain ⟨S2, x2⟩ := S.new np (.dK [])
  exact k _ _ _ _ M x2 S2 (.dct upd_same .nil) q⟩
def shlO : Op2 := i2 CPow fun i j => .int (i * 2 ^ j.toNat)
theorem sr_shl : SemR K (rI CPow fun i j => .int (i * 2 ^ j.toNat)) shlO := sr_i2 fun _ _ _ => .int _
/-- str of an int that may be wide -/
def strWO : OpC := fun ds k => match ds with
  | [.int i] => (0 ≤ i ∧ i.toNat < 10 ^ 500) ∧ k (.str (numS i.toNat))
  | _ => False
theorem log2_wide {i : Int} (h0 : 0 ≤ i) (h : i.toNat < 10 ^ 500) : i.natAbs.log2 < 1920 := by
  have e : i.natAbs = i.toNat := by omega
  rw [e]
  have : i.toNat < 2 ^ 1920 := Nat.lt_of_lt_of_le h (by decide +kernel)
  by_cases z : i.toNat = 0
  · rw [z]; decide
  · exact (Nat.log2_lt z).mpr this
theorem sc_strW : SemC K rStrI strWO := fun F Hs M σ H ρ xs ds Q Qd S r k q => by
  unfold strWO at q
  split at q
  · rename_i i
    obtain ⟨⟨h0, h1⟩, q⟩ := q
    cases r with
    | cons h t =>
      cases t; cases h
      refine ⟨_, rfl, log2_wide h0 h1, ?_⟩
      have e : (toString i : Str) = numS i.toNat := by
        unfold numS
        rw [Int.toNat_of_nonneg h0]
      rw [e]
      exact k _ H Hs _ (Ext.refl _) S (.str _ (okS_num (Nat.lt_of_lt_of_le h1 (Nat.pow_le_pow_right (by decide) (by decide))))) q
  · exact q.elim
end
theorem forD_fold {g : TGd} {b : TSd} {Dd : EndsD} {α β : Type} (inj : α → D) (st : β → List Sl → Prop) (f : β → α → β) (M : Mem) : ∀ (xs : List α) (b0 : β) (ρ : List Sl),
    (∀ a ∈ xs, ∀ b1 ρ (Kn : List Sl → Mem → Prop), st b1 ρ → (∀ ρ', st (f b1 a) ρ' → Kn ρ' M) → g (inj a) ρ M fun ρ1 M1 => b ⟨Kn, Dd.rt, Dd.nx, Kn⟩ ρ1 M1) →
    st b0 ρ → (∀ ρ, st (xs.foldl f b0) ρ → Dd.nx ρ M) → forD g b (xs.map inj) Dd ρ M
  | [], b0, ρ, _, i0, hE => hE ρ i0
  | a :: r, b0, ρ, hS, i0, hE => hS a List.mem_cons_self b0 ρ _ i0 fun ρ' i' => forD_fold inj st f M r (f b0 a) ρ' (fun a' ha => hS a' (List.mem_cons_of_mem _ ha)) i' hE
end DL

namespace DL
open PySem PySem.Spec PyProof.Rows L2 TL
/-! ## sorted of a list or tuple, by any order its items are compared by -/
section
variable {prog : Program} {w : World} {A : Around} {E : Value → Shared → Prop} {s : Shared}
theorem collect_at {l : Addr} {T : String} {o : Obj} {vs : List Value} {n : Nat} {Q : List Value → Shared → Prop} (hT : T = "list" ∨ T = "tuple") (ho : s.heap.get? l = some o) (hc : o.cls = .type T) (hd : o.data = .seq vs.toArray n)
    (q : Q vs { s with heap := (s.heap.push (seqObj "list" #[] 0)).update s.heap.objs.size (Obj.mapSeq (· ++ vs.toArray)) }) (hsz : vs.length ≤ sizeLine) : wpAny (model prog w) A (collect (.ref l)) Q E s := by
  unfold collect
  refine wpAny_bind (wpAny_runValue (codeAny_builtin entry_proto_collect' ?_))
  show wpAny _ _ (newList [] >>= fun z => again (.builtin "list.__iadd__" ⟨[z, .ref l], []⟩)) _ _ s
  refine wpAny_bind (wpAny_newList (wpAny_pure ⟨Code.quiet_builtin _ (by decide +kernel), codeAny_builtin entry_list_iadd' ?_⟩))
  show wpAny _ _ (Builtin.List.listExtendWith (.ref s.heap.objs.size) (.ref l) (.ref s.heap.objs.size)) _ _ { s with heap := (s.heap.push (seqObj "list" #[] 0)) }
  have ho' : (s.heap.push (seqObj "list" #[] 0)).get? l = some o := Heap.get?_push_of_some _ ho
  have hn : (s.heap.push (seqObj "list" #[] 0)).get? s.heap.objs.size = some (seqObj "list" #[] 0) := Heap.get?_push_size _ rfl
  unfold Builtin.List.listExtendWith; try skip
  refine wpAny_bind (wpAny_typeOf (T := T) ⟨o, ho', hc⟩ ?_)
  have ht : (Value.type T == Value.type "list" || Value.type T == Value.type "tuple") = true := by
    rcases hT with e | e
    · rw [e]; decide
    · rw [e]; decide
  rw [if_pos (by rcases hT with e | e <;> (rw [e]; simp))]
  refine wpAny_bind (listItems_at ho' hd (wpAny_bind (listItems_at (xs := #[]) (n := 0) hn rfl ?_)))
  rw [if_neg (by simp)]
  refine wpAny_bind (listUpdate_at (xs := #[]) (n := 0) hn rfl (wpAny_pure ?_) (Nat.zero_le _) (by show (#[] ++ vs.toArray).size ≤ sizeLine + 1; simp only [Array.size_append, List.size_toArray, List.length_nil]; omega))
  show wpAny (model prog w) A (load s.heap.objs.size >>= fun o => match o.data with | .seq xs _ => pure xs.toList | _ => unsupported "internal:collect") Q E { s with heap := (s.heap.push (seqObj "list" #[] 0)).update s.heap.objs.size (Obj.mapSeq (· ++ vs.toArray)) }
  refine wpAny_bind (wpAny_load (get?_update_seq hn _) ?_)
  show wpAny _ _ (pure (((#[] : Array Value) ++ vs.toArray).toList)) Q E _
  have e : ((#[] : Array Value) ++ vs.toArray).toList = vs := by simp
  rw [e]
  exact wpAny_pure q
theorem sorted_seq {l : Addr} {T : String} {o : Obj} {vs : List Value} {n : Nat} {ltv : Value → Value → Bool} {Q : Value → Shared → Prop} (O : SrtO.Swo ltv) (hT : T = "list" ∨ T = "tuple") (ho : s.heap.get? l = some o) (hc : o.cls = .type T) (hd : o.data = .seq vs.toArray n) (hz : vs.length ≤ sizeLine)
    (hS : 2 ≤ vs.length → ∀ (h₁ : Heap) (a : Addr), h₁.get? a = some (seqObj "list" vs.toArray 0) → (∀ b o, s.heap.get? b = some o → b ≠ a ∧ h₁.get? b = some o) → SrtO.SortableO prog w A.in1.in1 { s with heap := h₁ } a vs ltv)
    (q : ∀ (out : List Value) (h' : Heap) (d : Addr), SrtO.Srtd ltv out → SrtO.Stb ltv out vs → (∀ b o, s.heap.get? b = some o → h'.get? b = some o) → s.heap.objs.size ≤ d → (∃ m, h'.get? d = some (seqObj "list" out.toArray m)) → Q (.ref d) { s with heap := h' }) :
    wpAny (model prog w) A (call (.builtin "sorted") [.ref l]) Q E s := by
  refine Calls.call_function_entry kind_sorted plain_sorted entry_sorted (args_sorted1 _) ?_
  unfold Builtin.«sorted»
  refine wpAny_bind (m := checkCount "sorted" 1 1 _) (wpAny_pure (wpAny_bind (collect_at hT ho hc hd ?_ hz)))
  have k1 : ∀ b o', s.heap.get? b = some o' → ((s.heap.push (seqObj "list" #[] 0)).update s.heap.objs.size (Obj.mapSeq (· ++ vs.toArray))).get? b = some o' := fun b o' e => by
    rw [Heap.get?_update_ne _ _ _ _ (Nat.ne_of_lt (Heap.lt_size e))]
    exact Heap.get?_push_of_some _ e
  have sz1 : ((s.heap.push (seqObj "list" #[] 0)).update s.heap.objs.size (Obj.mapSeq (· ++ vs.toArray))).objs.size = s.heap.objs.size + 1 := by rw [Heap.size_update, Heap.size_push]
  generalize ((s.heap.push (seqObj "list" #[] 0)).update s.heap.objs.size (Obj.mapSeq (· ++ vs.toArray))) = h1 at k1 sz1
  refine wpAny_bind (wpAny_newList (items := vs) (s := { s with heap := h1 }) ?_ hz)
  have g1 : (h1.push (seqObj "list" vs.toArray 0)).get? h1.objs.size = some (seqObj "list" vs.toArray 0) := Heap.get?_push_size _ rfl
  have lt1 : ∀ b o', s.heap.get? b = some o' → b < h1.objs.size := fun b o' e => Heap.lt_size (k1 b o' e)
  have k2 : ∀ b o', s.heap.get? b = some o' → b ≠ h1.objs.size ∧ (h1.push (seqObj "list" vs.toArray 0)).get? b = some o' := fun b o' e => ⟨Nat.ne_of_lt (lt1 b o' e), Heap.get?_push_of_some _ (k1 b o' e)⟩
  refine wpAny_bind (wpAny_holding (wpAny_call_entry slot_list_sort ⟨_, g1, rfl⟩ entry_list_sort (SrtO.list_sort_ord O g1 hz (fun h2 => hS h2 _ _ g1 k2) fun out hs hb => ⟨_, rfl, wpAny_pure ⟨_, rfl, ?_⟩⟩) (args_list_sort _)))
  refine q out _ _ hs hb (fun b o' e => ?_) ?_ (sortedHeap_at g1)
  · obtain ⟨n1, e2⟩ := k2 b o' e
    rw [sortedHeap_old n1 (Heap.lt_size e2)]
    exact e2
  · rw [sz1]; exact Nat.le_succ _
/-- texts -/
def sv : Value → Str
  | .str x _ => x
  | _ => Str.empty
def ltSv (v u : Value) : Bool := decide (tl (sv v) < tl (sv u))
theorem swo_list : ∀ a b c : List Nat, (decide (a < b) = true → decide (b < a) = false) ∧ (decide (b < a) = false → decide (c < b) = false → decide (c < a) = false) := fun a b c => by
  refine ⟨fun h => ?_, fun h1 h2 => ?_⟩
  · exact decide_eq_false (List.lt_asymm (of_decide_eq_true h))
  · have h1' : ¬ b < a := of_decide_eq_false h1
    have h2' : ¬ c < b := of_decide_eq_false h2
    exact decide_eq_false fun h3 => by
      have e1 : a ≤ b := List.not_lt.mp h1'
      have e2 : b ≤ c := List.not_lt.mp h2'
      exact (List.not_lt.mpr (List.le_trans e1 e2)) h3
theorem swo_str : SrtO.Swo ltSv := ⟨fun x y => (swo_list _ _ (tl (sv x))).1, fun x y z => (swo_list _ _ _).2⟩
theorem strs_sortable {a : Addr} {vs : List Value} {ss : List Str} (hI : StrsAre vs ss) (h2 : 2 ≤ vs.length) (hm : ∀ v ∈ vs, ∃ x t, v = Value.str x t) : SrtO.SortableO prog w A s a vs ltSv := by
  intro h' _
  refine ⟨oneType', fun Q E hq => ?_, fun p q hp hq => ?_⟩
  · match vs, hI, h2 with
    | v1 :: v2 :: rest, hI, _ =>
      rw [keyKind_strs hI]
      exact wpAny_pure hq
    | [], _, h => exact absurd h (by decide)
    | [v], _, h => exact absurd h (by simp)
  · obtain ⟨x, t, e⟩ := hm _ hp
    obtain ⟨y, u, e'⟩ := hm _ hq
    show wpAny (model prog w) A (keyLt' oneType' p.1 q.1) (fun r s' => s' = { s with heap := h' } ∧ r = ltSv p.1 q.1) (fun _ _ => False) { s with heap := h' }
    rw [e, e']
    rw [keyLt'_oneType]
    exact oneLt_str ⟨rfl, rfl⟩
/-- (int, int, text) -/
def IsTri (h : Heap) (v : Value) (k : Int × Int × Str) : Prop := ∃ (a : Addr) (o : Obj) (t u r : Tok) (n : Nat), v = .ref a ∧ h.get? a = some o ∧ o.cls = .type "tuple" ∧ o.data = .seq #[.int k.1 t, .int k.2.1 u, .str k.2.2 r] n
def lt3 (p q : Int × Int × Str) : Bool := if p.1 = q.1 then (if p.2.1 = q.2.1 then decide (tl p.2.2 < tl q.2.2) else decide (p.2.1 < q.2.1)) else decide (p.1 < q.1)
theorem swo_tri (k : Value → Int × Int × Str) : SrtO.Swo fun v u => lt3 (k v) (k u) := by
  have key : ∀ a b c : Int × Int × Str, (lt3 a b = true → lt3 b a = false) ∧ (lt3 b a = false → lt3 c b = false → lt3 c a = false) := by
    rintro ⟨a1, a2, a3⟩ ⟨b1, b2, b3⟩ ⟨c1, c2, c3⟩
    have ss := swo_list (tl a3) (tl b3) (tl c3)
    unfold lt3
    dsimp only
    constructor
    · intro h
      by_cases e1 : a1 = b1
      · subst e1
        rw [if_pos rfl] at h ⊢
        by_cases e2 : a2 = b2
        · subst e2
          rw [if_pos rfl] at h ⊢
          exact ss.1 h
        · rw [if_neg e2] at h
          rw [if_neg (fun z => e2 z.symm)]
          have := of_decide_eq_true h
          exact decide_eq_false (by omega)
      · rw [if_neg e1] at h
        rw [if_neg (fun z => e1 z.symm)]
        have := of_decide_eq_true h
        exact decide_eq_false (by omega)
    · intro h1 h2
      by_cases e1 : c1 = a1
      · subst e1
        rw [if_pos rfl]
        by_cases e0 : b1 = c1
        · subst e0
          rw [if_pos rfl] at h1 h2
          by_cases e2 : c2 = a2
          · subst e2
            rw [if_pos rfl]
            by_cases e3 : b2 = c2
            · subst e3
              rw [if_pos rfl] at h1 h2
              exact ss.2 h1 h2
            · rw [if_neg e3] at h1
              rw [if_neg (fun z => e3 z.symm)] at h2
              have := of_decide_eq_false h1
              have := of_decide_eq_false h2
              omega
          · rw [if_neg e2]
            by_cases e3 : b2 = a2
            · subst e3
              rw [if_neg e2] at h2
              exact h2
            · rw [if_neg e3] at h1
              have q1 := of_decide_eq_false h1
              by_cases e4 : c2 = b2
              · exact decide_eq_false (by omega)
              · rw [if_neg e4] at h2
                have q2 := of_decide_eq_false h2
                exact decide_eq_false (by omega)
        · rw [if_neg e0] at h1
          rw [if_neg (fun z => e0 z.symm)] at h2
          have := of_decide_eq_false h1
          have := of_decide_eq_false h2
          omega
      · rw [if_neg e1]
        by_cases e3 : b1 = a1
        · subst e3
          rw [if_neg e1] at h2
          exact h2
        · rw [if_neg e3] at h1
          have q1 := of_decide_eq_false h1
          by_cases e4 : c1 = b1
          · exact decide_eq_false (by omega)
          · rw [if_neg e4] at h2
            have q2 := of_decide_eq_false h2
            exact decide_eq_false (by omega)
  exact ⟨fun x y => (key (k x) (k y) (k x)).1, fun x y z => (key (k x) (k y) (k z)).2⟩
theorem tri_firsts {h : Heap} {k : Value → Int × Int × Str} : ∀ {vs : List Value}, (∀ v ∈ vs, IsTri h v (k v)) → ∃ fs, PySem.W.KatTups h vs fs ∧ fs.length = vs.length ∧ ∀ f ∈ fs, ∃ x t, f = Value.int x t
  | [], _ => ⟨[], trivial, rfl, fun f hf => nomatch hf⟩
  | v :: vs, hp => by
    obtain ⟨fs, h1, h2, h3⟩ := tri_firsts (vs := vs) fun u hu => hp u (List.mem_cons_of_mem _ hu)
    obtain ⟨a, o, t, u, r, n, e, ho, hc, hd⟩ := hp v List.mem_cons_self
    subst e
    refine ⟨.int (k (.ref a)).1 t :: fs, ?_, by simp [h2], fun f hf => ?_⟩
    · exact PySem.W.KatTups.cons ho hc hd (by simp) h1
    · rcases List.mem_cons.mp hf with e | hf
      · exact ⟨_, _, e⟩
      · exact h3 f hf
theorem tri_cmp {vs : List Value} {k : Value → Int × Int × Str} (hp : ∀ v ∈ vs, IsTri s.heap v (k v)) : SrtO.Cmp prog w A s (tuples' true) (fun p => p.1 ∈ vs) (SrtO.lt2 fun v u => lt3 (k v) (k u)) := by
  intro p q hm hm'
  have h1 := hp _ hm
  have h2 := hp _ hm'
  show wpAny (model prog w) A (keyLt' (tuples' true) p.1 q.1) (fun r s' => s' = s ∧ r = lt3 (k p.1) (k q.1)) (fun _ _ => False) s
  generalize k p.1 = x at h1 ⊢
  generalize k q.1 = y at h2 ⊢
  obtain ⟨x1, x2, x3⟩ := x
  obtain ⟨y1, y2, y3⟩ := y
  obtain ⟨a, o, t, u, r, n, e, ho, hc, hd⟩ := h1
  obtain ⟨a', o', t', u', r', n', e', ho', hc', hd'⟩ := h2
  rw [e, e']
  unfold lt3
  dsimp only at hd hd' ⊢
  refine PySem.W.kat_lt ho hd ho' hd' ?_
  show PySem.W.KatLex prog w A true (decide (3 < 3)) _ [(.int x1 t, .int y1 t'), (.int x2 u, .int y2 u'), (.str x3 r, .str y3 r')] 0 s
  refine PySem.W.kat_cons (SeqAt.EqAt.int_int x1 t y1 t' prog w _ _ (PySem.W.kat_go (fun e1 => ?_) (fun e1 => ?_)))
  · have ex : x1 = y1 := by simpa using e1
    rw [if_pos ex]
    refine PySem.W.kat_yes (PySem.W.kat_cons (SeqAt.EqAt.int_int x2 u y2 u' prog w _ _ (PySem.W.kat_go (fun e2 => ?_) (fun e2 => ?_))))
    · have ey : x2 = y2 := by simpa using e2
      rw [if_pos ey]
      refine PySem.W.kat_yes (PySem.W.kat_cons (SeqAt.EqAt.str_str x3 r y3 r' prog w _ _ (PySem.W.kat_go (fun e3 => ?_) (fun e3 => ?_))))
      · have ez : x3 = y3 := by simpa using e3
        refine PySem.W.kat_yes (PySem.W.kat_nil ⟨rfl, ?_⟩)
        rw [ez]
        show false = decide (tl y3 < tl y3)
        exact (decide_eq_false (List.lt_irrefl _)).symm
      · exact PySem.W.kat_no (PySem.W.kat_one _ _ (PyProof.Rows.lt_str (show s = s ∧ _ from ⟨rfl, rfl⟩)))
    · have ey : ¬ x2 = y2 := by simpa using e2
      rw [if_neg ey]
      exact PySem.W.kat_no (PySem.W.kat_one _ _ (PyProof.Rows.lt_int (show s = s ∧ _ from ⟨rfl, rfl⟩)))
  · have ex : ¬ x1 = y1 := by simpa using e1
    rw [if_neg ex]
    exact PySem.W.kat_no (oneLt_int ⟨rfl, rfl⟩)
theorem tri_sortable {a : Addr} {vs : List Value} {k : Value → Int × Int × Str} (h0 : 0 < vs.length) (hp : ∀ v ∈ vs, IsTri s.heap v (k v)) (ha : ∀ o, s.heap.get? a = some o → o.cls ≠ .type "tuple") : SrtO.SortableO prog w A s a vs fun v u => lt3 (k v) (k u) := by
  intro h' keep
  have hp' : ∀ v ∈ vs, IsTri h' v (k v) := fun v hm => by
    obtain ⟨b, o, t, u, r, n, e, ho, hc, hd⟩ := hp v hm
    exact ⟨b, o, t, u, r, n, e, keep b o (fun z => by subst z; exact ha o ho hc) ho, hc, hd⟩
  obtain ⟨fs, h1, h2, h3⟩ := tri_firsts hp'
  refine ⟨tuples' true, fun Q E hq => ?_, tri_cmp hp'⟩
  refine PySem.W.kat_kind (T := .type "int") h1 (by omega) (fun f hm => ?_) (by rfl) ?_
  · obtain ⟨x, t, rfl⟩ := h3 f hm
    exact PySem.W.Looks.now
  · rw [show (Value.type "int" != Value.type "tuple") = true by decide]
    exact hq
end
theorem vals_perm {xs : List V} {its out : List Value} (r : Vals xs its) (p : out.Perm its) : ∃ ys : List V, ys.Perm xs ∧ Vals ys out := by
  have : ∀ {a b : List Value}, a.Perm b → ∀ xs : List V, Vals xs b → ∃ ys : List V, ys.Perm xs ∧ Vals ys a := by
    intro a b p
    induction p with
    | nil => intro xs r; exact ⟨xs, .refl _, r⟩
    | cons v _ ih =>
      intro xs r
      cases r with
      | cons h t =>
        obtain ⟨ys, q1, q2⟩ := ih _ t
        exact ⟨_ :: ys, q1.cons _, .cons h q2⟩
    | swap v u l =>
      intro xs r
      cases r with
      | cons h t =>
        cases t with
        | cons h2 t => exact ⟨_, .swap _ _ _, .cons h2 (.cons h t)⟩
    | trans _ _ ih1 ih2 =>
      intro xs r
      obtain ⟨ys, q1, q2⟩ := ih2 _ r
      obtain ⟨zs, q3, q4⟩ := ih1 _ q2
      exact ⟨zs, q3.trans q1, q4⟩
  exact this p xs r
theorem reps_perm {K : PySem.W.Frag} {H : Hp} {xs ys : List V} {ds : List D} (r : Reps K H xs ds) (p : ys.Perm xs) : ∃ es : List D, es.Perm ds ∧ Reps K H ys es := by
  have : ∀ {a b : List V}, a.Perm b → ∀ ds : List D, Reps K H b ds → ∃ es : List D, es.Perm ds ∧ Reps K H a es := by
    intro a b p
    induction p with
    | nil => intro xs r; exact ⟨xs, .refl _, r⟩
    | cons v _ ih =>
      intro xs r
      cases r with
      | cons h t =>
        obtain ⟨ys, q1, q2⟩ := ih _ t
        exact ⟨_ :: ys, q1.cons _, .cons h q2⟩
    | swap v u l =>
      intro xs r
      cases r with
      | cons h t =>
        cases t with
        | cons h2 t => exact ⟨_, .swap _ _ _, .cons h2 (.cons h t)⟩
    | trans _ _ ih1 ih2 =>
      intro xs r
      obtain ⟨ys, q1, q2⟩ := ih2 _ r
      obtain ⟨zs, q3, q4⟩ := ih1 _ q2
      exact ⟨zs, q3.trans q1, q4⟩
  exact this p ds r
/-- sorted(xs): texts, or triples -/
def rSorted3 (K : PySem.W.Frag) : List V → Hp → VK → Prop := fun vs H Q => ∃ (a : Addr) (xs : List V), vs = [V.ref a] ∧ (SqL K H a xs ∨ SqT K H a xs) ∧ ((∀ x ∈ xs, ∃ z, x = V.str z) ∨ ∀ x ∈ xs, ∃ (t : Addr) (i j : Int) (z : Str), x = V.ref t ∧ SqT K H t [.int i, .int j, .str z]) ∧
  ∀ (ys : List V) (p : Addr), ys.Perm xs → H p = none → Q (.ref p) (upd H p (.lst ys))
theorem cr_sorted3 {X : Cx} : CallR X (.builtin "sorted") (rSorted3 X.K) := by
  intro pins s σ H vs us Q I r h
  obtain ⟨a, xs, rfl, hs, hk, q⟩ := h
  rw [Vals.ref1 r]
  have sq : ∃ (its : List Value) (T : String) (o : Obj) (n : Nat), Vals xs its ∧ (T = "list" ∨ T = "tuple") ∧ s.heap.get? a = some o ∧ o.cls = .type T ∧ o.data = .seq its.toArray n ∧ xs.length ≤ sizeLine := by
    rcases hs with hs | hs
    · obtain ⟨its, rv, hl, hz⟩ := I.list hs
      obtain ⟨o, ho, hc, n, hd⟩ := hl.isList
      exact ⟨its, "list", o, _, rv, .inl rfl, ho, hc, hd, hz⟩
    · obtain ⟨its, rv, ⟨o, ho, hc, n, hd⟩, hz⟩ := I.tuple hs
      exact ⟨its, "tuple", o, n, rv, .inr rfl, ho, hc, hd, hz⟩
  obtain ⟨its, T, o, n, rv, hT, ho, hc, hd, hz⟩ := sq
  have hl := rv.length
  have fin : ∀ {ltv : Value → Value → Bool} (out : List Value) (h' : Heap) (d : Addr), SrtO.Srtd ltv out → SrtO.Stb ltv out its → (∀ b o, s.heap.get? b = some o → h'.get? b = some o) → s.heap.objs.size ≤ d → (∃ m, h'.get? d = some (seqObj "list" out.toArray m)) → EP X pins σ Q (.ref d) { s with heap := h' } := fun {ltv} out h' d _ hb k1 k2 ⟨m, k3⟩ => by
    obtain ⟨ys, p1, p2⟩ := vals_perm rv hb.perm
    exact ⟨.ref d, upd H d (.lst ys), I.laid (t' := s.toks) k1 k2 ⟨by rw [p1.length_eq]; exact hz, out, m, p2, k3⟩, rfl, q ys d p1 (I.hok.fresh k2)⟩
  rcases hk with hk | hk
  · have hm : ∀ v ∈ its, ∃ x t, v = Value.str x t := fun v hv => by
      obtain ⟨j, hj, e⟩ := List.mem_iff_getElem.mp hv
      obtain ⟨x, ex, rx⟩ := vals_at rv (j := j) (u := v) (by rw [List.getElem?_eq_getElem hj, e])
      obtain ⟨z, rfl⟩ := hk x (List.mem_of_getElem? ex)
      obtain ⟨t, rfl⟩ := rx
      exact ⟨z, t, rfl⟩
    have hsa : ∃ ss, StrsAre its ss := by
      clear rv hd fin hl
      induction its with
      | nil => exact ⟨[], .nil⟩
      | cons v r ih =>
        obtain ⟨x, t, rfl⟩ := hm v List.mem_cons_self
        obtain ⟨ss, e⟩ := ih fun u hu => hm u (List.mem_cons_of_mem _ hu)
        exact ⟨x :: ss, .cons x t e⟩
    obtain ⟨ss, hsa⟩ := hsa
    exact sorted_seq swo_str hT ho hc hd (by rw [← hl]; exact hz) (fun h2 h₁ a' _ _ => strs_sortable hsa h2 hm) fin
  · have hm : ∀ v, ∃ k : Int × Int × Str, v ∈ its → IsTri s.heap v k := fun v => by
      by_cases hv : v ∈ its
      · obtain ⟨j, hj, e⟩ := List.mem_iff_getElem.mp hv
        obtain ⟨x, ex, rx⟩ := vals_at rv (j := j) (u := v) (by rw [List.getElem?_eq_getElem hj, e])
        obtain ⟨t, i, j, z, rfl, ht⟩ := hk x (List.mem_of_getElem? ex)
        obtain rfl : v = Value.ref t := rx
        obtain ⟨it2, r2, ⟨o2, ho2, hc2, n2, hd2⟩, _⟩ := I.tuple ht
        cases r2 with
        | cons ra r2 =>
          cases r2 with
          | cons rb r2 =>
            cases r2 with
            | cons rc r2 =>
              cases r2
              obtain ⟨t1, rfl⟩ := ra
              obtain ⟨t2, rfl⟩ := rb
              obtain ⟨t3, rfl⟩ := rc
              exact ⟨(i, j, z), fun _ => ⟨t, o2, t1, t2, t3, n2, rfl, ho2, hc2, hd2⟩⟩
      · exact ⟨(0, 0, Str.empty), fun h => absurd h hv⟩
    obtain ⟨k, hk'⟩ := Classical.axiomOfChoice hm
    refine sorted_seq (swo_tri k) hT ho hc hd (by rw [← hl]; exact hz) (fun h2 h₁ a' ha kk => ?_) fin
    refine tri_sortable (s := { s with heap := h₁ }) (by omega) (fun v hv => ?_) fun o' e => ?_
    · obtain ⟨b, o', t, u, r, n, e, ho', hc', hd'⟩ := hk' v hv
      exact ⟨b, o', t, u, r, n, e, (kk b o' ho').2, hc', hd'⟩
    · have e' : some o' = some (seqObj "list" its.toArray 0) := e.symm.trans ha
      cases e'
      intro c
      exact absurd (Value.type.inj c) (by decide)
theorem k_sorted (K : PySem.W.Frag) {X : Cx} (hK : X.K = K) : CallR X (.builtin "sorted") (rSorted3 K) := hK ▸ cr_sorted3
def isTriD : D → Bool
  | .tup [.int _, .int _, .str _] => true
  | _ => false
def seqD : D → Option (List D)
  | .lst ds => some ds
  | .tup ds => some ds
  | _ => none
def sortedO : OpC := fun ds k => match ds with
  | [x] => match seqD x with
    | some xs => ((∀ d ∈ xs, ∃ z, d = .str z) ∨ ∀ d ∈ xs, isTriD d = true) ∧ ∀ ys : List D, ys.Perm xs → k (.lst ys)
    | none => False
  | _ => False
theorem rep_tri {K : PySem.W.Frag} {H : Hp} {v : V} {d : D} (r : Rep K H v d) (h : isTriD d = true) : ∃ (t : Addr) (i j : Int) (z : Str), v = V.ref t ∧ SqT K H t [.int i, .int j, .str z] := by
  unfold isTriD at h
  split at h
  · cases r with
    | tup h1 _ r =>
      cases r with
      | cons a r =>
        cases r with
        | cons b r =>
          cases r with
          | cons c r =>
            cases r
            cases a; cases b; cases c
            exact ⟨_, _, _, _, rfl, h1⟩
  · cases h
theorem sc_sorted {K : PySem.W.Frag} : SemC K (rSorted3 K) sortedO := fun F Hs M σ H ρ xs ds Q Qd S r k q => by
  unfold sortedO at q
  split at q
  · rename_i x
    split at q
    · rename_i es e
      obtain ⟨hk, q⟩ := q
      cases r with
      | @cons hv _ _ _ h t =>
        cases t
        have sq : ∃ (a : Addr) (vs : List V), hv = V.ref a ∧ (SqL K H a vs ∨ SqT K H a vs) ∧ Reps K Hs vs es ∧ vs.length ≤ 16777216 := by
          cases h with
          | lst h l r => cases e; exact ⟨_, _, rfl, .inl (SqL.of (S.hs _ _ h)), r, l⟩
          | tup h l r => cases e; exact ⟨_, _, rfl, .inr (sqT_ext S.hs h), r, l⟩
          | _ => cases e
        obtain ⟨a, vs, rfl, hs, rr, hl⟩ := sq
        refine ⟨a, vs, rfl, hs, ?_, fun ys p hp np => ?_⟩
        · rcases hk with hk | hk
          · refine .inl fun x hx => ?_
            obtain ⟨j, hj, e2⟩ := List.mem_iff_getElem.mp hx
            obtain ⟨d, ed, rd⟩ := rr.get' (i := j) (v := x) (by rw [List.getElem?_eq_getElem hj, e2])
            obtain ⟨z, rfl⟩ := hk d (List.mem_of_getElem? ed)
            cases rd
            exact ⟨_, rfl⟩
          · refine .inr fun x hx => ?_
            obtain ⟨j, hj, e2⟩ := List.mem_iff_getElem.mp hx
            obtain ⟨d, ed, rd⟩ := rr.get' (i := j) (v := x) (by rw [List.getElem?_eq_getElem hj, e2])
            exact rep_tri (rd.mono S.hs) (hk d (List.mem_of_getElem? ed))
        · obtain ⟨es', q1, q2⟩ := reps_perm rr hp
          obtain ⟨S2, x2⟩ := S.new np (.lst ys)
          exact k _ _ _ _ x2 S2 (.lst upd_same (by rw [hp.length_eq]; exact hl) (q2.mono x2)) (q es' q1)
    · exact q.elim
  · exact q.elim
end DL

namespace DL
open PySem PySem.Spec PyProof.Rows L2 TL
/-! ## a sum of lists is a new list -/
def TCatF (Ta Tb : TEd) : TAd := fun ρ M Q => Ta ρ M fun x M1 => Tb ρ M1 fun y M2 => match x, y with
  | .lst a, .lst b => a.length + b.length ≤ 16777216 ∧ Q (a ++ b) M2
  | _, _ => False
theorem fd_cat {X : Cx} {pos : Pos} {ta tb : TE} {Ta Tb : TEd} {a b : Expr} (ha : ED X a ta Ta) (hb : ED X b tb Tb) : FD X (.BinOp a .Add b pos) (tOp rCat ta tb) (TCatF Ta Tb) := by
  refine ⟨pe_op op_cat ha.pe hb.pe, fun F Hs M σ H ρ Q Qd S k q => ?_⟩
  refine ha.se F Hs M σ H ρ _ _ S (fun x H1 Hs1 dx M1 e1 S1 r1 q1 => ?_) q
  refine hb.se F Hs1 M1 σ H1 ρ _ _ S1 (fun y H2 Hs2 dy M2 e2 S2 r2 q2 => ?_) q1
  split at q2
  · obtain ⟨hl, q2⟩ := q2
    cases r1 with
    | lst h1 l1 r1 =>
      cases r2 with
      | lst h2 l2 r2 =>
        have z1 := r1.length
        have z2 := r2.length
        refine ⟨_, _, _, _, rfl, rfl, S2.hs _ _ (e2 _ _ h1), S2.hs _ _ h2, by rw [line_eq]; omega, fun p np => ?_⟩
        obtain ⟨n1, n2, n3⟩ := S2.fresh np
        exact k p _ _ Hs2 _ M2 (e1.trans e2) (S2.alloc np _) upd_same (by rw [List.length_append]; omega) ((r1.mono e2).append r2) n1 n2 n3 (own_ne S2 np) q2
  · exact q2.elim
end DL

namespace DL
open PySem PySem.Spec PyProof.Rows L2 TL
/-! ## the checker's small functions: what they compute -/
def WAYSZ : List Str := ["00", "01", "10", "11"]
def WAYSD : List D := WAYSZ.map D.str
def SIZESD : List (Str × D) := [("keeps", .int 3), ("lacks", .int 3), ("fewest", .int 4), ("column", .int 5), ("room", .int 4), ("faults", .int 4), ("enough", .int 4)]
def lstS (xs : List Str) : D := .lst (xs.map D.str)
def tupS (xs : List Str) : D := .tup (xs.map D.str)
-- is_integer
def sp_is_integer : SpD := fun ds M Q => ∃ d, ds = [d] ∧ kok d = true ∧ Q (.bl (isInt d)) M
def T_is_integer : TSd := TRet (TAndV (TCB isiO (TCons (TVar 0) (TCons (TC (.ty "int")) (TNil)))) (TNotV (TCB isiO (TCons (TVar 0) (TCons (TC (.ty "bool")) (TNil))))))
theorem len_is_integer : ∀ ds M Q, sp_is_integer ds M Q → ds.length = 1 := fun _ _ _ ⟨_, e, _⟩ => by rw [e]; rfl
theorem body_is_integer : ∀ (ds : List D) (M : Mem) (Q : D → Mem → Prop), sp_is_integer ds M Q → T_is_integer ⟨fun _ M' => Q .non M', Q, fun _ _ => False, fun _ _ => False⟩ (startD ["value"] ds) M := by
  rintro _ M Q ⟨d, rfl, hd, q⟩
  show T_is_integer _ [.val d] M
  simp only [T_is_integer, TSeq, IZip, TRet, TRetN, DL.TSet, TDrop, TIf, TPar, TAsg, TFor, TFrz, frz, TSetOwn, TApp, TExt, TVar, TC, TBin, TTst, TChain, TAnd, TOr, TNot, TAndV, TOrV, TNotV, TIfE, TNil, TCons, TTup, TLst, TCB, TBM, TBM0, TPart, TNoPart, TSl, TNeg, GName, GNil, GCons, GTup, IList, ITup, IRng1, IRng2, IStr, TLstF, TCall, TYes, TNext, TPur, GPur, TRetP, unown_nil, unown_cons, un1, wipeD, List.getElem?_cons_zero, List.getElem?_cons_succ, List.set_cons_zero, List.set_cons_succ, List.set_nil, isD, beq_self_eq_true, isiO_int hd, isiO_bool hd]
  cases d <;> first | exact q | (cases hd; done)
-- is_number
def isNum (v : D) (lo hi : Int) : Bool := match v with
  | .int i => decide (lo ≤ i) && decide (i ≤ hi)
  | _ => false
def sp_is_number : SpD := fun ds M Q => ∃ v lo hi, ds = [v, .int lo, .int hi] ∧ kok v = true ∧ Q (.bl (isNum v lo hi)) M
def T_is_number : TSd := TRet (TAndV (TCall sp_is_integer (TCons (TVar 0) (TNil))) (TChain leO leO (TVar 1) (TVar 0) (TVar 2)))
theorem len_is_number : ∀ ds M Q, sp_is_number ds M Q → ds.length = 3 := fun _ _ _ ⟨_, _, _, e, _⟩ => by rw [e]; rfl
theorem body_is_number : ∀ (ds : List D) (M : Mem) (Q : D → Mem → Prop), sp_is_number ds M Q → T_is_number ⟨fun _ M' => Q .non M', Q, fun _ _ => False, fun _ _ => False⟩ (startD ["value", "least", "most"] ds) M := by
  rintro _ M Q ⟨v, lo, hi, rfl, hv, q⟩
  show T_is_number _ [.val v, .val (.int lo), .val (.int hi)] M
  simp only [T_is_number, TSeq, IZip, TRet, TRetN, DL.TSet, TDrop, TIf, TPar, TAsg, TFor, TFrz, frz, TSetOwn, TApp, TExt, TVar, TC, TBin, TTst, TChain, TAnd, TOr, TNot, TAndV, TOrV, TNotV, TIfE, TNil, TCons, TTup, TLst, TCB, TBM, TBM0, TPart, TNoPart, TSl, TNeg, GName, GNil, GCons, GTup, IList, ITup, IRng1, IRng2, IStr, TLstF, TCall, TYes, TNext, TPur, GPur, TRetP, unown_nil, unown_cons, un1, wipeD, List.getElem?_cons_zero, List.getElem?_cons_succ, List.set_cons_zero, List.set_cons_succ, List.set_nil, isD, beq_self_eq_true]
  refine ⟨v, rfl, hv, ?_⟩
  cases v with
  | int i =>
    simp only [isInt, leO, i20, isNum] at q ⊢
    by_cases h : lo ≤ i
    · simp only [h, decide_true, Bool.true_and] at q ⊢; exact q
    · simp only [h, decide_false, Bool.false_and] at q ⊢; exact q
  | _ => exact q
-- is_signs
def isSigns (v : D) (many : Int) : Bool := match v with
  | .str z => decide ((z.length : Int) = many) && decide (((tl z).count 48 : Int) + ((tl z).count 49 : Int) = many)
  | _ => false
def sp_is_signs : SpD := fun ds M Q => ∃ v many, ds = [v, .int many] ∧ kok v = true ∧ Q (.bl (isSigns v many)) M
def T_is_signs : TSd := TRet (TAndV (TCB isiO (TCons (TVar 0) (TCons (TC (.ty "str")) (TNil)))) (TAndV (TBin eqOp (TCB lenO (TCons (TVar 0) (TNil))) (TVar 1)) (TBin eqOp (TBin addO (TBM "str" countO (TVar 0) (TCons (TC (.str "0")) (TNil))) (TBM "str" countO (TVar 0) (TCons (TC (.str "1")) (TNil)))) (TVar 1))))
theorem len_is_signs : ∀ ds M Q, sp_is_signs ds M Q → ds.length = 2 := fun _ _ _ ⟨_, _, e, _⟩ => by rw [e]; rfl
theorem eq_ii (i j : Int) (k : D → Prop) : eqOp (.int i) (.int j) k = k (.bl (decide (i = j))) := by
  have : eqvD (.int i) (.int j) = decide (i = j) := by
    show (i == j) = _
    by_cases h : i = j <;> simp [h]
  unfold eqOp
  rw [this]
  simp [isPy, dep]
theorem ne_ii (i j : Int) (k : D → Prop) : neOp (.int i) (.int j) k = k (.bl (!decide (i = j))) := by
  have : eqvD (.int i) (.int j) = decide (i = j) := by
    show (i == j) = _
    by_cases h : i = j <;> simp [h]
  unfold neOp
  rw [this]
  simp [isPy, dep]
theorem eq_ss (i j : Str) (k : D → Prop) : eqOp (.str i) (.str j) k = k (.bl (decide (i = j))) := by
  have : eqvD (.str i) (.str j) = decide (i = j) := by
    show (i == j) = _
    by_cases h : i = j <;> simp [h]
  unfold eqOp
  rw [this]
  simp [isPy, dep]
theorem eq_bb (i j : Bool) (k : D → Prop) : eqOp (.bl i) (.bl j) k = k (.bl (i == j)) := by
  have : eqvD (.bl i) (.bl j) = (i == j) := rfl
  unfold eqOp
  rw [this]
  simp [isPy, dep]
theorem body_is_signs : ∀ (ds : List D) (M : Mem) (Q : D → Mem → Prop), sp_is_signs ds M Q → T_is_signs ⟨fun _ M' => Q .non M', Q, fun _ _ => False, fun _ _ => False⟩ (startD ["value", "many"] ds) M := by
  rintro _ M Q ⟨v, many, rfl, hv, q⟩
  show T_is_signs _ [.val v, .val (.int many)] M
  simp only [T_is_signs, TSeq, IZip, TRet, TRetN, DL.TSet, TDrop, TIf, TPar, TAsg, TFor, TFrz, frz, TSetOwn, TApp, TExt, TVar, TC, TBin, TTst, TChain, TAnd, TOr, TNot, TAndV, TOrV, TNotV, TIfE, TNil, TCons, TTup, TLst, TCB, TBM, TBM0, TPart, TNoPart, TSl, TNeg, GName, GNil, GCons, GTup, IList, ITup, IRng1, IRng2, IStr, TLstF, TCall, TYes, TNext, TPur, GPur, TRetP, unown_nil, unown_cons, un1, wipeD, List.getElem?_cons_zero, List.getElem?_cons_succ, List.set_cons_zero, List.set_cons_succ, List.set_nil, isD, beq_self_eq_true, isiO_str hv]
  cases v with
  | str z =>
    have c0 : Txt.count z (Str.ofString "0") = ((tl z).count 48 : Int) := count_one z 48
    have c1 : Txt.count z (Str.ofString "1") = ((tl z).count 49 : Int) := count_one z 49
    simp only [isStr, isSigns, lenO, lenD, eq_ii, countO, addO, isD, c0, c1] at q ⊢
    by_cases h : (z.length : Int) = many
    · simp only [h, decide_true, Bool.true_and] at q ⊢
      exact ⟨trivial, trivial, q⟩
    · simp only [h, decide_false, Bool.false_and] at q ⊢; exact q
  | _ => exact q
-- is_rising
def rising (xs : List Str) : Bool := (List.range (xs.length - 1)).all fun k => decide (tl (xs.getD k Str.empty) < tl (xs.getD (k + 1) Str.empty))
def sp_is_rising : SpD := fun ds M Q => ∃ xs : List Str, ds = [lstS xs] ∧ xs.length ≤ 16777215 ∧ Q (.bl (rising xs)) M
def T_is_rising : TSd := TRet (TCB allO (TCons (TLc (IRng1 (TCons (TBin subO (TCB lenO (TCons (TVar 0) (TNil))) (TC (.int 1))) (TNil))) (GName 1) (TYes) (TBin ltSO (TBin ixO (TVar 0) (TVar 1)) (TBin ixO (TVar 0) (TBin addO (TVar 1) (TC (.int 1))))) [1]) (TNil)))
theorem len_is_rising : ∀ ds M Q, sp_is_rising ds M Q → ds.length = 1 := fun _ _ _ ⟨_, e, _⟩ => by rw [e]; rfl
theorem getD_of {xs : List Str} {k : Nat} (h : k < xs.length) : (xs.map D.str)[k]? = some (.str (xs.getD k Str.empty)) := by
  rw [List.getElem?_map, List.getD_eq_getElem?_getD]
  simp [h]
theorem body_is_rising : ∀ (ds : List D) (M : Mem) (Q : D → Mem → Prop), sp_is_rising ds M Q → T_is_rising ⟨fun _ M' => Q .non M', Q, fun _ _ => False, fun _ _ => False⟩ (startD ["values", "k"] ds) M := by
  rintro _ M Q ⟨xs, rfl, hl, q⟩
  show T_is_rising _ [.val (lstS xs), .no] M
  simp only [T_is_rising, TSeq, IZip, TRet, TRetN, DL.TSet, TDrop, TIf, TPar, TAsg, TFor, TFrz, frz, TSetOwn, TApp, TExt, TVar, TC, TBin, TTst, TChain, TAnd, TOr, TNot, TAndV, TOrV, TNotV, TIfE, TNil, TCons, TTup, TLst, TCB, TBM, TBM0, TPart, TNoPart, TSl, TNeg, GName, GNil, GCons, GTup, IList, ITup, IRng1, IRng2, IStr, TLstF, TCall, TYes, TNext, TPur, GPur, TRetP, unown_nil, unown_cons, un1, wipeD, List.getElem?_cons_zero, List.getElem?_cons_succ, List.set_cons_zero, List.set_cons_succ, List.set_nil, isD, beq_self_eq_true, TLc, TLcF, lenO, lstS, lenD, subO, i20, List.length_map]
  refine ⟨⟨by omega, by omega⟩, by simp [rangeD]; omega, ?_⟩
  rw [show (((xs.length : Int) - 1)) = (((xs.length : Int) - 1)) from rfl, rangeD_map, List.map_map]
  have e : ((xs.length : Int) - 1 - 0).toNat = xs.length - 1 := by omega
  rw [e]
  refine lcD_m (D.int ∘ fun (k : Nat) => 0 + (k : Int)) (fun k => .bl (decide (tl (xs.getD k Str.empty) < tl (xs.getD (k + 1) Str.empty)))) _ _ (fun k hk K1 h1 => ?_) ?_
  · have hk := List.mem_range.mp hk
    simp only [Function.comp, TSeq, IZip, TRet, TRetN, DL.TSet, TDrop, TIf, TPar, TAsg, TFor, TFrz, frz, TSetOwn, TApp, TExt, TVar, TC, TBin, TTst, TChain, TAnd, TOr, TNot, TAndV, TOrV, TNotV, TIfE, TNil, TCons, TTup, TLst, TCB, TBM, TBM0, TPart, TNoPart, TSl, TNeg, GName, GNil, GCons, GTup, IList, ITup, IRng1, IRng2, IStr, TLstF, TCall, TYes, TNext, TPur, GPur, TRetP, unown_nil, unown_cons, un1, wipeD, List.getElem?_cons_zero, List.getElem?_cons_succ, List.set_cons_zero, List.set_cons_succ, List.set_nil, isD, beq_self_eq_true, ixO, addO, i20]
    have e1 : (0 + (k : Int)) = (k : Int) := by omega
    have e2 : ((k : Int) + 1) = ((k + 1 : Nat) : Int) := by omega
    simp only [e1, e2, atI_nat, getD_of (show k < xs.length by omega), getD_of (show k + 1 < xs.length by omega), ltSO]
    exact h1
  · unfold allO
    simp only [blsOf_map]
    rw [List.all_map]
    exact q
-- ways_in
def pieces (z : Str) : List Str := (splitZ 32 (tl z)).map mkS
def waysIn (v : D) : D := match v with
  | .str z => if z = "none" then .tup [] else if (pieces z).all (fun y => decide (y ∈ WAYSZ)) && rising (pieces z) then tupS (pieces z) else .non
  | _ => .non
def sp_ways_in : SpD := fun ds M Q => ∃ v, ds = [v] ∧ kok v = true ∧ (∀ z, v = .str z → z.length ≤ 16777213) ∧ Q (waysIn v) M
def T_ways_in : TSd := TSeq (TIf (TNot (TTst (TCB isiO (TCons (TVar 0) (TCons (TC (.ty "str")) (TNil)))))) (TRet (TC .non)) (TNext))
  (TSeq (TIf (TTst (TBin eqOp (TVar 0) (TC (.str "none")))) (TRet (TTup (TNil))) (TNext))
  (TSeq (TSet 1 (TBM "str" splitO (TVar 0) (TCons (TC (.str " ")) (TNil))))
  (TRet (TIfE (TAnd (TTst (TCB allO (TCons (TLc (IList (TVar 1)) (GName 2) (TYes) (TBin (inO false) (TVar 2) (TC (.tup WAYSD))) [2]) (TNil)))) (TTst (TCall sp_is_rising (TCons (TVar 1) (TNil))))) (TCB tupO (TCons (TVar 1) (TNil))) (TC .non)))))
theorem len_ways_in : ∀ ds M Q, sp_ways_in ds M Q → ds.length = 1 := fun _ _ _ ⟨_, e, _⟩ => by rw [e]; rfl
theorem pieces_len (z : Str) : (pieces z).length ≤ z.length + 1 := by
  unfold pieces splitZ
  rw [List.length_map, len_tl]
  exact spl_len [32] (tl z) 0 []
theorem split_sp (z : Str) (k : D → Prop) : splitO (.str z) [.str " "] k = (z.length ≤ 16777214 ∧ k (lstS (pieces z))) := by
  unfold splitO
  have e : lstS (pieces z) = .lst ((splitZ 32 (tl z)).map fun l => .str (mkS l)) := by
    unfold lstS pieces
    rw [List.map_map]
    rfl
  rw [e]
  show ((32 < 256 ∧ z.length ≤ 16777214) ∧ _) = _
  simp
theorem body_ways_in : ∀ (ds : List D) (M : Mem) (Q : D → Mem → Prop), sp_ways_in ds M Q → T_ways_in ⟨fun _ M' => Q .non M', Q, fun _ _ => False, fun _ _ => False⟩ (startD ["text", "ways", "way"] ds) M := by
  rintro _ M Q ⟨v, rfl, hv, hz, q⟩
  show T_ways_in _ [.val v, .no, .no] M
  simp only [T_ways_in, TSeq, IZip, TRet, TRetN, DL.TSet, TDrop, TIf, TPar, TAsg, TFor, TFrz, frz, TSetOwn, TApp, TExt, TVar, TC, TBin, TTst, TChain, TAnd, TOr, TNot, TAndV, TOrV, TNotV, TIfE, TNil, TCons, TTup, TLst, TCB, TBM, TBM0, TPart, TNoPart, TSl, TNeg, GName, GNil, GCons, GTup, IList, ITup, IRng1, IRng2, IStr, TLstF, TCall, TYes, TNext, TPur, GPur, TRetP, unown_nil, unown_cons, un1, wipeD, List.getElem?_cons_zero, List.getElem?_cons_succ, List.set_cons_zero, List.set_cons_succ, List.set_nil, isD, beq_self_eq_true, isiO_str hv]
  cases v with
  | str z =>
    have hz := hz z rfl
    simp only [isStr, Bool.not_true, TSeq, IZip, TRet, TRetN, DL.TSet, TDrop, TIf, TPar, TAsg, TFor, TFrz, frz, TSetOwn, TApp, TExt, TVar, TC, TBin, TTst, TChain, TAnd, TOr, TNot, TAndV, TOrV, TNotV, TIfE, TNil, TCons, TTup, TLst, TCB, TBM, TBM0, TPart, TNoPart, TSl, TNeg, GName, GNil, GCons, GTup, IList, ITup, IRng1, IRng2, IStr, TLstF, TCall, TYes, TNext, TPur, GPur, TRetP, unown_nil, unown_cons, un1, wipeD, List.getElem?_cons_zero, List.getElem?_cons_succ, List.set_cons_zero, List.set_cons_succ, List.set_nil, isD, beq_self_eq_true, eq_ss]
    by_cases h0 : z = "none"
    · simp only [h0, decide_true, TSeq, IZip, TRet, TRetN, DL.TSet, TDrop, TIf, TPar, TAsg, TFor, TFrz, frz, TSetOwn, TApp, TExt, TVar, TC, TBin, TTst, TChain, TAnd, TOr, TNot, TAndV, TOrV, TNotV, TIfE, TNil, TCons, TTup, TLst, TCB, TBM, TBM0, TPart, TNoPart, TSl, TNeg, GName, GNil, GCons, GTup, IList, ITup, IRng1, IRng2, IStr, TLstF, TCall, TYes, TNext, TPur, GPur, TRetP, unown_nil, unown_cons, un1, wipeD, List.getElem?_cons_zero, List.getElem?_cons_succ, List.set_cons_zero, List.set_cons_succ, List.set_nil, isD, beq_self_eq_true]
      refine ⟨by decide, ?_⟩
      simp only [waysIn, h0, if_true] at q
      exact q
    · simp only [waysIn, h0, if_false] at q
      simp only [h0, decide_false, TSeq, IZip, TRet, TRetN, DL.TSet, TDrop, TIf, TPar, TAsg, TFor, TFrz, frz, TSetOwn, TApp, TExt, TVar, TC, TBin, TTst, TChain, TAnd, TOr, TNot, TAndV, TOrV, TNotV, TIfE, TNil, TCons, TTup, TLst, TCB, TBM, TBM0, TPart, TNoPart, TSl, TNeg, GName, GNil, GCons, GTup, IList, ITup, IRng1, IRng2, IStr, TLstF, TCall, TYes, TNext, TPur, GPur, TRetP, unown_nil, unown_cons, un1, wipeD, List.getElem?_cons_zero, List.getElem?_cons_succ, List.set_cons_zero, List.set_cons_succ, List.set_nil, isD, beq_self_eq_true, split_sp]
      refine ⟨trivial, by omega, ?_⟩
      simp only [lstS, TLc, TLcF, TSeq, IZip, TRet, TRetN, DL.TSet, TDrop, TIf, TPar, TAsg, TFor, TFrz, frz, TSetOwn, TApp, TExt, TVar, TC, TBin, TTst, TChain, TAnd, TOr, TNot, TAndV, TOrV, TNotV, TIfE, TNil, TCons, TTup, TLst, TCB, TBM, TBM0, TPart, TNoPart, TSl, TNeg, GName, GNil, GCons, GTup, IList, ITup, IRng1, IRng2, IStr, TLstF, TCall, TYes, TNext, TPur, GPur, TRetP, unown_nil, unown_cons, un1, wipeD, List.getElem?_cons_zero, List.getElem?_cons_succ, List.set_cons_zero, List.set_cons_succ, List.set_nil, isD, beq_self_eq_true]
      refine ⟨by rw [List.length_map]; have := pieces_len z; omega, ?_⟩
      refine lcD_m D.str (fun y => .bl (decide (y ∈ WAYSZ))) _ _ (fun y hy K1 h1 => ?_) ?_
      · simp only [TSeq, IZip, TRet, TRetN, DL.TSet, TDrop, TIf, TPar, TAsg, TFor, TFrz, frz, TSetOwn, TApp, TExt, TVar, TC, TBin, TTst, TChain, TAnd, TOr, TNot, TAndV, TOrV, TNotV, TIfE, TNil, TCons, TTup, TLst, TCB, TBM, TBM0, TPart, TNoPart, TSl, TNeg, GName, GNil, GCons, GTup, IList, ITup, IRng1, IRng2, IStr, TLstF, TCall, TYes, TNext, TPur, GPur, TRetP, unown_nil, unown_cons, un1, wipeD, List.getElem?_cons_zero, List.getElem?_cons_succ, List.set_cons_zero, List.set_cons_succ, List.set_nil, isD, beq_self_eq_true, inO]
        refine ⟨⟨rfl, flat_strs _⟩, ?_⟩
        rw [WAYSD, inD_strs]
        exact h1
      · unfold allO
        simp only [blsOf_map, List.all_map]
        have ha : ((pieces z).all (id ∘ fun y => decide (y ∈ WAYSZ))) = (pieces z).all (fun y => decide (y ∈ WAYSZ)) := rfl
        rw [ha]
        cases hA : (pieces z).all (fun y => decide (y ∈ WAYSZ)) with
        | false => rw [hA] at q; exact q
        | true =>
          rw [hA, Bool.true_and] at q
          refine ⟨pieces z, rfl, by have := pieces_len z; omega, ?_⟩
          cases hR : rising (pieces z) with
          | false => rw [hR] at q; exact q
          | true => rw [hR] at q; exact q
  | _ => first | (cases hv; done) | exact q
-- plan_in
def sizesZ : List Str := (List.range 64).map fun k => numS (k + 1) ++ Str.ofString ":"
def sizeIx (p : Str) : Nat := ((indexD (.str p) (sizesZ.map D.str)).getD 0)
def planIn (v : D) : D := match v with
  | .str z => match pieces z with
    | [] => .non
    | p :: r => if decide (p ∈ sizesZ) && decide (r.length ≤ 64) then (if r.all (fun t => isSigns (.str t) ((sizeIx p : Int) + 1)) then .tup [.int ((sizeIx p : Int) + 1), lstS r] else .non) else .non
  | _ => .non
def sp_plan_in : SpD := fun ds M Q => ∃ v, ds = [v] ∧ kok v = true ∧ (∀ z, v = .str z → z.length ≤ 16777213) ∧ Q (planIn v) M
def T_plan_in : TSd := TSeq (TIf (TNot (TTst (TCB isiO (TCons (TVar 0) (TCons (TC (.ty "str")) (TNil)))))) (TRet (TC .non)) (TNext))
  (TSeq (TSet 1 (TBM "str" splitO (TVar 0) (TCons (TC (.str " ")) (TNil))))
  (TSeq (TSet 2 (TLc (IRng1 (TCons (TC (.int 64)) (TNil))) (GName 5) (TYes) (TFStr [TFmt (TBin addO (TVar 5) (TC (.int 1))), TC (.str ":")]) [5]))
  (TSeq (TIf (TOr (TTst (TBin (inO true) (TBin ixO (TVar 1) (TC (.int 0))) (TVar 2))) (TTst (TBin gtO (TBin subO (TCB lenO (TCons (TVar 1) (TNil))) (TC (.int 1))) (TC (.int 64))))) (TRet (TC .non)) (TNext))
  (TSeq (TAsg (TTup (TCons (TBin addO (TBM "list" indexO (TVar 2) (TCons (TBin ixO (TVar 1) (TC (.int 0))) (TNil))) (TC (.int 1))) (TCons (TSl slO (TVar 1) (TPart (TC (.int 1))) (TNoPart)) (TNil)))) (GTup 2 (GCons (GName 3) (GCons (GName 4) (GNil)))))
  (TRet (TIfE (TTst (TCB allO (TCons (TLc (IList (TVar 4)) (GName 6) (TYes) (TCall sp_is_signs (TCons (TVar 6) (TCons (TVar 3) (TNil)))) [6]) (TNil)))) (TTup (TCons (TVar 3) (TCons (TVar 4) (TNil)))) (TC .non)))))))
theorem len_plan_in : ∀ ds M Q, sp_plan_in ds M Q → ds.length = 1 := fun _ _ _ ⟨_, e, _⟩ => by rw [e]; rfl
theorem spl_ne (S : List Nat) : ∀ (l : List Nat) (k : Nat) (acc : List Nat), spl S k acc l ≠ []
  | [], k, acc => by rw [spl_nil]; simp
  | x :: l, k, acc => by
    cases k with
    | succ k => rw [spl]; exact spl_ne S l k acc
    | zero =>
      by_cases hp : pre S (x :: l) = true
      · rw [spl_hit hp]; simp
      · have hp' : pre S (x :: l) = false := by simpa using hp
        rw [spl_miss hp']; exact spl_ne S l 0 _
theorem pieces_ne (z : Str) : pieces z ≠ [] := by
  unfold pieces splitZ
  intro h
  exact spl_ne _ _ _ _ (List.map_eq_nil_iff.mp h)
theorem empty_app (x : Str) : Str.empty ++ x = x := ext_tl (by rw [tl_app]; rfl)
theorem numS_len : ∀ k < 64, (numS (k + 1)).length ≤ 2 := by decide +kernel
theorem indexD_mem {p : Str} : ∀ {xs : List Str}, p ∈ xs → ∃ j, indexD (.str p) (xs.map D.str) = some j
  | [], h => by cases h
  | x :: r, h => by
    rw [List.map_cons, indexD]
    by_cases e : eqvD (.str x) (.str p) = true
    · rw [if_pos e]; exact ⟨0, rfl⟩
    · rw [if_neg e]
      have : p ∈ r := by
        rcases List.mem_cons.mp h with h | h
        · subst h; exact absurd (by show (p == p) = true; simp) e
        · exact h
      obtain ⟨j, hj⟩ := indexD_mem this
      rw [hj]
      exact ⟨j + 1, rfl⟩
theorem atI_zero {α : Type} (x : α) (xs : List α) : atI (x :: xs) 0 = some x := atI_nat (x :: xs) 0
theorem cutD_tail (x : D) (xs : List D) : cutD (x :: xs) (some 1) none = xs := by
  unfold cutD
  simp [HT.sIx]
theorem body_plan_in : ∀ (ds : List D) (M : Mem) (Q : D → Mem → Prop), sp_plan_in ds M Q → T_plan_in ⟨fun _ M' => Q .non M', Q, fun _ _ => False, fun _ _ => False⟩ (startD ["text", "pieces", "sizes", "many", "trials", "k", "trial"] ds) M := by
  rintro _ M Q ⟨v, rfl, hv, hz, q⟩
  show T_plan_in _ [.val v, .no, .no, .no, .no, .no, .no] M
  simp only [T_plan_in, TSeq, IZip, TRet, TRetN, DL.TSet, TDrop, TIf, TPar, TAsg, TFor, TFrz, frz, TSetOwn, TApp, TExt, TVar, TC, TBin, TTst, TChain, TAnd, TOr, TNot, TAndV, TOrV, TNotV, TIfE, TNil, TCons, TTup, TLst, TCB, TBM, TBM0, TPart, TNoPart, TSl, TNeg, GName, GNil, GCons, GTup, IList, ITup, IRng1, IRng2, IStr, TLstF, TCall, TYes, TNext, TPur, GPur, TRetP, unown_nil, unown_cons, un1, wipeD, List.getElem?_cons_zero, List.getElem?_cons_succ, List.set_cons_zero, List.set_cons_succ, List.set_nil, isD, beq_self_eq_true, isiO_str hv]
  cases v with
  | str z =>
    have hz := hz z rfl
    simp only [isStr, Bool.not_true, TSeq, IZip, TRet, TRetN, DL.TSet, TDrop, TIf, TPar, TAsg, TFor, TFrz, frz, TSetOwn, TApp, TExt, TVar, TC, TBin, TTst, TChain, TAnd, TOr, TNot, TAndV, TOrV, TNotV, TIfE, TNil, TCons, TTup, TLst, TCB, TBM, TBM0, TPart, TNoPart, TSl, TNeg, GName, GNil, GCons, GTup, IList, ITup, IRng1, IRng2, IStr, TLstF, TCall, TYes, TNext, TPur, GPur, TRetP, unown_nil, unown_cons, un1, wipeD, List.getElem?_cons_zero, List.getElem?_cons_succ, List.set_cons_zero, List.set_cons_succ, List.set_nil, isD, beq_self_eq_true, split_sp]
    refine ⟨trivial, by omega, ?_⟩
    simp only [TLc, TLcF, TSeq, IZip, TRet, TRetN, DL.TSet, TDrop, TIf, TPar, TAsg, TFor, TFrz, frz, TSetOwn, TApp, TExt, TVar, TC, TBin, TTst, TChain, TAnd, TOr, TNot, TAndV, TOrV, TNotV, TIfE, TNil, TCons, TTup, TLst, TCB, TBM, TBM0, TPart, TNoPart, TSl, TNeg, GName, GNil, GCons, GTup, IList, ITup, IRng1, IRng2, IStr, TLstF, TCall, TYes, TNext, TPur, GPur, TRetP, unown_nil, unown_cons, un1, wipeD, List.getElem?_cons_zero, List.getElem?_cons_succ, List.set_cons_zero, List.set_cons_succ, List.set_nil, isD, beq_self_eq_true]
    refine ⟨by decide, by decide, ?_⟩
    rw [show (rangeD 0 64) = (List.range 64).map (fun (k : Nat) => D.int (k : Int)) from rangeD_n 64]
    refine lcD_m (fun (k : Nat) => D.int (k : Int)) (fun k => .str (numS (k + 1) ++ Str.ofString ":")) _ _ (fun k hk K1 h1 => ?_) ?_
    · have hk := List.mem_range.mp hk
      simp only [TSeq, IZip, TRet, TRetN, DL.TSet, TDrop, TIf, TPar, TAsg, TFor, TFrz, frz, TSetOwn, TApp, TExt, TVar, TC, TBin, TTst, TChain, TAnd, TOr, TNot, TAndV, TOrV, TNotV, TIfE, TNil, TCons, TTup, TLst, TCB, TBM, TBM0, TPart, TNoPart, TSl, TNeg, GName, GNil, GCons, GTup, IList, ITup, IRng1, IRng2, IStr, TLstF, TCall, TYes, TNext, TPur, GPur, TRetP, unown_nil, unown_cons, un1, wipeD, List.getElem?_cons_zero, List.getElem?_cons_succ, List.set_cons_zero, List.set_cons_succ, List.set_nil, isD, beq_self_eq_true, TFStr, TJs, TFmt, addO]
      have e1 : ((k : Int) + 1).toNat = k + 1 := by omega
      refine ⟨by omega, ?_⟩
      simp only [e1, empty_app]
      have := numS_len k hk
      have h3 : (Str.ofString ":").length = 1 := by decide +kernel
      have h4 : Str.empty.length = 0 := by decide +kernel
      refine ⟨by omega, by omega, h1⟩
    · have es : (List.range 64).map (fun k => D.str (numS (k + 1) ++ Str.ofString ":")) = sizesZ.map D.str := by unfold sizesZ; rw [List.map_map]; rfl
      rw [es]
      have hp := pieces_ne z
      have hpl := pieces_len z
      unfold planIn at q
      simp only at q
      generalize pieces z = ps at q hp hpl ⊢
      cases ps with
      | nil => exact absurd rfl hp
      | cons p r =>
        simp only at q
        simp only [TSeq, IZip, TRet, TRetN, DL.TSet, TDrop, TIf, TPar, TAsg, TFor, TFrz, frz, TSetOwn, TApp, TExt, TVar, TC, TBin, TTst, TChain, TAnd, TOr, TNot, TAndV, TOrV, TNotV, TIfE, TNil, TCons, TTup, TLst, TCB, TBM, TBM0, TPart, TNoPart, TSl, TNeg, GName, GNil, GCons, GTup, IList, ITup, IRng1, IRng2, IStr, TLstF, TCall, TYes, TNext, TPur, GPur, TRetP, unown_nil, unown_cons, un1, wipeD, List.getElem?_cons_zero, List.getElem?_cons_succ, List.set_cons_zero, List.set_cons_succ, List.set_nil, isD, beq_self_eq_true, lstS, List.map_cons, ixO, atI_zero, inO, lenO, lenD, subO, gtO, i20, List.length_cons, List.length_map]
        refine ⟨⟨rfl, flat_strs _⟩, ?_⟩
        rw [inD_strs]
        simp only [if_true]
        by_cases h1 : p ∈ sizesZ
        · simp only [h1, decide_true, Bool.not_true, TSeq, IZip, TRet, TRetN, DL.TSet, TDrop, TIf, TPar, TAsg, TFor, TFrz, frz, TSetOwn, TApp, TExt, TVar, TC, TBin, TTst, TChain, TAnd, TOr, TNot, TAndV, TOrV, TNotV, TIfE, TNil, TCons, TTup, TLst, TCB, TBM, TBM0, TPart, TNoPart, TSl, TNeg, GName, GNil, GCons, GTup, IList, ITup, IRng1, IRng2, IStr, TLstF, TCall, TYes, TNext, TPur, GPur, TRetP, unown_nil, unown_cons, un1, wipeD, List.getElem?_cons_zero, List.getElem?_cons_succ, List.set_cons_zero, List.set_cons_succ, List.set_nil, isD, beq_self_eq_true]
          have e1 : (((r.length + 1 : Nat) : Int) - 1) = (r.length : Int) := by omega
          simp only [e1]
          by_cases h2 : r.length ≤ 64
          · have h3 : decide ((64 : Int) < (r.length : Int)) = false := by simp; omega
            simp only [h3, TSeq, IZip, TRet, TRetN, DL.TSet, TDrop, TIf, TPar, TAsg, TFor, TFrz, frz, TSetOwn, TApp, TExt, TVar, TC, TBin, TTst, TChain, TAnd, TOr, TNot, TAndV, TOrV, TNotV, TIfE, TNil, TCons, TTup, TLst, TCB, TBM, TBM0, TPart, TNoPart, TSl, TNeg, GName, GNil, GCons, GTup, IList, ITup, IRng1, IRng2, IStr, TLstF, TCall, TYes, TNext, TPur, GPur, TRetP, unown_nil, unown_cons, un1, wipeD, List.getElem?_cons_zero, List.getElem?_cons_succ, List.set_cons_zero, List.set_cons_succ, List.set_nil, isD, beq_self_eq_true, indexO]
            obtain ⟨j, hj⟩ := indexD_mem h1
            refine ⟨trivial, ⟨rfl, flat_strs _⟩, ?_⟩
            have hj' : sizeIx p = j := by unfold sizeIx; rw [hj]; rfl
            simp only [hj, addO, slO, cutD_tail]
            refine ⟨by decide, by decide, ?_⟩
            refine ⟨by rw [List.length_map]; omega, ?_⟩
            refine lcD_m D.str (fun y => .bl (isSigns (.str y) ((j : Int) + 1))) _ _ (fun y hy K1 h1 => ?_) ?_
            · simp only [TSeq, IZip, TRet, TRetN, DL.TSet, TDrop, TIf, TPar, TAsg, TFor, TFrz, frz, TSetOwn, TApp, TExt, TVar, TC, TBin, TTst, TChain, TAnd, TOr, TNot, TAndV, TOrV, TNotV, TIfE, TNil, TCons, TTup, TLst, TCB, TBM, TBM0, TPart, TNoPart, TSl, TNeg, GName, GNil, GCons, GTup, IList, ITup, IRng1, IRng2, IStr, TLstF, TCall, TYes, TNext, TPur, GPur, TRetP, unown_nil, unown_cons, un1, wipeD, List.getElem?_cons_zero, List.getElem?_cons_succ, List.set_cons_zero, List.set_cons_succ, List.set_nil, isD, beq_self_eq_true]
              exact ⟨_, _, rfl, rfl, h1⟩
            · unfold allO
              simp only [blsOf_map, List.all_map]
              have ha : (r.all (id ∘ fun y => isSigns (.str y) ((j : Int) + 1))) = r.all (fun y => isSigns (.str y) ((j : Int) + 1)) := rfl
              rw [ha]
              simp only [h1, h2, decide_true, Bool.and_self, if_true, hj'] at q
              cases hA : r.all (fun y => isSigns (.str y) ((j : Int) + 1)) with
              | false => rw [hA] at q; exact q
              | true => rw [hA] at q; exact ⟨by decide, q⟩
          · have h3 : decide ((64 : Int) < (r.length : Int)) = true := by simp; omega
            simp only [h3, TSeq, IZip, TRet, TRetN, DL.TSet, TDrop, TIf, TPar, TAsg, TFor, TFrz, frz, TSetOwn, TApp, TExt, TVar, TC, TBin, TTst, TChain, TAnd, TOr, TNot, TAndV, TOrV, TNotV, TIfE, TNil, TCons, TTup, TLst, TCB, TBM, TBM0, TPart, TNoPart, TSl, TNeg, GName, GNil, GCons, GTup, IList, ITup, IRng1, IRng2, IStr, TLstF, TCall, TYes, TNext, TPur, GPur, TRetP, unown_nil, unown_cons, un1, wipeD, List.getElem?_cons_zero, List.getElem?_cons_succ, List.set_cons_zero, List.set_cons_succ, List.set_nil, isD, beq_self_eq_true]
            simp only [h2, decide_false, Bool.and_false] at q
            exact q
        · simp only [h1, decide_false, Bool.not_false, TSeq, IZip, TRet, TRetN, DL.TSet, TDrop, TIf, TPar, TAsg, TFor, TFrz, frz, TSetOwn, TApp, TExt, TVar, TC, TBin, TTst, TChain, TAnd, TOr, TNot, TAndV, TOrV, TNotV, TIfE, TNil, TCons, TTup, TLst, TCB, TBM, TBM0, TPart, TNoPart, TSl, TNeg, GName, GNil, GCons, GTup, IList, ITup, IRng1, IRng2, IStr, TLstF, TCall, TYes, TNext, TPur, GPur, TRetP, unown_nil, unown_cons, un1, wipeD, List.getElem?_cons_zero, List.getElem?_cons_succ, List.set_cons_zero, List.set_cons_succ, List.set_nil, isD, beq_self_eq_true]
          simp only [h1, decide_false, Bool.false_and] at q
          exact q
  | _ => first | (cases hv; done) | exact q
end DL

namespace DL
open PySem PySem.Spec PyProof.Rows L2 TL
/-! ## faults; the law's own small functions -/
def kok2 (v : D) : Bool := kok v && (match v with | .tup xs => xs.all kok | _ => true)
theorem kok_of {v : D} (h : kok2 v = true) : kok v = true := (Bool.and_eq_true_iff.mp h).1
def isFault (v : D) (many : Int) : Bool := match v with
  | .tup [a, b, c] => isNum a 0 (many - 1) && ((match a with | .int i => isNum b (i + 1) (many - 1) | _ => false) && (match c with | .str s => decide (s ∈ WAYSZ) | _ => false))
  | _ => false
def sp_is_fault : SpD := fun ds M Q => ∃ v many, ds = [v, .int many] ∧ kok2 v = true ∧ Q (.bl (isFault v many)) M
def T_is_fault : TSd := TSeq (TIf (TOr (TNot (TTst (TCB isiO (TCons (TVar 0) (TCons (TC (.ty "tuple")) (TNil)))))) (TTst (TBin neOp (TCB lenO (TCons (TVar 0) (TNil))) (TC (.int 3))))) (TRet (TC (.bl false))) (TNext))
  (TSeq (TAsg (TVar 0) (GTup 3 (GCons (GName 2) (GCons (GName 3) (GCons (GName 4) (GNil))))))
  (TSeq (TIf (TOr (TNot (TTst (TCall sp_is_number (TCons (TVar 2) (TCons (TC (.int 0)) (TCons (TBin subO (TVar 1) (TC (.int 1))) (TNil))))))) (TNot (TTst (TCall sp_is_number (TCons (TVar 3) (TCons (TBin addO (TVar 2) (TC (.int 1))) (TCons (TBin subO (TVar 1) (TC (.int 1))) (TNil)))))))) (TRet (TC (.bl false))) (TNext))
  (TRet (TAndV (TCB isiO (TCons (TVar 4) (TCons (TC (.ty "str")) (TNil)))) (TBin (inO false) (TVar 4) (TC (.tup WAYSD)))))))
theorem len_is_fault : ∀ ds M Q, sp_is_fault ds M Q → ds.length = 2 := fun _ _ _ ⟨_, _, e, _⟩ => by rw [e]; rfl
theorem isNum_int {v : D} {lo hi : Int} (h : isNum v lo hi = true) : ∃ i, v = .int i ∧ lo ≤ i ∧ i ≤ hi := by
  cases v with
  | int i => simp [isNum] at h; exact ⟨i, rfl, h.1, h.2⟩
  | _ => cases h
theorem isFault_ne {xs : List D} {many : Int} (h : xs.length ≠ 3) : isFault (.tup xs) many = false := by
  match xs, h with
  | [], _ => rfl
  | [_], _ => rfl
  | [_, _], _ => rfl
  | [_, _, _], h => exact absurd rfl h
  | _ :: _ :: _ :: _ :: _, _ => rfl
theorem body_is_fault : ∀ (ds : List D) (M : Mem) (Q : D → Mem → Prop), sp_is_fault ds M Q → T_is_fault ⟨fun _ M' => Q .non M', Q, fun _ _ => False, fun _ _ => False⟩ (startD ["value", "many", "one", "other", "way"] ds) M := by
  rintro _ M Q ⟨v, many, rfl, hv, q⟩
  show T_is_fault _ [.val v, .val (.int many), .no, .no, .no] M
  have hk := kok_of hv
  simp only [T_is_fault, TSeq, IZip, TRet, TRetN, DL.TSet, TDrop, TIf, TPar, TAsg, TFor, TFrz, frz, TSetOwn, TApp, TExt, TVar, TC, TBin, TTst, TChain, TAnd, TOr, TNot, TAndV, TOrV, TNotV, TIfE, TNil, TCons, TTup, TLst, TCB, TBM, TBM0, TPart, TNoPart, TSl, TNeg, GName, GNil, GCons, GTup, IList, ITup, IRng1, IRng2, IStr, TLstF, TCall, TYes, TNext, TPur, GPur, TRetP, unown_nil, unown_cons, un1, wipeD, List.getElem?_cons_zero, List.getElem?_cons_succ, List.set_cons_zero, List.set_cons_succ, List.set_nil, isD, beq_self_eq_true, isiO_tup hk]
  cases v with
  | tup xs =>
    simp only [isTup, Bool.not_true, TSeq, IZip, TRet, TRetN, DL.TSet, TDrop, TIf, TPar, TAsg, TFor, TFrz, frz, TSetOwn, TApp, TExt, TVar, TC, TBin, TTst, TChain, TAnd, TOr, TNot, TAndV, TOrV, TNotV, TIfE, TNil, TCons, TTup, TLst, TCB, TBM, TBM0, TPart, TNoPart, TSl, TNeg, GName, GNil, GCons, GTup, IList, ITup, IRng1, IRng2, IStr, TLstF, TCall, TYes, TNext, TPur, GPur, TRetP, unown_nil, unown_cons, un1, wipeD, List.getElem?_cons_zero, List.getElem?_cons_succ, List.set_cons_zero, List.set_cons_succ, List.set_nil, isD, beq_self_eq_true, lenO, lenD, ne_ii]
    by_cases h3 : xs.length = 3
    · match xs, h3 with
      | [a, b, c], _ =>
        have hall := (Bool.and_eq_true_iff.mp hv).2
        simp only [List.all_cons, List.all_nil, Bool.and_true, Bool.and_eq_true] at hall
        obtain ⟨ka, kb, kc⟩ := hall
        simp only [List.length_cons, List.length_nil, show ((0 + 1 + 1 + 1 : Nat) : Int) = 3 from rfl, decide_true, Bool.not_true, TSeq, IZip, TRet, TRetN, DL.TSet, TDrop, TIf, TPar, TAsg, TFor, TFrz, frz, TSetOwn, TApp, TExt, TVar, TC, TBin, TTst, TChain, TAnd, TOr, TNot, TAndV, TOrV, TNotV, TIfE, TNil, TCons, TTup, TLst, TCB, TBM, TBM0, TPart, TNoPart, TSl, TNeg, GName, GNil, GCons, GTup, IList, ITup, IRng1, IRng2, IStr, TLstF, TCall, TYes, TNext, TPur, GPur, TRetP, unown_nil, unown_cons, un1, wipeD, List.getElem?_cons_zero, List.getElem?_cons_succ, List.set_cons_zero, List.set_cons_succ, List.set_nil, isD, beq_self_eq_true, subO, i20]
        refine ⟨trivial, a, 0, many - 1, rfl, ka, ?_⟩
        simp only [isFault] at q
        cases hA : isNum a 0 (many - 1) with
        | false => rw [hA] at q; exact q
        | true =>
          rw [hA] at q
          obtain ⟨i, rfl, _, _⟩ := isNum_int hA
          simp only [Bool.true_and, Bool.not_true] at q ⊢
          simp only [addO]
          refine ⟨b, i + 1, many - 1, rfl, kb, ?_⟩
          cases hB : isNum b (i + 1) (many - 1) with
          | false => rw [hB] at q; exact q
          | true =>
            rw [hB] at q
            simp only [Bool.true_and, Bool.not_true, isiO_str kc] at q ⊢
            cases c with
            | str s =>
              simp only [isStr, inO] at q ⊢
              refine ⟨⟨rfl, flat_strs _⟩, ?_⟩
              rw [WAYSD, inD_strs]
              exact q
            | _ => exact q
    · rw [isFault_ne h3] at q
      have : decide (((xs.length : Nat) : Int) = 3) = false := by simp; omega
      simp only [this, Bool.not_false]
      exact q
  | _ => exact q
-- signs of a row
def sg (r : Str) (i : Int) : Str := ⟨#[(tl r).getD i.toNat 0]⟩
def seen (i j : Int) (r : Str) : Str := sg r i ++ sg r j
theorem atI_int {α : Type} {xs : List α} {i : Int} (d : α) (h0 : 0 ≤ i) (h1 : i < xs.length) : atI xs i = some (xs.getD i.toNat d) := by
  obtain ⟨k, rfl⟩ := Int.eq_ofNat_of_zero_le h0
  rw [atI_nat]
  have : k < xs.length := by omega
  rw [List.getD_eq_getElem?_getD]
  simp [this]
theorem ix_sg {r : Str} {i : Int} {k : D → Prop} (h0 : 0 ≤ i) (h1 : i < r.length) (q : k (.str (sg r i))) : ixO (.str r) (.int i) k := by
  show match atI (tl r) i with | some c => k (.str ⟨#[c]⟩) | none => False
  rw [atI_int 0 h0 (by rw [← len_tl]; exact h1)]
  exact q
theorem sg_len (r : Str) (i : Int) : (sg r i).length = 1 := rfl
theorem add_sg {r : Str} {i j : Int} {k : D → Prop} (q : k (.str (seen i j r))) : addO (.str (sg r i)) (.str (sg r j)) k := ⟨by rw [sg_len, sg_len]; decide, q⟩
def lackB (ws : List Str) (many : Int) (rows : List Str) (v : D) : Bool := isFault v many && (match v with
  | .tup [.int i, .int j, .str s] => decide (s ∈ ws) && !decide (s ∈ rows.map (seen i j))
  | _ => false)
/-- a plan that was read -/
structure GoodP (many : Int) (rows : List Str) : Prop where
  lo : 1 ≤ many
  hi : many ≤ 64
  len : rows.length ≤ 64
  row : ∀ r ∈ rows, (r.length : Int) = many
theorem isFault_tup {v : D} {many : Int} (h : isFault v many = true) : ∃ i j s, v = .tup [.int i, .int j, .str s] ∧ 0 ≤ i ∧ i < j ∧ j < many ∧ s ∈ WAYSZ := by
  unfold isFault at h
  split at h
  · rename_i a b c
    simp only [Bool.and_eq_true] at h
    obtain ⟨h1, h2, h3⟩ := h
    obtain ⟨i, rfl, e1, e2⟩ := isNum_int h1
    obtain ⟨j, rfl, e3, e4⟩ := isNum_int h2
    cases c with
    | str s => exact ⟨i, j, s, rfl, e1, by omega, by omega, of_decide_eq_true h3⟩
    | _ => cases h3
  · cases h
def sp_shows_lacks : SpD := fun ds M Q => ∃ ws many rows v, ds = [tupS ws, .tup [.int many, lstS rows], v] ∧ GoodP many rows ∧ kok2 v = true ∧ Q (.bl (lackB ws many rows v)) M
def T_shows_lacks : TSd := TSeq (TAsg (TVar 1) (GTup 2 (GCons (GName 3) (GCons (GName 4) (GNil)))))
  (TSeq (TIf (TNot (TTst (TCall sp_is_fault (TCons (TVar 2) (TCons (TVar 3) (TNil)))))) (TRet (TC (.bl false))) (TNext))
  (TSeq (TAsg (TVar 2) (GTup 3 (GCons (GName 5) (GCons (GName 6) (GCons (GName 7) (GNil))))))
  (TRet (TAndV (TBin (inO false) (TVar 7) (TVar 0)) (TBin (inO true) (TVar 7) (TLc (IList (TVar 4)) (GName 8) (TYes) (TBin addO (TBin ixO (TVar 8) (TVar 5)) (TBin ixO (TVar 8) (TVar 6))) [8]))))))
theorem len_shows_lacks : ∀ ds M Q, sp_shows_lacks ds M Q → ds.length = 3 := fun _ _ _ ⟨_, _, _, _, e, _⟩ => by rw [e]; rfl
theorem seen_list {ρ : List Sl} {M : Mem} {c i j : Nat} {x y : Int} {rows : List Str} {many : Int} {Q : List D → Mem → Prop} (g : ∀ r ∈ rows, (r.length : Int) = many) (h0 : 0 ≤ x) (h1 : x < y) (h2 : y < many)
    (hi : ∀ v, (ρ.set c v)[i]? = some (.val (.int x))) (hj : ∀ v, (ρ.set c v)[j]? = some (.val (.int y))) (hc : c < ρ.length) (q : Q ((rows.map (seen x y)).map D.str) M) :
    lcD (GName c) TYes (TBin addO (TBin ixO (TVar c) (TVar i)) (TBin ixO (TVar c) (TVar j))) (rows.map D.str) ρ M Q := by
  refine lcD_m D.str (fun r => .str (seen x y r)) _ _ (fun r hr K1 h => ?_) (by rw [List.map_map] at q; exact q)
  have hl := g r hr
  simp only [TSeq, IZip, TRet, TRetN, DL.TSet, TDrop, TIf, TPar, TAsg, TFor, TFrz, frz, TSetOwn, TApp, TExt, TVar, TC, TBin, TTst, TChain, TAnd, TOr, TNot, TAndV, TOrV, TNotV, TIfE, TNil, TCons, TTup, TLst, TCB, TBM, TBM0, TPart, TNoPart, TSl, TNeg, GName, GNil, GCons, GTup, IList, ITup, IRng1, IRng2, IStr, TLstF, TCall, TYes, TNext, TPur, GPur, TRetP, unown_nil, unown_cons, un1, wipeD, List.getElem?_cons_zero, List.getElem?_cons_succ, List.set_cons_zero, List.set_cons_succ, List.set_nil, isD, beq_self_eq_true]
  rw [hi, hj, List.getElem?_set_self hc]
  simp only
  exact ix_sg h0 (by omega) (ix_sg (by omega) (by omega) (add_sg h))
theorem body_shows_lacks : ∀ (ds : List D) (M : Mem) (Q : D → Mem → Prop), sp_shows_lacks ds M Q → T_shows_lacks ⟨fun _ M' => Q .non M', Q, fun _ _ => False, fun _ _ => False⟩ (startD ["ways", "plan", "certificate", "many", "trials", "one", "other", "way", "trial"] ds) M := by
  rintro _ M Q ⟨ws, many, rows, v, rfl, g, hv, q⟩
  show T_shows_lacks _ [.val (tupS ws), .val (.tup [.int many, lstS rows]), .val v, .no, .no, .no, .no, .no, .no] M
  simp only [T_shows_lacks, TSeq, IZip, TRet, TRetN, DL.TSet, TDrop, TIf, TPar, TAsg, TFor, TFrz, frz, TSetOwn, TApp, TExt, TVar, TC, TBin, TTst, TChain, TAnd, TOr, TNot, TAndV, TOrV, TNotV, TIfE, TNil, TCons, TTup, TLst, TCB, TBM, TBM0, TPart, TNoPart, TSl, TNeg, GName, GNil, GCons, GTup, IList, ITup, IRng1, IRng2, IStr, TLstF, TCall, TYes, TNext, TPur, GPur, TRetP, unown_nil, unown_cons, un1, wipeD, List.getElem?_cons_zero, List.getElem?_cons_succ, List.set_cons_zero, List.set_cons_succ, List.set_nil, isD, beq_self_eq_true]
  refine ⟨rfl, v, many, rfl, hv, ?_⟩
  cases hF : isFault v many with
  | false =>
    have e : lackB ws many rows v = false := by unfold lackB; rw [hF]; rfl
    rw [e] at q
    exact q
  | true =>
    obtain ⟨i, j, s, rfl, h0, h1, h2, _⟩ := isFault_tup hF
    simp only [lackB, hF, Bool.true_and] at q
    simp only [Bool.not_true, TSeq, IZip, TRet, TRetN, DL.TSet, TDrop, TIf, TPar, TAsg, TFor, TFrz, frz, TSetOwn, TApp, TExt, TVar, TC, TBin, TTst, TChain, TAnd, TOr, TNot, TAndV, TOrV, TNotV, TIfE, TNil, TCons, TTup, TLst, TCB, TBM, TBM0, TPart, TNoPart, TSl, TNeg, GName, GNil, GCons, GTup, IList, ITup, IRng1, IRng2, IStr, TLstF, TCall, TYes, TNext, TPur, GPur, TRetP, unown_nil, unown_cons, un1, wipeD, List.getElem?_cons_zero, List.getElem?_cons_succ, List.set_cons_zero, List.set_cons_succ, List.set_nil, isD, beq_self_eq_true, tupS, inO, lstS]
    refine ⟨rfl, ⟨rfl, flat_strs _⟩, ?_⟩
    rw [inD_strs]
    cases hW : decide (s ∈ ws) with
    | false => rw [hW] at q; exact q
    | true =>
      simp only [hW, Bool.true_and] at q
      simp only [Bool.false_eq_true, if_false, TLc, TLcF, TSeq, IZip, TRet, TRetN, DL.TSet, TDrop, TIf, TPar, TAsg, TFor, TFrz, frz, TSetOwn, TApp, TExt, TVar, TC, TBin, TTst, TChain, TAnd, TOr, TNot, TAndV, TOrV, TNotV, TIfE, TNil, TCons, TTup, TLst, TCB, TBM, TBM0, TPart, TNoPart, TSl, TNeg, GName, GNil, GCons, GTup, IList, ITup, IRng1, IRng2, IStr, TLstF, TCall, TYes, TNext, TPur, GPur, TRetP, unown_nil, unown_cons, un1, wipeD, List.getElem?_cons_zero, List.getElem?_cons_succ, List.set_cons_zero, List.set_cons_succ, List.set_nil, isD, beq_self_eq_true]
      refine ⟨by rw [List.length_map]; have := g.len; omega, ?_⟩
      refine seen_list g.row h0 h1 h2 (fun _ => rfl) (fun _ => rfl) (by simp) ?_
      refine ⟨⟨rfl, flat_strs _⟩, ?_⟩
      simp only [if_true]
      rw [inD_strs]
      exact q
-- the purse
def sp_law_take : SpD := fun ds M Q => ∃ p n, ds = [.ref p, .int n] ∧ M p = some .purse ∧ 0 < n ∧ n < 1073741824 ∧ ∀ k : Int, 0 ≤ k → k < n → Q (.int k) M
-- ways
def waysOf (n : Int) : List Str := ([("00", 1), ("01", 2), ("10", 4), ("11", 8)] : List (Str × Int)).filterMap fun p => if n / p.2 % 2 = 1 then some p.1 else none
def sp_law_ways : SpD := fun ds M Q => ∃ n : Int, ds = [.int n] ∧ 0 ≤ n ∧ n < 16 ∧ Q (lstS (waysOf n)) M
theorem cdiv_small {n z : Int} (h : 0 < z) (h2 : z < 1073741824) : CDiv n z := ⟨h, h2⟩
-- lines
def lineZ (ws : List Str) : Str := if ws = [] then "none" else joinZ " " ws
theorem isPys_strs (xs : List Str) : isPys (xs.map D.str) = true := isPys_all _ fun d hd => by
  obtain ⟨x, _, rfl⟩ := List.mem_map.mp hd
  rfl
theorem deps_strs (xs : List Str) : deps (xs.map D.str) = 0 := Nat.le_zero.mp (deps_le _ fun d hd => by
  obtain ⟨x, _, rfl⟩ := List.mem_map.mp hd
  exact Nat.le_refl _)
theorem eqv_nil (xs : List D) : eqvD (.lst xs) (.lst []) = decide (xs = []) := by
  cases xs with
  | nil => rfl
  | cons x r => rfl
theorem eqv_nilT (xs : List D) : eqvD (.tup xs) (.tup []) = decide (xs = []) := by
  cases xs with
  | nil => rfl
  | cons x r => rfl
def sp_law_line : SpD := fun ds M Q => ∃ ws : List Str, ds = [lstS ws] ∧ (ws.map (·.length)).sum + ws.length ≤ 16777216 ∧ Q (.str (lineZ ws)) M
theorem join_sp (ws : List Str) (k : D → Prop) (h : (ws.map (·.length)).sum + ws.length ≤ 16777216) (q : k (.str (joinZ " " ws))) : joinO (.str " ") [lstS ws] k := by
  unfold joinO lstS
  simp only [strsOf_map]
  exact ⟨by show _ + ws.length * 1 ≤ _; omega, q⟩
def planZ (many : Int) (rows : List Str) : Str := joinZ " " ((numS many.toNat ++ Str.ofString ":") :: rows)
theorem GoodP.sum {many : Int} {rows : List Str} (g : GoodP many rows) : (rows.map (·.length)).sum ≤ 4096 := by
  have h1 : ∀ (l : List Str), (∀ r ∈ l, r.length ≤ 64) → (l.map (·.length)).sum ≤ l.length * 64 := by
    intro l
    induction l with
    | nil => intro _; simp
    | cons a r ih =>
      intro h
      have := h a List.mem_cons_self
      have := ih fun b hb => h b (List.mem_cons_of_mem _ hb)
      simp only [List.map_cons, List.sum_cons, List.length_cons]
      omega
  have h2 := h1 rows fun r hr => by have := g.row r hr; have := g.hi; omega
  have := g.len
  omega
theorem numS_len64 {n : Int} (h0 : 1 ≤ n) (h1 : n ≤ 64) : (numS n.toNat).length ≤ 2 := by
  have := numS_len (n.toNat - 1) (by omega)
  rwa [show n.toNat - 1 + 1 = n.toNat by omega] at this
def sp_law_plan_line : SpD := fun ds M Q => ∃ many rows, ds = [.int many, lstS rows] ∧ GoodP many rows ∧ Q (.str (planZ many rows)) M
def T__law_plan_line : TSd := TRet (TBM "str" joinO (TC (.str " ")) (TCons (TBin addO (TLst (TCons (TBin addO (TCB strO (TCons (TVar 0) (TNil))) (TC (.str ":"))) (TNil))) (TVar 1)) (TNil)))
theorem len__law_plan_line : ∀ ds M Q, sp_law_plan_line ds M Q → ds.length = 2 := fun _ _ _ ⟨_, _, e, _⟩ => by rw [e]; rfl
theorem body__law_plan_line : ∀ (ds : List D) (M : Mem) (Q : D → Mem → Prop), sp_law_plan_line ds M Q → T__law_plan_line ⟨fun _ M' => Q .non M', Q, fun _ _ => False, fun _ _ => False⟩ (startD ["_law_many", "_law_rows"] ds) M := by
  rintro _ M Q ⟨many, rows, rfl, g, q⟩
  show T__law_plan_line _ [.val (.int many), .val (lstS rows)] M
  have h1 := g.lo
  have h2 := g.hi
  have h3 := g.len
  have h4 := numS_len64 h1 h2
  have h5 : (Str.ofString ":").length = 1 := by decide +kernel
  simp only [T__law_plan_line, TSeq, IZip, TRet, TRetN, DL.TSet, TDrop, TIf, TPar, TAsg, TFor, TFrz, frz, TSetOwn, TApp, TExt, TVar, TC, TBin, TTst, TChain, TAnd, TOr, TNot, TAndV, TOrV, TNotV, TIfE, TNil, TCons, TTup, TLst, TCB, TBM, TBM0, TPart, TNoPart, TSl, TNeg, GName, GNil, GCons, GTup, IList, ITup, IRng1, IRng2, IStr, TLstF, TCall, TYes, TNext, TPur, GPur, TRetP, unown_nil, unown_cons, un1, wipeD, List.getElem?_cons_zero, List.getElem?_cons_succ, List.set_cons_zero, List.set_cons_succ, List.set_nil, isD, beq_self_eq_true, strO, addO, lstS, List.length_cons, List.length_nil, List.length_map]
  refine ⟨trivial, ⟨by omega, by omega⟩, by omega, by decide, by omega, ?_⟩
  refine join_sp ((numS many.toNat ++ Str.ofString ":") :: rows) _ ?_ q
  have := g.sum
  simp only [List.map_cons, List.sum_cons, List.length_cons, len_app]
  omega
-- pairs
def pairs (n : Nat) : List (Nat × Nat) := (List.range n).flatMap fun i => (List.range (n - (i + 1))).map fun k => (i, i + 1 + k)
def pairD (p : Nat × Nat) : D := .tup [.int (p.1 : Int), .int (p.2 : Int)]
theorem flat_len {α β : Type} {f : α → List β} {c : Nat} : ∀ {l : List α}, (∀ a ∈ l, (f a).length ≤ c) → (l.flatMap f).length ≤ l.length * c
  | [], _ => by simp
  | a :: r, h => by
    have := h a List.mem_cons_self
    have := flat_len (f := f) (c := c) (l := r) fun b hb => h b (List.mem_cons_of_mem _ hb)
    rw [List.flatMap_cons, List.length_append, List.length_cons, Nat.succ_mul]
    omega
theorem pairs_mem {n : Nat} {p : Nat × Nat} (h : p ∈ pairs n) : p.1 < p.2 ∧ p.2 < n := by
  obtain ⟨i, hi, h⟩ := List.mem_flatMap.mp h
  obtain ⟨k, hk, rfl⟩ := List.mem_map.mp h
  have := List.mem_range.mp hk
  constructor
  · show i < i + 1 + k; omega
  · show i + 1 + k < n; omega
def sp_law_pairs : SpD := fun ds M Q => ∃ n : Nat, ds = [.int (n : Int)] ∧ n ≤ 64 ∧ Q (.lst ((pairs n).map pairD)) M
def T__law_pairs : TSd := TSeq (TSetOwn 1 (TLstF (TNil)))
  (TSeq (TFor (IRng1 (TCons (TVar 0) (TNil))) (GName 2) (TExt 1 (TLc (IRng2 (TCons (TBin addO (TVar 2) (TC (.int 1))) (TCons (TVar 0) (TNil)))) (GName 3) (TYes) (TTup (TCons (TVar 2) (TCons (TVar 3) (TNil)))) [3])))
  (TFrz 1 (TRet (TVar 1))))
theorem len__law_pairs : ∀ ds M Q, sp_law_pairs ds M Q → ds.length = 1 := fun _ _ _ ⟨_, e, _⟩ => by rw [e]; rfl
theorem body__law_pairs : ∀ (ds : List D) (M : Mem) (Q : D → Mem → Prop), sp_law_pairs ds M Q → T__law_pairs ⟨fun _ M' => Q .non M', Q, fun _ _ => False, fun _ _ => False⟩ (startD ["_law_many", "_law_found", "_law_i", "_law_j"] ds) M := by
  rintro _ M Q ⟨n, rfl, hn, q⟩
  show T__law_pairs _ [.val (.int (n : Int)), .no, .no, .no] M
  simp only [T__law_pairs, TSeq, IZip, TRet, TRetN, DL.TSet, TDrop, TIf, TPar, TAsg, TFor, TFrz, frz, TSetOwn, TApp, TExt, TVar, TC, TBin, TTst, TChain, TAnd, TOr, TNot, TAndV, TOrV, TNotV, TIfE, TNil, TCons, TTup, TLst, TCB, TBM, TBM0, TPart, TNoPart, TSl, TNeg, GName, GNil, GCons, GTup, IList, ITup, IRng1, IRng2, IStr, TLstF, TCall, TYes, TNext, TPur, GPur, TRetP, unown_nil, unown_cons, un1, wipeD, List.getElem?_cons_zero, List.getElem?_cons_succ, List.set_cons_zero, List.set_cons_succ, List.set_nil, isD, beq_self_eq_true, List.length_nil]
  refine ⟨by decide, ⟨by omega, by omega⟩, ?_⟩
  rw [rangeD_n]
  refine forD_inv (fun (k : Nat) => D.int (k : Int)) (List.range n) (fun r ρ M' => M' = M ∧ ∃ pre a b, List.range n = pre ++ r ∧ ρ = [.val (.int (n : Int)), .own ((pre.flatMap fun i => (List.range (n - (i + 1))).map fun k => (i, i + 1 + k)).map pairD), a, b]) _ _ (fun i r ρ M' Kn _ ⟨hM, pre, a, b, hp, hρ⟩ k => ?_) ⟨rfl, [], .no, .no, rfl, rfl⟩ (fun ρ M' ⟨hM, pre, a, b, hp, hρ⟩ => ?_)
  · subst hM hρ
    have hi : i < n := List.mem_range.mp (by rw [hp]; simp)
    have hpl : pre.length + (r.length + 1) = n := by have := congrArg List.length hp; simpa using this.symm
    simp only [TSeq, IZip, TRet, TRetN, DL.TSet, TDrop, TIf, TPar, TAsg, TFor, TFrz, frz, TSetOwn, TApp, TExt, TVar, TC, TBin, TTst, TChain, TAnd, TOr, TNot, TAndV, TOrV, TNotV, TIfE, TNil, TCons, TTup, TLst, TCB, TBM, TBM0, TPart, TNoPart, TSl, TNeg, GName, GNil, GCons, GTup, IList, ITup, IRng1, IRng2, IStr, TLstF, TCall, TYes, TNext, TPur, GPur, TRetP, unown_nil, unown_cons, un1, wipeD, List.getElem?_cons_zero, List.getElem?_cons_succ, List.set_cons_zero, List.set_cons_succ, List.set_nil, isD, beq_self_eq_true, TLc, TLcF, addO]
    refine ⟨⟨by omega, by omega, by omega, by omega⟩, by simp [rangeD]; omega, ?_⟩
    rw [rangeD_map, List.map_map]
    have e1 : ((n : Int) - ((i : Int) + 1)).toNat = n - (i + 1) := by omega
    rw [e1]
    refine lcD_m (D.int ∘ fun (k : Nat) => ((i : Int) + 1) + (k : Int)) (fun k => pairD (i, i + 1 + k)) _ _ (fun j hj K1 h1 => ?_) ?_
    · simp only [TSeq, IZip, TRet, TRetN, DL.TSet, TDrop, TIf, TPar, TAsg, TFor, TFrz, frz, TSetOwn, TApp, TExt, TVar, TC, TBin, TTst, TChain, TAnd, TOr, TNot, TAndV, TOrV, TNotV, TIfE, TNil, TCons, TTup, TLst, TCB, TBM, TBM0, TPart, TNoPart, TSl, TNeg, GName, GNil, GCons, GTup, IList, ITup, IRng1, IRng2, IStr, TLstF, TCall, TYes, TNext, TPur, GPur, TRetP, unown_nil, unown_cons, un1, wipeD, List.getElem?_cons_zero, List.getElem?_cons_succ, List.set_cons_zero, List.set_cons_succ, List.set_nil, isD, beq_self_eq_true, Function.comp, List.length_cons, List.length_nil]
      refine ⟨by decide, ?_⟩
      have e2 : pairD (i, i + 1 + j) = .tup [.int (i : Int), .int ((i : Int) + 1 + (j : Int))] := by unfold pairD; simp
      rw [← e2]
      exact h1
    · have hb := flat_len (f := fun i => (List.range (n - (i + 1))).map fun k => (i, i + 1 + k)) (c := 64) (l := pre) fun a _ => by simp; omega
      refine ⟨?_, k _ _ ⟨rfl, pre ++ [i], .val (.int (i : Int)), b, by rw [hp]; simp, ?_⟩⟩
      · rw [List.length_map, List.length_map, List.length_range]
        have := Nat.mul_le_mul_right 64 (show pre.length ≤ 64 by omega)
        omega
      · rw [List.flatMap_append, List.map_append]
        simp only [List.flatMap_cons, List.flatMap_nil, List.append_nil, List.map_map]
        rfl
  · subst hM hρ
    have : pre = List.range n := by simpa using hp.symm
    subst this
    exact q
-- rows
def bits (s : Str) (n : Int) : Prop := (s.length : Int) = n ∧ ∀ c ∈ tl s, c = 48 ∨ c = 49
def sp_law_row : SpD := fun ds M Q => ∃ p n, ds = [.ref p, .int n] ∧ M p = some .purse ∧ 0 ≤ n ∧ n ≤ 64 ∧ ∀ s, bits s n → Q (.str s) M
def T__law_row : TSd := TSeq (TSet 2 (TC (.str "")))
  (TSeq (TFor (IRng1 (TCons (TVar 1) (TNil))) (GName 3) (TSet 2 (TBin addO (TVar 2) (TBin ixO (TC (.str "01")) (TCall sp_law_take (TCons (TVar 0) (TCons (TC (.int 2)) (TNil))))))))
  (TRet (TVar 2)))
theorem len__law_row : ∀ ds M Q, sp_law_row ds M Q → ds.length = 2 := fun _ _ _ ⟨_, _, e, _⟩ => by rw [e]; rfl
theorem bits_app {s : Str} {n : Int} {c : Nat} (h : bits s n) (hc : c = 48 ∨ c = 49) : bits (s ++ ⟨#[c]⟩) (n + 1) := by
  refine ⟨?_, fun d hd => ?_⟩
  · rw [len_app]
    have := h.1
    show ((s.length + 1 : Nat) : Int) = n + 1
    omega
  · rw [tl_app] at hd
    rcases List.mem_append.mp hd with hd | hd
    · exact h.2 d hd
    · have : d = c := by simpa [tl] using hd
      rw [this]; exact hc
theorem ix01 {k : Int} {K : D → Prop} (h0 : 0 ≤ k) (h1 : k < 2) (q : ∀ c : Nat, c = 48 ∨ c = 49 → K (.str ⟨#[c]⟩)) : ixO (.str "01") (.int k) K := by
  have : k = 0 ∨ k = 1 := by omega
  rcases this with rfl | rfl
  · exact q 48 (.inl rfl)
  · exact q 49 (.inr rfl)
theorem body__law_row : ∀ (ds : List D) (M : Mem) (Q : D → Mem → Prop), sp_law_row ds M Q → T__law_row ⟨fun _ M' => Q .non M', Q, fun _ _ => False, fun _ _ => False⟩ (startD ["_law_purse_here", "_law_many", "_law_found", "_law_turn"] ds) M := by
  rintro _ M Q ⟨p, n, rfl, hp, h0, h1, q⟩
  show T__law_row _ [.val (.ref p), .val (.int n), .no, .no] M
  simp only [T__law_row, TSeq, IZip, TRet, TRetN, DL.TSet, TDrop, TIf, TPar, TAsg, TFor, TFrz, frz, TSetOwn, TApp, TExt, TVar, TC, TBin, TTst, TChain, TAnd, TOr, TNot, TAndV, TOrV, TNotV, TIfE, TNil, TCons, TTup, TLst, TCB, TBM, TBM0, TPart, TNoPart, TSl, TNeg, GName, GNil, GCons, GTup, IList, ITup, IRng1, IRng2, IStr, TLstF, TCall, TYes, TNext, TPur, GPur, TRetP, unown_nil, unown_cons, un1, wipeD, List.getElem?_cons_zero, List.getElem?_cons_succ, List.set_cons_zero, List.set_cons_succ, List.set_nil, isD, beq_self_eq_true]
  refine ⟨⟨by omega, by omega⟩, ?_⟩
  obtain ⟨m, rfl⟩ := Int.eq_ofNat_of_zero_le h0
  rw [rangeD_n]
  refine forD_n (fun (k : Nat) => D.int (k : Int)) (List.range m) (fun i ρ M' => M' = M ∧ ∃ s a, bits s i ∧ ρ = [.val (.ref p), .val (.int (m : Int)), .val (.str s), a]) _ _ (fun i a ρ M' Kn ha ⟨hM, s, b, hs, hρ⟩ k => ?_) ⟨rfl, Str.ofString "", .no, ⟨by decide +kernel, fun c hc => by cases hc⟩, rfl⟩ (fun ρ M' ⟨hM, s, b, hs, hρ⟩ => ?_)
  · subst hM hρ
    simp only [TSeq, IZip, TRet, TRetN, DL.TSet, TDrop, TIf, TPar, TAsg, TFor, TFrz, frz, TSetOwn, TApp, TExt, TVar, TC, TBin, TTst, TChain, TAnd, TOr, TNot, TAndV, TOrV, TNotV, TIfE, TNil, TCons, TTup, TLst, TCB, TBM, TBM0, TPart, TNoPart, TSl, TNeg, GName, GNil, GCons, GTup, IList, ITup, IRng1, IRng2, IStr, TLstF, TCall, TYes, TNext, TPur, GPur, TRetP, unown_nil, unown_cons, un1, wipeD, List.getElem?_cons_zero, List.getElem?_cons_succ, List.set_cons_zero, List.set_cons_succ, List.set_nil, isD, beq_self_eq_true]
    refine ⟨p, 2, rfl, hp, by decide, by decide, fun c hc0 hc1 => ix01 hc0 hc1 fun d hd => ?_⟩
    have hi : i < m := by
      have := (List.getElem?_eq_some_iff.mp ha).1
      simpa using this
    refine ⟨?_, k _ _ ⟨rfl, _, _, bits_app hs hd, rfl⟩⟩
    have := hs.1
    show s.length + 1 ≤ 16777216
    omega
  · subst hM hρ
    simp only [TSeq, IZip, TRet, TRetN, DL.TSet, TDrop, TIf, TPar, TAsg, TFor, TFrz, frz, TSetOwn, TApp, TExt, TVar, TC, TBin, TTst, TChain, TAnd, TOr, TNot, TAndV, TOrV, TNotV, TIfE, TNil, TCons, TTup, TLst, TCB, TBM, TBM0, TPart, TNoPart, TSl, TNeg, GName, GNil, GCons, GTup, IList, ITup, IRng1, IRng2, IStr, TLstF, TCall, TYes, TNext, TPur, GPur, TRetP, unown_nil, unown_cons, un1, wipeD, List.getElem?_cons_zero, List.getElem?_cons_succ, List.set_cons_zero, List.set_cons_succ, List.set_nil, isD, beq_self_eq_true]
    rw [List.length_range] at hs
    exact q s hs
end DL

namespace DL
open PySem PySem.Spec PyProof.Rows L2 TL
/-! ## the purse: what is drawn -/
def T__law_take : TSd := TSeq (TIf (TTst (TBin gtO (TPur (TVar 0) (TC (.int 0))) (TC (.int 0)))) (TSeq (TSet 2 (TBin modO (TCB intO (TCons (TPur (TVar 0) (TC (.int 0))) (TNil))) (TVar 1)))
  (TSeq (TAsg (TBin fdivO (TPur (TVar 0) (TC (.int 0))) (TVar 1)) (GPur (TVar 0) (TC (.int 0))))
  (TRet (TVar 2)))) (TNext))
  (TSeq (TAsg (TBin modO (TCB intO (TCons (TBin addO (TBin mulAllO (TPur (TVar 0) (TC (.int 1))) (TC (.int 1730508156817413461))) (TC (.int 2691343689449507681))) (TNil))) (TC (.int 2305843009213693951))) (GPur (TVar 0) (TC (.int 1))))
  (TRet (TBin modO (TCB intO (TCons (TBin addO (TBin fdivO (TPur (TVar 0) (TC (.int 1))) (TC (.int 8388608))) (TBin fdivO (TPur (TVar 0) (TC (.int 1))) (TC (.int 11)))) (TNil))) (TVar 1))))
theorem len__law_take : ∀ ds M Q, sp_law_take ds M Q → ds.length = 2 := fun _ _ _ ⟨_, _, e, _⟩ => by rw [e]; rfl
theorem purV0 {v : Int} (h : purV 0 v) : 0 ≤ v ∧ v.toNat < purseB := by
  rcases h with ⟨_, h⟩ | ⟨h, _⟩
  · exact h
  · cases h
theorem purV1 {v : Int} (h : purV 1 v) : 0 ≤ v ∧ v < 2305843009213693951 := by
  rcases h with ⟨h, _⟩ | ⟨_, h⟩
  · cases h
  · exact h
theorem body__law_take : ∀ (ds : List D) (M : Mem) (Q : D → Mem → Prop), sp_law_take ds M Q → T__law_take ⟨fun _ M' => Q .non M', Q, fun _ _ => False, fun _ _ => False⟩ (startD ["_law_purse_here", "_law_many", "_law_digit"] ds) M := by
  rintro _ M Q ⟨p, n, rfl, hp, n0, n1, q⟩
  show T__law_take _ [.val (.ref p), .val (.int n), .no] M
  simp only [T__law_take, TSeq, IZip, TRet, TRetN, DL.TSet, TDrop, TIf, TPar, TAsg, TFor, TFrz, frz, TSetOwn, TApp, TExt, TVar, TC, TBin, TTst, TChain, TAnd, TOr, TNot, TAndV, TOrV, TNotV, TIfE, TNil, TCons, TTup, TLst, TCB, TBM, TBM0, TPart, TNoPart, TSl, TNeg, GName, GNil, GCons, GTup, IList, ITup, IRng1, IRng2, IStr, TLstF, TCall, TYes, TNext, TPur, GPur, TRetP, unown_nil, unown_cons, un1, wipeD, List.getElem?_cons_zero, List.getElem?_cons_succ, List.set_cons_zero, List.set_cons_succ, List.set_nil, isD, beq_self_eq_true, purO, gtO, i20]
  refine ⟨hp, by simp, fun v hv => ?_⟩
  by_cases h : 0 < v
  · simp only [h, decide_true]
    refine ⟨hp, by simp, fun v2 hv2 => ?_⟩
    simp only [intO, modO, i2]
    refine ⟨n0, hp, by simp, fun v3 hv3 => ?_⟩
    simp only [fdivO, i2]
    obtain ⟨v30, v31⟩ := purV0 hv3
    refine ⟨⟨n0, n1⟩, hp, .inl ⟨rfl, Int.ediv_nonneg v30 (by omega), ?_⟩, ?_⟩
    · have h1 : v3 / n ≤ v3 := Int.ediv_le_self n v30
      exact Nat.lt_of_le_of_lt (Int.toNat_le_toNat h1) v31
    · exact q _ (Int.emod_nonneg _ (by omega)) (Int.emod_lt_of_pos _ n0)
  · simp only [h, decide_false]
    refine ⟨hp, by simp, fun v2 hv2 => ?_⟩
    simp only [mulAllO, addO, intO, modO, i2]
    refine ⟨.inr ⟨by decide, by decide⟩, by decide, hp, .inr ⟨rfl, Int.emod_nonneg _ (by decide), Int.emod_lt_of_pos _ (by decide)⟩, ?_⟩
    refine ⟨hp, by simp, fun v3 hv3 => ?_⟩
    simp only [fdivO, i2]
    refine ⟨⟨by decide, by decide⟩, hp, by simp, fun v4 hv4 => ?_⟩
    refine ⟨⟨by decide, by decide⟩, ?_⟩
    exact ⟨n0, q _ (Int.emod_nonneg _ (by omega)) (Int.emod_lt_of_pos _ n0)⟩
/-- the purse of cell k -/
def sp_law_purse : SpD := fun ds M Q => ∃ (ns : List Int) (k : Int), ds = [.fzl (ns.map D.int), .int k] ∧ ns.length ≤ 63 ∧ (∀ z ∈ ns, Builtin.Int.intBits z ≤ 1048576) ∧ 0 ≤ k ∧ k < 64 ∧ ∀ (p : Addr) (M' : Mem), M' p = some .purse → Q (.ref p) M'
def T__law_purse : TSd := TSeq (TSet 2 (TIfE (TTst (TBin ltO (TVar 1) (TCB lenO (TCons (TVar 0) (TNil))))) (TCB intO (TCons (TBin ixO (TVar 0) (TVar 1)) (TNil))) (TBin addO (TBin mulAllO (TBin mulAllO (TC (.int 41077)) (TVar 1)) (TVar 1)) (TC (.int 2903)))))
  (TSeq (TSet 3 (TBin addO (TC (.int 700001)) (TBin mulAllO (TC (.int 5003)) (TVar 1))))
  (TSeq (TFor (IList (TBin addO (TSl slO (TVar 0) (TNoPart) (TPart (TC (.int 5)))) (TLst (TCons (TVar 2) (TNil))))) (GName 4) (TSeq (TSet 3 (TBin addO (TBin addO (TBin mulAllO (TVar 3) (TC (.int 1181783497276652981))) (TBin modO (TCB intO (TCons (TVar 4) (TNil))) (TC (.int 2305843009213693951)))) (TCB intO (TCons (TBin ltO (TVar 4) (TC (.int 0))) (TNil)))))
  (TSet 3 (TBin modO (TCB intO (TCons (TVar 3) (TNil))) (TC (.int 2305843009213693951))))))
  (TRetP (TLstF (TCons (TIfE (TTst (TBin geO (TCB absO (TCons (TVar 2) (TNil))) (TBin powO (TC (.int 10)) (TC (.int 18))))) (TCB absO (TCons (TVar 2) (TNil))) (TC (.int 0))) (TCons (TVar 3) (TNil)))))))
theorem len__law_purse : ∀ ds M Q, sp_law_purse ds M Q → ds.length = 2 := fun _ _ _ ⟨_, _, e, _⟩ => by rw [e]; rfl
theorem cutD_map {α β : Type} (f : α → β) (xs : List α) (lo hi : Option Int) : cutD (xs.map f) lo hi = (cutD xs lo hi).map f := by
  unfold cutD
  rw [List.length_map, ← List.map_drop, ← List.map_take]
theorem powB : purseB = 2 ^ 1100000 := rfl
theorem bits_lt {z : Int} (h : Builtin.Int.intBits z ≤ 1048576) : z.natAbs < purseB := by
  unfold Builtin.Int.intBits at h
  have h3 : (0 : Nat) < purseB := by rw [powB]; exact Nat.pow_pos (by decide)
  by_cases hz : z = 0
  · subst hz; exact h3
  · have hz' : (z == 0) = false := by simpa using hz
    rw [hz'] at h
    simp only [Bool.false_eq_true, if_false] at h
    have h1 : z.natAbs.log2 < 1048576 := h
    have h2 : z.natAbs < 2 ^ 1048576 := (Nat.log2_lt (by omega)).mp h1
    rw [powB]
    exact Nat.lt_of_lt_of_le h2 (Nat.pow_le_pow_right (by decide) (by decide))
theorem small_lt {n : Nat} (h : n < 2 ^ 64) : n < purseB := by
  rw [powB]
  exact Nat.lt_of_lt_of_le h (Nat.pow_le_pow_right (by decide) (by decide))
theorem body__law_purse : ∀ (ds : List D) (M : Mem) (Q : D → Mem → Prop), sp_law_purse ds M Q → T__law_purse ⟨fun _ M' => Q .non M', Q, fun _ _ => False, fun _ _ => False⟩ (startD ["_law_script", "_law_k", "_law_cell", "_law_state", "_law_one"] ds) M := by
  rintro _ M Q ⟨ns, k, rfl, hl, hb, k0, k1, q⟩
  show T__law_purse _ [.val (.fzl (ns.map D.int)), .val (.int k), .no, .no, .no] M
  have cell : ∀ K : D → Mem → Prop, (∀ c : Int, c.natAbs < purseB → K (.int c) M) → (TIfE (TTst (TBin ltO (TVar 1) (TCB lenO (TCons (TVar 0) (TNil))))) (TCB intO (TCons (TBin ixO (TVar 0) (TVar 1)) (TNil))) (TBin addO (TBin mulAllO (TBin mulAllO (TC (.int 41077)) (TVar 1)) (TVar 1)) (TC (.int 2903)))) [.val (.fzl (ns.map D.int)), .val (.int k), .no, .no, .no] M K := by
    intro K hK
    simp only [TSeq, IZip, TRet, TRetN, DL.TSet, TDrop, TIf, TPar, TAsg, TFor, TFrz, frz, TSetOwn, TApp, TExt, TVar, TC, TBin, TTst, TChain, TAnd, TOr, TNot, TAndV, TOrV, TNotV, TIfE, TNil, TCons, TTup, TLst, TCB, TBM, TBM0, TPart, TNoPart, TSl, TNeg, GName, GNil, GCons, GTup, IList, ITup, IRng1, IRng2, IStr, TLstF, TCall, TYes, TNext, TPur, GPur, TRetP, unown_nil, unown_cons, un1, wipeD, List.getElem?_cons_zero, List.getElem?_cons_succ, List.set_cons_zero, List.set_cons_succ, List.set_nil, isD, beq_self_eq_true, lenO, lenD, ltO, i20, List.length_map]
    by_cases h : k < (ns.length : Int)
    · simp only [h, decide_true]
      obtain ⟨m, rfl⟩ := Int.eq_ofNat_of_zero_le k0
      have hm : m < ns.length := by omega
      have e : atI (ns.map D.int) (m : Int) = some (.int ns[m]) := by rw [atI_nat, List.getElem?_map]; simp [hm]
      simp only [ixO, e, intO]
      exact hK _ (bits_lt (hb _ (List.getElem_mem hm)))
    · simp only [h, decide_false, mulAllO, addO]
      refine ⟨.inl ⟨by decide, by decide⟩, .inr ⟨by omega, by omega⟩, hK _ ?_⟩
      have h1 : 41077 * k * k ≤ 41077 * 64 * 64 := Int.mul_le_mul (by omega) (by omega) k0 (by decide)
      have h2 : 0 ≤ 41077 * k * k := Int.mul_nonneg (by omega) k0
      exact small_lt (by omega)
  simp only [T__law_purse, TSeq, DL.TSet]
  refine cell _ fun c hc => ?_
  simp only [TSeq, IZip, TRet, TRetN, DL.TSet, TDrop, TIf, TPar, TAsg, TFor, TFrz, frz, TSetOwn, TApp, TExt, TVar, TC, TBin, TTst, TChain, TAnd, TOr, TNot, TAndV, TOrV, TNotV, TIfE, TNil, TCons, TTup, TLst, TCB, TBM, TBM0, TPart, TNoPart, TSl, TNeg, GName, GNil, GCons, GTup, IList, ITup, IRng1, IRng2, IStr, TLstF, TCall, TYes, TNext, TPur, GPur, TRetP, unown_nil, unown_cons, un1, wipeD, List.getElem?_cons_zero, List.getElem?_cons_succ, List.set_cons_zero, List.set_cons_succ, List.set_nil, isD, beq_self_eq_true, mulAllO, addO, slO, List.length_map, cutD_map]
  refine ⟨.inl ⟨by decide, by decide⟩, by simp, ?_⟩
  have hcl := cutD_len ns none (some 5)
  refine ⟨by simp; omega, ?_⟩
  have e : (cutD ns none (some 5)).map D.int ++ [D.int c] = ((cutD ns none (some 5)) ++ [c]).map D.int := by rw [List.map_append]; rfl
  rw [e]
  refine forD_inv D.int _ (fun _ ρ M' => M' = M ∧ ∃ (st : Int) (a : Sl), 0 ≤ st ∧ st < 2305843009213693951 ∧ ρ = [.val (.fzl (ns.map D.int)), .val (.int k), .val (.int c), .val (.int st), a]) _ _ (fun z r ρ M' Kn _ ⟨hM, st, a, s0, s1, hρ⟩ kk => ?step) ⟨rfl, _, _, by omega, by omega, rfl⟩ (fun ρ M' ⟨hM, st, a, s0, s1, hρ⟩ => ?fin)
  case step =>
    subst hM hρ
    simp only [TSeq, IZip, TRet, TRetN, DL.TSet, TDrop, TIf, TPar, TAsg, TFor, TFrz, frz, TSetOwn, TApp, TExt, TVar, TC, TBin, TTst, TChain, TAnd, TOr, TNot, TAndV, TOrV, TNotV, TIfE, TNil, TCons, TTup, TLst, TCB, TBM, TBM0, TPart, TNoPart, TSl, TNeg, GName, GNil, GCons, GTup, IList, ITup, IRng1, IRng2, IStr, TLstF, TCall, TYes, TNext, TPur, GPur, TRetP, unown_nil, unown_cons, un1, wipeD, List.getElem?_cons_zero, List.getElem?_cons_succ, List.set_cons_zero, List.set_cons_succ, List.set_nil, isD, beq_self_eq_true, mulAllO, addO, intO, modO, i2, ltO, i20]
    refine ⟨.inl ⟨by omega, by omega⟩, by decide, by decide, kk _ _ ⟨rfl, _, _, Int.emod_nonneg _ (by decide), Int.emod_lt_of_pos _ (by decide), rfl⟩⟩
  case fin =>
    subst hM hρ
    simp only [TSeq, IZip, TRet, TRetN, DL.TSet, TDrop, TIf, TPar, TAsg, TFor, TFrz, frz, TSetOwn, TApp, TExt, TVar, TC, TBin, TTst, TChain, TAnd, TOr, TNot, TAndV, TOrV, TNotV, TIfE, TNil, TCons, TTup, TLst, TCB, TBM, TBM0, TPart, TNoPart, TSl, TNeg, GName, GNil, GCons, GTup, IList, ITup, IRng1, IRng2, IStr, TLstF, TCall, TYes, TNext, TPur, GPur, TRetP, unown_nil, unown_cons, un1, wipeD, List.getElem?_cons_zero, List.getElem?_cons_succ, List.set_cons_zero, List.set_cons_succ, List.set_nil, isD, beq_self_eq_true, absO, geO, i20, powO, i2]
    have ha : 0 ≤ (if c < 0 then -c else c) ∧ (if c < 0 then -c else c).toNat < purseB := by
      split
      · refine ⟨by omega, ?_⟩
        have : (-c).toNat = c.natAbs := by omega
        rw [this]; exact hc
      · refine ⟨by omega, ?_⟩
        have : c.toNat = c.natAbs := by omega
        rw [this]; exact hc
    have h0 : (0 : Nat) < purseB := small_lt (by decide)
    refine ⟨⟨by decide, by decide, by decide⟩, ?_⟩
    generalize (if c < 0 then -c else c) = b at ha
    cases hd : decide ((10 : Int) ^ (18 : Int).toNat ≤ b) with
    | true => exact ⟨by simp, ⟨ha.1, ha.2, s0, s1⟩, fun p hp => q p _ updM_same⟩
    | false => exact ⟨by simp, ⟨by decide, h0, s0, s1⟩, fun p hp => q p _ updM_same⟩
end DL

namespace DL
open PySem PySem.Spec PyProof.Rows L2 TL
/-! ## drawn plans, what they lack -/
structure GoodR (many : Int) (rows : List Str) : Prop where
  lo : 1 ≤ many
  hi : many ≤ 64
  len : rows.length ≤ 64
  row : ∀ r ∈ rows, bits r many
theorem GoodR.p {many : Int} {rows : List Str} (g : GoodR many rows) : GoodP many rows := ⟨g.lo, g.hi, g.len, fun r hr => (g.row r hr).1⟩
theorem bits_rep {c : Nat} (hc : c = 48 ∨ c = 49) (n : Nat) : bits (repS ⟨#[c]⟩ n) n := by
  have e : tl (repS ⟨#[c]⟩ n) = List.replicate n c := by
    show (List.replicate n [c]).flatten = _
    induction n with
    | zero => rfl
    | succ n ih => rw [List.replicate_succ, List.flatten_cons, ih]; rfl
  refine ⟨by rw [len_tl, e, List.length_replicate], fun d hd => ?_⟩
  rw [e] at hd
  rw [(List.mem_replicate.mp hd).2]
  exact hc
def sp_law_some_plan : SpD := fun ds M Q => ∃ p, ds = [.ref p] ∧ M p = some .purse ∧ ∀ many rows, GoodR many rows → Q (.tup [.int many, lstS rows]) M
def T__law_some_plan : TSd := TSeq (TSet 1 (TCall sp_law_take (TCons (TVar 0) (TCons (TC (.int 8)) (TNil)))))
  (TSeq (TSet 2 (TBin addO (TC (.int 1)) (TCall sp_law_take (TCons (TVar 0) (TCons (TBin ixO (TLst (TCons (TC (.int 5)) (TCons (TC (.int 5)) (TCons (TC (.int 5)) (TCons (TC (.int 5)) (TCons (TC (.int 5)) (TCons (TC (.int 3)) (TCons (TC (.int 64)) (TCons (TC (.int 4)) (TNil)))))))))) (TVar 1)) (TNil))))))
  (TSeq (TSet 3 (TCall sp_law_take (TCons (TVar 0) (TCons (TBin ixO (TLst (TCons (TC (.int 10)) (TCons (TC (.int 10)) (TCons (TC (.int 10)) (TCons (TC (.int 7)) (TCons (TC (.int 5)) (TCons (TC (.int 17)) (TCons (TC (.int 4)) (TCons (TC (.int 65)) (TNil)))))))))) (TVar 1)) (TNil)))))
  (TSeq (TSetOwn 4 (TLstF (TNil)))
  (TSeq (TFor (IRng1 (TCons (TVar 3) (TNil))) (GName 5) (TApp 4 (TCall sp_law_row (TCons (TVar 0) (TCons (TVar 2) (TNil))))))
  (TFrz 4 (TSeq (TIf (TTst (TBin eqOp (TVar 1) (TC (.int 6)))) (TSet 4 (TBin addO (TVar 4) (TBin ixO (TLst (TCons (TLst (TNil)) (TCons (TLst (TCons (TBin mulAllO (TC (.str "0")) (TVar 2)) (TNil))) (TCons (TLst (TCons (TBin mulAllO (TC (.str "1")) (TVar 2)) (TNil))) (TCons (TLst (TCons (TBin mulAllO (TC (.str "1")) (TVar 2)) (TCons (TBin mulAllO (TC (.str "0")) (TVar 2)) (TNil)))) (TNil)))))) (TCall sp_law_take (TCons (TVar 0) (TCons (TC (.int 4)) (TNil))))))) (TNext))
  (TRet (TTup (TCons (TVar 2) (TCons (TVar 4) (TNil)))))))))))
theorem len__law_some_plan : ∀ ds M Q, sp_law_some_plan ds M Q → ds.length = 1 := fun _ _ _ ⟨_, e, _⟩ => by rw [e]; rfl
theorem form_sizes {f : Int} (h0 : 0 ≤ f) (h1 : f < 8) : ∃ a b : Int, atI [D.int 5, .int 5, .int 5, .int 5, .int 5, .int 3, .int 64, .int 4] f = some (.int a) ∧ atI [D.int 10, .int 10, .int 10, .int 7, .int 5, .int 17, .int 4, .int 65] f = some (.int b) ∧ 1 ≤ a ∧ a ≤ 64 ∧ 1 ≤ b ∧ b ≤ 65 ∧ (f = 6 → b = 4) := by
  have : f = 0 ∨ f = 1 ∨ f = 2 ∨ f = 3 ∨ f = 4 ∨ f = 5 ∨ f = 6 ∨ f = 7 := by omega
  rcases this with rfl | rfl | rfl | rfl | rfl | rfl | rfl | rfl <;> exact ⟨_, _, rfl, rfl, by decide, by decide, by decide, by decide, by decide⟩
theorem mul_rep {c : Nat} {n : Int} {K : D → Prop} (h0 : 1 ≤ n) (h1 : n ≤ 64) (q : K (.str (repS ⟨#[c]⟩ n.toNat))) : mulAllO (.str ⟨#[c]⟩) (.int n) K := ⟨⟨by omega, by omega, by show 1 * n.toNat ≤ _; omega⟩, q⟩
theorem bits_rep' {c : Nat} (hc : c = 48 ∨ c = 49) {n : Int} (h0 : 1 ≤ n) : bits (repS ⟨#[c]⟩ n.toNat) n := by
  have := bits_rep hc n.toNat
  rwa [Int.toNat_of_nonneg (by omega)] at this
theorem body__law_some_plan : ∀ (ds : List D) (M : Mem) (Q : D → Mem → Prop), sp_law_some_plan ds M Q → T__law_some_plan ⟨fun _ M' => Q .non M', Q, fun _ _ => False, fun _ _ => False⟩ (startD ["_law_purse_here", "_law_form", "_law_many", "_law_deep", "_law_rows", "_law_turn"] ds) M := by
  rintro _ M Q ⟨p, rfl, hp, q⟩
  show T__law_some_plan _ [.val (.ref p), .no, .no, .no, .no, .no] M
  simp only [T__law_some_plan, TSeq, IZip, TRet, TRetN, DL.TSet, TDrop, TIf, TPar, TAsg, TFor, TFrz, frz, TSetOwn, TApp, TExt, TVar, TC, TBin, TTst, TChain, TAnd, TOr, TNot, TAndV, TOrV, TNotV, TIfE, TNil, TCons, TTup, TLst, TCB, TBM, TBM0, TPart, TNoPart, TSl, TNeg, GName, GNil, GCons, GTup, IList, ITup, IRng1, IRng2, IStr, TLstF, TCall, TYes, TNext, TPur, GPur, TRetP, unown_nil, unown_cons, un1, wipeD, List.getElem?_cons_zero, List.getElem?_cons_succ, List.set_cons_zero, List.set_cons_succ, List.set_nil, isD, beq_self_eq_true, List.length_cons, List.length_nil]
  refine ⟨p, 8, rfl, hp, by decide, by decide, fun f f0 f1 => ?_⟩
  obtain ⟨a, b, ea, eb, a0, a1, b0, b1, b6⟩ := form_sizes f0 f1
  refine ⟨by decide, ?_⟩
  simp only [ixO, ea, eb]
  refine ⟨p, a, rfl, hp, by omega, by omega, fun m m0 m1 => ?_⟩
  simp only [addO]
  refine ⟨by decide, ?_⟩
  refine ⟨p, b, rfl, hp, by omega, by omega, fun dp d0 d1 => ?_⟩
  refine ⟨by decide, ⟨by omega, by omega⟩, ?_⟩
  obtain ⟨n, rfl⟩ := Int.eq_ofNat_of_zero_le d0
  rw [rangeD_n]
  refine forD_n (fun (k : Nat) => D.int (k : Int)) (List.range n) (fun i ρ M' => M' = M ∧ ∃ rows c, rows.length = i ∧ (∀ r ∈ rows, bits r (1 + m)) ∧ ρ = [.val (.ref p), .val (.int f), .val (.int (1 + m)), .val (.int (n : Int)), .own (rows.map D.str), c]) _ _ (fun i z ρ M' Kn hz ⟨hM, rows, c, hl, hb, hρ⟩ k => ?step) ⟨rfl, [], .no, rfl, (fun r hr => by cases hr), rfl⟩ (fun ρ M' ⟨hM, rows, c, hl, hb, hρ⟩ => ?fin)
  case step =>
    subst hM hρ
    have hi : i < n := by
      have := (List.getElem?_eq_some_iff.mp hz).1
      simpa using this
    simp only [TSeq, IZip, TRet, TRetN, DL.TSet, TDrop, TIf, TPar, TAsg, TFor, TFrz, frz, TSetOwn, TApp, TExt, TVar, TC, TBin, TTst, TChain, TAnd, TOr, TNot, TAndV, TOrV, TNotV, TIfE, TNil, TCons, TTup, TLst, TCB, TBM, TBM0, TPart, TNoPart, TSl, TNeg, GName, GNil, GCons, GTup, IList, ITup, IRng1, IRng2, IStr, TLstF, TCall, TYes, TNext, TPur, GPur, TRetP, unown_nil, unown_cons, un1, wipeD, List.getElem?_cons_zero, List.getElem?_cons_succ, List.set_cons_zero, List.set_cons_succ, List.set_nil, isD, beq_self_eq_true]
    refine ⟨p, 1 + m, rfl, hp, by omega, by omega, fun s hs => ⟨by rw [List.length_map]; omega, k _ _ ⟨rfl, rows ++ [s], .val (.int (z : Int)), by rw [List.length_append, hl]; rfl, ?_, by rw [List.map_append]; rfl⟩⟩⟩
    intro r hr
    rcases List.mem_append.mp hr with hr | hr
    · exact hb r hr
    · rw [List.mem_singleton.mp hr]; exact hs
  case fin =>
    subst hM hρ
    rw [List.length_range] at hl
    simp only [TSeq, IZip, TRet, TRetN, DL.TSet, TDrop, TIf, TPar, TAsg, TFor, TFrz, frz, TSetOwn, TApp, TExt, TVar, TC, TBin, TTst, TChain, TAnd, TOr, TNot, TAndV, TOrV, TNotV, TIfE, TNil, TCons, TTup, TLst, TCB, TBM, TBM0, TPart, TNoPart, TSl, TNeg, GName, GNil, GCons, GTup, IList, ITup, IRng1, IRng2, IStr, TLstF, TCall, TYes, TNext, TPur, GPur, TRetP, unown_nil, unown_cons, un1, wipeD, List.getElem?_cons_zero, List.getElem?_cons_succ, List.set_cons_zero, List.set_cons_succ, List.set_nil, isD, beq_self_eq_true, eq_ii]
    by_cases h6 : f = 6
    · have hb4 := b6 h6
      simp only [h6, decide_true, List.length_nil, List.length_cons]
      refine ⟨by decide, ?_⟩
      refine mul_rep (c := 48) (by omega) (by omega) ⟨by decide, ?_⟩
      refine mul_rep (c := 49) (by omega) (by omega) ⟨by decide, ?_⟩
      refine mul_rep (c := 49) (by omega) (by omega) ?_
      refine mul_rep (c := 48) (by omega) (by omega) ⟨by decide, ?_⟩
      refine ⟨by decide, ?_⟩
      refine ⟨p, 4, rfl, hp, by decide, by decide, fun t t0 t1 => ?_⟩
      have z0 := bits_rep' (.inl rfl : (48 : Nat) = 48 ∨ (48 : Nat) = 49) (n := 1 + m) (by omega)
      have z1 := bits_rep' (.inr rfl : (49 : Nat) = 48 ∨ (49 : Nat) = 49) (n := 1 + m) (by omega)
      have fin : ∀ xs : List Str, xs.length ≤ 2 → (∀ r ∈ xs, bits r (1 + m)) → Q (.tup [.int (1 + m), lstS (rows ++ xs)]) M' := fun xs h1 h2 => q _ _ ⟨by omega, by omega, by rw [List.length_append]; omega, fun r hr => by
        rcases List.mem_append.mp hr with hr | hr
        · exact hb r hr
        · exact h2 r hr⟩
      have : t = 0 ∨ t = 1 ∨ t = 2 ∨ t = 3 := by omega
      rcases this with rfl | rfl | rfl | rfl
      · refine ⟨by simp; omega, by decide, ?_⟩
        have := fin [] (by decide) (fun r hr => by cases hr)
        rw [lstS, List.map_append] at this
        exact this
      · refine ⟨by simp; omega, by decide, ?_⟩
        have := fin [repS ⟨#[48]⟩ (1 + m).toNat] (by simp) (fun r hr => by rw [List.mem_singleton.mp hr]; exact z0)
        rw [lstS, List.map_append] at this
        exact this
      · refine ⟨by simp; omega, by decide, ?_⟩
        have := fin [repS ⟨#[49]⟩ (1 + m).toNat] (by simp) (fun r hr => by rw [List.mem_singleton.mp hr]; exact z1)
        rw [lstS, List.map_append] at this
        exact this
      · refine ⟨by simp; omega, by decide, ?_⟩
        have := fin [repS ⟨#[49]⟩ (1 + m).toNat, repS ⟨#[48]⟩ (1 + m).toNat] (by simp) (fun r hr => by
          rcases List.mem_cons.mp hr with rfl | hr
          · exact z1
          · rw [List.mem_singleton.mp hr]; exact z0)
        rw [lstS, List.map_append] at this
        exact this
    · simp only [h6, decide_false, List.length_nil, List.length_cons]
      exact ⟨by decide, q _ _ ⟨by omega, by omega, by omega, hb⟩⟩
-- missing
def lackD (p : Nat × Nat) (s : Str) : D := .tup [.int (p.1 : Int), .int (p.2 : Int), .str s]
def missP (rows ws : List Str) (p : Nat × Nat) : List D := (ws.filter fun s => !decide (s ∈ rows.map (seen p.1 p.2))).map (lackD p)
def missL (n : Nat) (rows ws : List Str) : List D := (pairs n).flatMap (missP rows ws)
theorem pairs_small {n : Nat} (h : n ≤ 64) : (pairs n).length ≤ 2016 := by
  have : ∀ k ≤ 64, (pairs k).length ≤ 2016 := by decide +kernel
  exact this n h
theorem pairs_len {n : Nat} (h : n ≤ 64) : (pairs n).length ≤ 4096 := by
  have hb := flat_len (f := fun i => (List.range (n - (i + 1))).map fun k => (i, i + 1 + k)) (c := 64) (l := List.range n) fun a _ => by simp; omega
  rw [List.length_range] at hb
  have := Nat.mul_le_mul_right 64 h
  unfold pairs
  omega
def sp_law_missing : SpD := fun ds M Q => ∃ (n : Nat) (rows ws : List Str), ds = [.int (n : Int), lstS rows, lstS ws] ∧ GoodP n rows ∧ ws.length ≤ 4 ∧ Q (.lst (missL n rows ws)) M
end DL

namespace DL
open PySem PySem.Spec PyProof.Rows L2 TL
/-! ## lines that are read back -/
theorem pieces_join {ps : List Str} (hne : ps ≠ []) (h : ∀ p ∈ ps, 32 ∉ tl p) : pieces (joinZ " " ps) = ps := by
  unfold pieces splitZ joinZ
  rw [tl_mkS]
  have e : tl (Str.ofString " ") = [32] := by decide +kernel
  rw [e, spl_join (by simpa using hne) (fun p hp => by
    obtain ⟨x, hx, rfl⟩ := List.mem_map.mp hp
    exact h x hx), List.map_map]
  exact (List.map_congr_left fun x _ => mkS_tl x).trans (List.map_id ps)
theorem joinZ_len (ps : List Str) : (joinZ " " ps).length ≤ (ps.map (·.length)).sum + ps.length := by
  have := joinL_len (tl (Str.ofString " ")) (ps.map tl)
  have e : (tl (Str.ofString " ")).length = 1 := by decide +kernel
  have e2 : ((ps.map tl).map List.length) = ps.map (·.length) := by
    rw [List.map_map]
    exact List.map_congr_left fun x _ => (len_tl x).symm
  rw [e, e2, List.length_map] at this
  rw [len_tl, joinZ, tl_mkS]
  omega
def lineOk (ws : List Str) : Bool := decide (ws = []) || (decide (lineZ ws ≠ "none") && decide (pieces (lineZ ws) = ws) && ws.all (fun y => decide (y ∈ WAYSZ)) && rising ws)
theorem lines_ok : ∀ k < 16, lineOk (waysOf (k : Nat)) = true ∧ (lineZ (waysOf (k : Nat))).length ≤ 20 ∧ ((waysOf (k : Nat)).map (·.length)).sum + (waysOf (k : Nat)).length ≤ 20 ∧ (waysOf (k : Nat)).length ≤ 4 ∧ (waysOf (k : Nat)).all (fun y => decide (y ∈ WAYSZ)) = true := by decide +kernel
structure GoodW (ws : List Str) : Prop where
  read : waysIn (.str (lineZ ws)) = tupS ws
  len : (lineZ ws).length ≤ 20
  sum : (ws.map (·.length)).sum + ws.length ≤ 20
  few : ws.length ≤ 4
  sub : ∀ y ∈ ws, y ∈ WAYSZ
theorem goodW {n : Int} (h0 : 0 ≤ n) (h1 : n < 16) : GoodW (waysOf n) := by
  obtain ⟨k, rfl⟩ := Int.eq_ofNat_of_zero_le h0
  obtain ⟨a, b, c, d, e⟩ := lines_ok k (by omega)
  refine ⟨?_, b, c, d, fun y hy => of_decide_eq_true (List.all_eq_true.mp e y hy)⟩
  unfold lineOk at a
  generalize waysOf (k : Int) = ws at a ⊢
  by_cases hw : ws = []
  · subst hw; rfl
  · simp only [hw, decide_false, Bool.false_or, Bool.and_eq_true, decide_eq_true_eq] at a
    obtain ⟨⟨⟨a1, a2⟩, a3⟩, a4⟩ := a
    simp only [waysIn, a1, if_false, a2, a3, a4, Bool.and_self, if_true]
end DL

namespace DL
open PySem PySem.Spec PyProof.Rows L2 TL
/-! ## plans' lines -/
theorem sizeIx_ok : ∀ k < 64, sizeIx (numS (k + 1) ++ Str.ofString ":") = k := by decide +kernel
theorem sizes_nosp : ∀ k < 64, 32 ∉ tl (numS (k + 1) ++ Str.ofString ":") := by decide +kernel
theorem sizes_mem {k : Nat} (h : k < 64) : (numS (k + 1) ++ Str.ofString ":") ∈ sizesZ := List.mem_map.mpr ⟨k, List.mem_range.mpr h, rfl⟩
theorem count01 : ∀ l : List Nat, (∀ c ∈ l, c = 48 ∨ c = 49) → l.count 48 + l.count 49 = l.length
  | [], _ => rfl
  | a :: r, h => by
    have ih := count01 r fun c hc => h c (List.mem_cons_of_mem _ hc)
    rw [List.count_cons, List.count_cons, List.length_cons]
    rcases h a List.mem_cons_self with rfl | rfl
    · simp; omega
    · simp; omega
theorem isSigns_bits {r : Str} {many : Int} (h : bits r many) : isSigns (.str r) many = true := by
  have e := count01 (tl r) h.2
  have e2 := h.1
  show (decide ((r.length : Int) = many) && decide (((tl r).count 48 : Int) + ((tl r).count 49 : Int) = many)) = true
  rw [len_tl] at e2 ⊢
  simp only [Bool.and_eq_true, decide_eq_true_eq]
  exact ⟨e2, by omega⟩
theorem bits_nosp {r : Str} {many : Int} (h : bits r many) : 32 ∉ tl r := fun c => by
  rcases h.2 32 c with h | h <;> cases h
theorem planZ_len {many : Int} {rows : List Str} (g : GoodP many rows) : (planZ many rows).length ≤ 5000 := by
  have h1 := joinZ_len ((numS many.toNat ++ Str.ofString ":") :: rows)
  have h2 := g.sum
  have h3 := g.len
  have h4 := numS_len64 g.lo g.hi
  have h5 : (Str.ofString ":").length = 1 := by decide +kernel
  simp only [List.map_cons, List.sum_cons, List.length_cons, len_app] at h1
  unfold planZ
  omega
theorem plan_read {many : Int} {rows : List Str} (g : GoodR many rows) : planIn (.str (planZ many rows)) = .tup [.int many, lstS rows] := by
  have h1 := g.lo
  have h2 := g.hi
  have ek : many.toNat - 1 + 1 = many.toNat := by omega
  have e1 : pieces (planZ many rows) = (numS many.toNat ++ Str.ofString ":") :: rows := pieces_join (by simp) fun p hp => by
    rcases List.mem_cons.mp hp with rfl | hp
    · have := sizes_nosp (many.toNat - 1) (by omega)
      rwa [ek] at this
    · exact bits_nosp (g.row p hp)
  unfold planIn
  simp only [e1]
  have e2 : sizeIx (numS many.toNat ++ Str.ofString ":") = many.toNat - 1 := by
    have := sizeIx_ok (many.toNat - 1) (by omega)
    rwa [ek] at this
  have e3 : (numS many.toNat ++ Str.ofString ":") ∈ sizesZ := by
    have := sizes_mem (k := many.toNat - 1) (by omega)
    rwa [ek] at this
  have e4 : (((many.toNat - 1 : Nat) : Int) + 1) = many := by omega
  have e5 : rows.all (fun t => isSigns (.str t) many) = true := List.all_eq_true.mpr fun r hr => isSigns_bits (g.row r hr)
  simp only [e2, e3, e4, e5, g.len, decide_true, Bool.and_self, if_true]
end DL

namespace DL
open PySem PySem.Spec PyProof.Rows L2 TL
/-! ## pairs of the checker; faults as data -/
def sp_pairs_of : SpD := fun ds M Q => ∃ n : Nat, ds = [.int (n : Int)] ∧ n ≤ 64 ∧ Q (.lst ((pairs n).map pairD)) M
def T_pairs_of : TSd := TRet (TLc2 (IRng1 (TCons (TVar 0) (TNil))) (GName 1) (TYes) (IRng2 (TCons (TBin addO (TVar 1) (TC (.int 1))) (TCons (TVar 0) (TNil)))) (GName 2) (TYes) (TTup (TCons (TVar 1) (TCons (TVar 2) (TNil)))) [1, 2] [2])
theorem len_pairs_of : ∀ ds M Q, sp_pairs_of ds M Q → ds.length = 1 := fun _ _ _ ⟨_, e, _⟩ => by rw [e]; rfl
theorem body_pairs_of : ∀ (ds : List D) (M : Mem) (Q : D → Mem → Prop), sp_pairs_of ds M Q → T_pairs_of ⟨fun _ M' => Q .non M', Q, fun _ _ => False, fun _ _ => False⟩ (startD ["many", "one", "other"] ds) M := by
  rintro _ M Q ⟨n, rfl, hn, q⟩
  show T_pairs_of _ [.val (.int (n : Int)), .no, .no] M
  simp only [T_pairs_of, TLc2, TLc2F, TSeq, IZip, TRet, TRetN, DL.TSet, TDrop, TIf, TPar, TAsg, TFor, TFrz, frz, TSetOwn, TApp, TExt, TVar, TC, TBin, TTst, TChain, TAnd, TOr, TNot, TAndV, TOrV, TNotV, TIfE, TNil, TCons, TTup, TLst, TCB, TBM, TBM0, TPart, TNoPart, TSl, TNeg, GName, GNil, GCons, GTup, IList, ITup, IRng1, IRng2, IStr, TLstF, TCall, TYes, TNext, TPur, GPur, TRetP, unown_nil, unown_cons, un1, wipeD, List.getElem?_cons_zero, List.getElem?_cons_succ, List.set_cons_zero, List.set_cons_succ, List.set_nil, isD, beq_self_eq_true]
  refine ⟨⟨by omega, by omega⟩, by simp [rangeD]; omega, ?_⟩
  rw [rangeD_n]
  refine lc2D_m (fun (k : Nat) => D.int (k : Int)) (fun i => (List.range (n - (i + 1))).map fun k => pairD (i, i + 1 + k)) _ _ (fun i hi K1 h1 => ?_) ?_
  · have hi := List.mem_range.mp hi
    simp only [TSeq, IZip, TRet, TRetN, DL.TSet, TDrop, TIf, TPar, TAsg, TFor, TFrz, frz, TSetOwn, TApp, TExt, TVar, TC, TBin, TTst, TChain, TAnd, TOr, TNot, TAndV, TOrV, TNotV, TIfE, TNil, TCons, TTup, TLst, TCB, TBM, TBM0, TPart, TNoPart, TSl, TNeg, GName, GNil, GCons, GTup, IList, ITup, IRng1, IRng2, IStr, TLstF, TCall, TYes, TNext, TPur, GPur, TRetP, unown_nil, unown_cons, un1, wipeD, List.getElem?_cons_zero, List.getElem?_cons_succ, List.set_cons_zero, List.set_cons_succ, List.set_nil, isD, beq_self_eq_true, addO]
    refine ⟨⟨by omega, by omega, by omega, by omega⟩, by simp [rangeD]; omega, ?_⟩
    rw [rangeD_map, List.map_map]
    have e1 : ((n : Int) - ((i : Int) + 1)).toNat = n - (i + 1) := by omega
    rw [e1]
    refine lcD_m (D.int ∘ fun (k : Nat) => ((i : Int) + 1) + (k : Int)) (fun k => pairD (i, i + 1 + k)) _ _ (fun j hj K2 h2 => ?_) h1
    simp only [TSeq, IZip, TRet, TRetN, DL.TSet, TDrop, TIf, TPar, TAsg, TFor, TFrz, frz, TSetOwn, TApp, TExt, TVar, TC, TBin, TTst, TChain, TAnd, TOr, TNot, TAndV, TOrV, TNotV, TIfE, TNil, TCons, TTup, TLst, TCB, TBM, TBM0, TPart, TNoPart, TSl, TNeg, GName, GNil, GCons, GTup, IList, ITup, IRng1, IRng2, IStr, TLstF, TCall, TYes, TNext, TPur, GPur, TRetP, unown_nil, unown_cons, un1, wipeD, List.getElem?_cons_zero, List.getElem?_cons_succ, List.set_cons_zero, List.set_cons_succ, List.set_nil, isD, beq_self_eq_true, Function.comp, List.length_cons, List.length_nil]
    refine ⟨by decide, ?_⟩
    have e2 : pairD (i, i + 1 + j) = .tup [.int (i : Int), .int ((i : Int) + 1 + (j : Int))] := by unfold pairD; simp
    rw [← e2]
    exact h2
  · have : ((List.range n).flatMap fun i => (List.range (n - (i + 1))).map fun k => pairD (i, i + 1 + k)) = (pairs n).map pairD := by
      unfold pairs
      rw [List.map_flatMap]
      simp only [List.map_map]
      rfl
    rw [this]
    exact q
abbrev Tri : Type := (Nat × Nat) × Str
def triD (t : Tri) : D := lackD t.1 t.2
def wantT (n : Nat) (ws : List Str) : List Tri := (pairs n).flatMap fun p => ws.map fun s => (p, s)
theorem wantT_mem {n : Nat} {ws : List Str} {t : Tri} (h : t ∈ wantT n ws) : t.1.1 < t.1.2 ∧ t.1.2 < n ∧ t.2 ∈ ws := by
  obtain ⟨p, hp, h⟩ := List.mem_flatMap.mp h
  obtain ⟨s, hs, rfl⟩ := List.mem_map.mp h
  exact ⟨(pairs_mem hp).1, (pairs_mem hp).2, hs⟩
theorem wantT_len {n : Nat} {ws : List Str} (h : n ≤ 64) (hw : ws.length ≤ 4) : (wantT n ws).length ≤ 16384 := by
  have hb := flat_len (f := fun p => ws.map fun s => (p, s)) (c := 4) (l := pairs n) fun a _ => by rw [List.length_map]; exact hw
  have := pairs_len h
  unfold wantT
  omega
theorem want_map (n : Nat) (ws : List Str) : (wantT n ws).map triD = (pairs n).flatMap fun p => ws.map (lackD p) := by
  unfold wantT
  rw [List.map_flatMap]
  simp only [List.map_map]
  rfl
theorem ne_ss (i j : Str) (k : D → Prop) : neOp (.str i) (.str j) k = k (.bl (!decide (i = j))) := by
  have : eqvD (.str i) (.str j) = decide (i = j) := by
    show (i == j) = _
    by_cases h : i = j <;> simp [h]
  unfold neOp
  rw [this]
  simp [isPy, dep]
theorem kok_mem {xs : List D} (h : kok2 (.tup xs) = true) : ∀ d ∈ xs, kok d = true := List.all_eq_true.mp (Bool.and_eq_true_iff.mp h).2
theorem atI_in {α : Type} {xs : List α} {i : Int} (h0 : 0 ≤ i) (h1 : i < xs.length) : ∃ d, atI xs i = some d ∧ d ∈ xs := by
  obtain ⟨k, rfl⟩ := Int.eq_ofNat_of_zero_le h0
  have hk : k < xs.length := by omega
  exact ⟨xs[k], by rw [atI_nat]; simp [hk], List.getElem_mem hk⟩
theorem ix_lst {xs : List D} {i : Int} {K : D → Prop} (h0 : 0 ≤ i) (h1 : i < xs.length) (q : ∀ d ∈ xs, K d) : ixO (.lst xs) (.int i) K := by
  obtain ⟨d, e, hd⟩ := atI_in h0 h1
  show match atI xs i with | some d => K d | none => False
  rw [e]
  exact q d hd
theorem kok_ints (ks : List Int) : ∀ d ∈ ks.map D.int, kok d = true := fun d hd => by
  obtain ⟨x, _, rfl⟩ := List.mem_map.mp hd
  rfl
theorem kok2_tup {xs : List D} (h : ∀ d ∈ xs, kok d = true) : kok2 (.tup xs) = true := by
  unfold kok2
  rw [Bool.and_eq_true]
  exact ⟨rfl, List.all_eq_true.mpr h⟩
theorem isPys_ints (ks : List Int) : isPys (ks.map D.int) = true := isPys_all _ fun d hd => by
  obtain ⟨x, _, rfl⟩ := List.mem_map.mp hd
  rfl
theorem deps_ints (ks : List Int) : deps (ks.map D.int) = 0 := Nat.le_zero.mp (deps_le _ fun d hd => by
  obtain ⟨x, _, rfl⟩ := List.mem_map.mp hd
  exact Nat.le_refl _)
theorem eq_tnil {xs : List D} {k : D → Prop} (h : isPys xs = true) (hd : deps xs ≤ 0) : eqOp (.tup xs) (.tup []) k = k (.bl (decide (xs = []))) := by
  unfold eqOp
  rw [eqv_nilT]
  have h1 : isPy (.tup xs) = true := h
  have h2 : dep (.tup xs) ≤ 64 := by show deps xs + 1 ≤ 64; omega
  simp [h1, h2, show isPy (.tup []) = true from rfl, show dep (.tup []) ≤ 64 from by decide]
theorem ne_tnil {xs : List D} {k : D → Prop} (h : isPys xs = true) (hd : deps xs ≤ 0) : neOp (.tup xs) (.tup []) k = k (.bl (!decide (xs = []))) := by
  unfold neOp
  rw [eqv_nilT]
  have h1 : isPy (.tup xs) = true := h
  have h2 : dep (.tup xs) ≤ 64 := by show deps xs + 1 ≤ 64; omega
  simp [h1, h2, show isPy (.tup []) = true from rfl, show dep (.tup []) ≤ 64 from by decide]
theorem isPys_tris (T : List Tri) : isPys (T.map triD) = true := isPys_all _ fun d hd => by
  obtain ⟨x, _, rfl⟩ := List.mem_map.mp hd
  rfl
end DL

namespace DL
open PySem PySem.Spec PyProof.Rows L2 TL
/-! ## faults judged -/
def shape3 (d : D) : Bool := match d with
  | .tup [.int _, .int _, _] => true
  | _ => false
def triOf (d : D) : Option (Int × Int × Str) := match d with
  | .tup [.int i, .int j, .str s] => some (i, j, s)
  | _ => none
def triK (t : Tri) : Option (Int × Int × Str) := some ((t.1.1 : Int), (t.1.2 : Int), t.2)
def sameT (xs : List D) (T : List Tri) : Bool := decide (xs.map triOf = T.map triK)
theorem triOf_eq {d : D} {t : Tri} (h : triOf d = triK t) : d = triD t := by
  unfold triOf at h
  split at h
  · rename_i i j s
    cases h
    rfl
  · cases h
theorem shape3_tup {d : D} (h : shape3 d = true) : ∃ i j c, d = .tup [.int i, .int j, c] := by
  unfold shape3 at h
  split at h
  · exact ⟨_, _, _, rfl⟩
  · cases h
theorem eqv_tri {d : D} {t : Tri} (h : shape3 d = true) : eqvD d (triD t) = decide (triOf d = triK t) := by
  obtain ⟨i, j, c, rfl⟩ := shape3_tup h
  have e : eqvD (.tup [.int i, .int j, c]) (triD t) = ((i == (t.1.1 : Int)) && ((j == (t.1.2 : Int)) && (eqvD c (.str t.2) && true))) := rfl
  rw [e]
  cases c with
  | str s =>
    rw [eqv_str]
    unfold triOf triK
    by_cases h1 : i = (t.1.1 : Int) <;> by_cases h2 : j = (t.1.2 : Int) <;> by_cases h3 : s = t.2 <;> simp [h1, h2, h3]
  | _ =>
    have : ∀ b1 b2 : Bool, (b1 && (b2 && (false && true))) = false := by decide
    exact (this _ _).trans (decide_eq_false (fun h => by cases h)).symm
theorem eqvs_tri : ∀ (xs : List D) (T : List Tri), (∀ d ∈ xs, shape3 d = true) → eqvs xs (T.map triD) = sameT xs T
  | [], [], _ => rfl
  | [], _ :: _, _ => rfl
  | _ :: _, [], _ => rfl
  | d :: r, t :: T, h => by
    have e : eqvs (d :: r) ((t :: T).map triD) = (eqvD d (triD t) && eqvs r (T.map triD)) := rfl
    rw [e, eqvs_tri r T fun e he => h e (List.mem_cons_of_mem _ he), eqv_tri (h d List.mem_cons_self)]
    unfold sameT
    rw [List.map_cons, List.map_cons]
    by_cases h1 : triOf d = triK t <;> simp [h1]
theorem deps_tris (T : List Tri) : deps (T.map triD) ≤ 1 := deps_le _ fun d hd => by
  obtain ⟨x, _, rfl⟩ := List.mem_map.mp hd
  exact Nat.le_refl _
theorem eq_tris {xs : List D} {T : List Tri} {k : D → Prop} (h : ∀ d ∈ xs, shape3 d = true) (hp : isPys xs = true) (hd : deps xs ≤ 60) (q : k (.bl (sameT xs T))) : eqOp (.lst xs) (.lst (T.map triD)) k := by
  unfold eqOp
  have e : eqvD (.lst xs) (.lst (T.map triD)) = eqvs xs (T.map triD) := rfl
  rw [e, eqvs_tri xs T h]
  have := deps_tris T
  exact ⟨⟨hp, isPys_tris T, by show deps xs + 1 ≤ 64; omega, by show deps _ + 1 ≤ 64; omega⟩, q⟩
def strIs (s : Str) (L : D) : Bool := match L with
  | .str z => decide (s = z)
  | _ => false
theorem eqv_sL (s : Str) (L : D) : eqvD (.str s) L = strIs s L := by
  cases L with
  | str z =>
    show (s == z) = decide (s = z)
    by_cases h : s = z <;> simp [h]
  | _ => rfl
theorem eq_sL {s : Str} {L : D} {k : D → Prop} (hp : isPy L = true) (hd : dep L ≤ 60) (q : k (.bl (strIs s L))) : eqOp (.str s) L k := by
  refine ⟨⟨rfl, hp, Nat.zero_le _, by omega⟩, ?_⟩
  rw [eqv_sL]
  exact q
/-- an item of a told tuple -/
def ElOk (d : D) : Prop := kok2 d = true ∧ isPy d = true ∧ dep d ≤ 8
def ToldOk (v : D) : Prop := kok v = true ∧ ∀ xs, v = .tup xs → xs.length ≤ 65536 ∧ ∀ d ∈ xs, ElOk d
def LineOk (L : D) : Prop := kok L = true ∧ isPy L = true ∧ dep L ≤ 8
theorem el_tri (t : Tri) : ElOk (triD t) := ⟨rfl, rfl, by show (1 : Nat) ≤ 8; decide⟩
theorem told_tup {xs : List D} (hl : xs.length ≤ 65536) (h : ∀ d ∈ xs, ElOk d) : ToldOk (.tup xs) := ⟨rfl, fun ys e => by cases e; exact ⟨hl, h⟩⟩
theorem told_pys {xs : List D} (h : ToldOk (.tup xs)) : isPys xs = true ∧ deps xs ≤ 8 := ⟨isPys_all _ fun d hd => ((h.2 xs rfl).2 d hd).2.1, deps_le _ fun d hd => ((h.2 xs rfl).2 d hd).2.2⟩
theorem lcD_i {g : TGd} {e : TEd} {ρ : List Sl} {M : Mem} (f : D → D) (xs : List D) (Q : List D → Mem → Prop) (h : ∀ a ∈ xs, ∀ (K1 : D → Mem → Prop), K1 (f a) M → g a ρ M fun ρ2 M2 => e ρ2 M2 K1) (q : Q (xs.map f) M) : lcD g TYes e xs ρ M Q := by
  have := lcD_m (fun d : D => d) f xs Q h q
  rwa [List.map_id'] at this
theorem foldl_filter {α : Type} (p : α → Bool) : ∀ (l acc : List α), l.foldl (fun acc w => if p w = true then acc ++ [w] else acc) acc = acc ++ l.filter p
  | [], acc => by simp
  | a :: r, acc => by
    rw [List.foldl_cons, foldl_filter p r, List.filter_cons]
    cases h : p a <;> simp
/-- the faults that make a line -/
def oneB (i j : Int) (w r : Str) (c : Nat) : Bool := decide (seen i j r = w) == decide (c = 49)
def dueP (rows : List Str) (z : Str) (p : Nat × Nat) : List Str := WAYSZ.filter fun w => (rows.zip (tl z)).all fun q => oneB p.1 p.2 w q.1 q.2
def dueT (n : Nat) (rows : List Str) (z : Str) : List Tri := (pairs n).flatMap fun p => (dueP rows z p).map fun s => (p, s)
def faultsOk (n : Nat) (rows : List Str) (L v : D) : Bool := match L, v with
  | .str z, .tup xs => isSigns (.str z) rows.length && sameT xs (dueT n rows z)
  | _, _ => false
theorem dueT_mem {n : Nat} {rows : List Str} {z : Str} {t : Tri} (h : t ∈ dueT n rows z) : t.1.1 < t.1.2 ∧ t.1.2 < n ∧ t.2 ∈ WAYSZ := by
  obtain ⟨p, hp, h⟩ := List.mem_flatMap.mp h
  obtain ⟨s, hs, rfl⟩ := List.mem_map.mp h
  exact ⟨(pairs_mem hp).1, (pairs_mem hp).2, (List.mem_filter.mp hs).1⟩
theorem isFault_tri {n : Nat} {t : Tri} (h1 : t.1.1 < t.1.2) (h2 : t.1.2 < n) (h3 : t.2 ∈ WAYSZ) : isFault (triD t) n = true := by
  show (isNum (.int (t.1.1 : Int)) 0 (n - 1) && (isNum (.int (t.1.2 : Int)) ((t.1.1 : Int) + 1) (n - 1) && decide (t.2 ∈ WAYSZ))) = true
  simp only [isNum, Bool.and_eq_true, decide_eq_true_eq]
  exact ⟨⟨by omega, by omega⟩, ⟨by omega, by omega⟩, h3⟩
theorem sameT_fault {n : Nat} {rows : List Str} {z : Str} {xs : List D} (h : sameT xs (dueT n rows z) = true) : ∀ d ∈ xs, isFault d n = true := by
  have e := of_decide_eq_true h
  intro d hd
  have : triOf d ∈ (dueT n rows z).map triK := by rw [← e]; exact List.mem_map_of_mem hd
  obtain ⟨t, ht, e2⟩ := List.mem_map.mp this
  rw [triOf_eq e2.symm]
  obtain ⟨a, b, c⟩ := dueT_mem ht
  exact isFault_tri a b c
theorem fault_shape {d : D} {n : Int} (h : isFault d n = true) : shape3 d = true := by
  obtain ⟨i, j, s, rfl, _⟩ := isFault_tup h
  rfl
theorem due_len {n : Nat} {rows : List Str} {z : Str} (h : n ≤ 64) : (dueT n rows z).length ≤ 16384 := by
  have hb := flat_len (f := fun p => (dueP rows z p).map fun s => (p, s)) (c := 4) (l := pairs n) fun a _ => by
    rw [List.length_map]
    exact List.length_filter_le _ _
  have := pairs_len h
  unfold dueT
  omega
theorem one_eq (c : Nat) : decide ((⟨#[c]⟩ : Str) = Str.ofString "1") = decide (c = 49) := by
  have e : Str.ofString "1" = ⟨#[49]⟩ := by decide +kernel
  rw [e]
  by_cases h : c = 49
  · subst h; rfl
  · rw [decide_eq_false h]
    exact decide_eq_false fun e => h (by injection e with e; injection e with e; injection e)
theorem zip_chars (rows : List Str) (z : Str) (i j : Int) : (((rows.map (seen i j)).map D.str).zip (charsD z)).map (fun p => D.tup [p.1, p.2]) = (rows.zip (tl z)).map fun q : Str × Nat => D.tup [.str (seen i j q.1), .str ⟨#[q.2]⟩] := by
  unfold charsD
  rw [List.map_map, List.zip_map, List.map_map]
  rfl
def sp_shows_faults : SpD := fun ds M Q => ∃ (n : Nat) (rows : List Str) (L v c : D), ds = [.tup [.int (n : Int), lstS rows], L, v, c] ∧ GoodP n rows ∧ LineOk L ∧ ToldOk v ∧ Q (.bl (isNon c && faultsOk n rows L v)) M
def T_shows_faults : TSd := TSeq (TAsg (TVar 0) (GTup 2 (GCons (GName 5) (GCons (GName 6) (GNil)))))
  (TSeq (TIf (TOr (TTst (TBin notNO (TVar 3) (TC .non))) (TOr (TNot (TTst (TCall sp_is_signs (TCons (TVar 1) (TCons (TCB lenO (TCons (TVar 6) (TNil))) (TNil)))))) (TNot (TTst (TCB isiO (TCons (TVar 2) (TCons (TC (.ty "tuple")) (TNil)))))))) (TRet (TC (.bl false))) (TNext))
  (TSeq (TIf (TNot (TTst (TCB allO (TCons (TLc (ITup (TVar 2)) (GName 12) (TYes) (TCall sp_is_fault (TCons (TVar 12) (TCons (TVar 5) (TNil)))) [12]) (TNil))))) (TRet (TC (.bl false))) (TNext))
  (TSeq (TSetOwn 4 (TLstF (TNil)))
  (TSeq (TFor (IList (TCall sp_pairs_of (TCons (TVar 5) (TNil)))) (GTup 2 (GCons (GName 7) (GCons (GName 8) (GNil)))) (TSeq (TSet 9 (TLc (IList (TVar 6)) (GName 11) (TYes) (TBin addO (TBin ixO (TVar 11) (TVar 7)) (TBin ixO (TVar 11) (TVar 8))) [11]))
  (TFor (ITup (TC (.tup WAYSD))) (GName 10) (TIf (TTst (TCB allO (TCons (TLc (IZip (TCons (TVar 9) (TCons (TVar 1) (TNil)))) (GTup 2 (GCons (GName 13) (GCons (GName 14) (GNil)))) (TYes) (TBin eqOp (TBin eqOp (TVar 13) (TVar 10)) (TBin eqOp (TVar 14) (TC (.str "1")))) [13, 14]) (TNil)))) (TApp 4 (TTup (TCons (TVar 7) (TCons (TVar 8) (TCons (TVar 10) (TNil)))))) (TNext)))))
  (TFrz 4 (TRet (TBin eqOp (TCB lstO (TCons (TVar 2) (TNil))) (TVar 4))))))))
theorem len_shows_faults : ∀ ds M Q, sp_shows_faults ds M Q → ds.length = 4 := fun _ _ _ ⟨_, _, _, _, _, e, _⟩ => by rw [e]; rfl
theorem body_shows_faults : ∀ (ds : List D) (M : Mem) (Q : D → Mem → Prop), sp_shows_faults ds M Q → T_shows_faults ⟨fun _ M' => Q .non M', Q, fun _ _ => False, fun _ _ => False⟩ (startD ["plan", "results", "faults", "certificate", "due", "many", "trials", "one", "other", "stands", "way", "trial", "fault", "stand", "sign"] ds) M := by
  rintro _ M Q ⟨n, rows, L, v, c, rfl, g, hL, hv, q⟩
  show T_shows_faults _ [.val (.tup [.int (n : Int), lstS rows]), .val L, .val v, .val c, .no, .no, .no, .no, .no, .no, .no, .no, .no, .no, .no] M
  have hn : n ≤ 64 := by have := g.hi; omega
  have hrl := g.len
  simp only [T_shows_faults, TSeq, IZip, TRet, TRetN, DL.TSet, TDrop, TIf, TPar, TAsg, TFor, TFrz, frz, TSetOwn, TApp, TExt, TVar, TC, TBin, TTst, TChain, TAnd, TOr, TNot, TAndV, TOrV, TNotV, TIfE, TNil, TCons, TTup, TLst, TCB, TBM, TBM0, TPart, TNoPart, TSl, TNeg, GName, GNil, GCons, GTup, IList, ITup, IRng1, IRng2, IStr, TLstF, TCall, TYes, TNext, TPur, GPur, TRetP, unown_nil, unown_cons, un1, wipeD, List.getElem?_cons_zero, List.getElem?_cons_succ, List.set_cons_zero, List.set_cons_succ, List.set_nil, isD, beq_self_eq_true, notNO, lenO, lenD, lstS, List.length_map]
  refine ⟨rfl, ?_⟩
  cases hc : isNon c with
  | false =>
    rw [hc] at q
    exact q
  | true =>
    rw [hc] at q
    simp only [Bool.true_and] at q
    simp only [Bool.not_true]
    refine ⟨L, _, rfl, hL.1, ?_⟩
    cases hs : isSigns L rows.length with
    | false =>
      have : faultsOk n rows L v = false := by
        unfold faultsOk
        split
        · rw [hs]; rfl
        · rfl
      rw [this] at q
      exact q
    | true =>
      have hz : ∃ z, L = .str z := by
        cases L with
        | str z => exact ⟨z, rfl⟩
        | _ => cases hs
      obtain ⟨z, rfl⟩ := hz
      simp only [Bool.not_true, isiO_tup hv.1]
      cases v with
      | tup xs =>
        obtain ⟨hxl, hel⟩ := hv.2 xs rfl
        simp only [isTup, Bool.not_true, TSeq, IZip, TRet, TRetN, DL.TSet, TDrop, TIf, TPar, TAsg, TFor, TFrz, frz, TSetOwn, TApp, TExt, TVar, TC, TBin, TTst, TChain, TAnd, TOr, TNot, TAndV, TOrV, TNotV, TIfE, TNil, TCons, TTup, TLst, TCB, TBM, TBM0, TPart, TNoPart, TSl, TNeg, GName, GNil, GCons, GTup, IList, ITup, IRng1, IRng2, IStr, TLstF, TCall, TYes, TNext, TPur, GPur, TRetP, unown_nil, unown_cons, un1, wipeD, List.getElem?_cons_zero, List.getElem?_cons_succ, List.set_cons_zero, List.set_cons_succ, List.set_nil, isD, beq_self_eq_true, TLc, TLcF]
        unfold faultsOk at q
        simp only [hs, Bool.true_and] at q
        refine ⟨by omega, ?_⟩
        refine lcD_i (fun d => D.bl (isFault d n)) xs _ (fun d hd K1 h1 => ?_) ?_
        · simp only [TSeq, IZip, TRet, TRetN, DL.TSet, TDrop, TIf, TPar, TAsg, TFor, TFrz, frz, TSetOwn, TApp, TExt, TVar, TC, TBin, TTst, TChain, TAnd, TOr, TNot, TAndV, TOrV, TNotV, TIfE, TNil, TCons, TTup, TLst, TCB, TBM, TBM0, TPart, TNoPart, TSl, TNeg, GName, GNil, GCons, GTup, IList, ITup, IRng1, IRng2, IStr, TLstF, TCall, TYes, TNext, TPur, GPur, TRetP, unown_nil, unown_cons, un1, wipeD, List.getElem?_cons_zero, List.getElem?_cons_succ, List.set_cons_zero, List.set_cons_succ, List.set_nil, isD, beq_self_eq_true]
          exact ⟨d, n, rfl, (hel d hd).1, h1⟩
        · simp only [allO, blsOf_map, List.all_map]
          have hall : ∀ b : Bool, ((xs.map fun d => isFault d n).all id = b) = ((xs.all fun d => isFault d n) = b) := fun b => by rw [List.all_map]; rfl
          cases hF : xs.all fun d => isFault d n with
          | false =>
            have : sameT xs (dueT n rows z) = false := by
              cases h : sameT xs (dueT n rows z) with
              | false => rfl
              | true =>
                rw [List.all_eq_true.mpr (sameT_fault h)] at hF
                cases hF
            rw [this] at q
            have hF' : (xs.all (id ∘ fun d => isFault d n)) = false := hF
            simp only [hF', Bool.not_false]
            exact q
          | true =>
            have hF' : (xs.all (id ∘ fun d => isFault d n)) = true := hF
            simp only [hF', Bool.not_true, List.length_nil]
            have hsh : ∀ d ∈ xs, shape3 d = true := fun d hd => fault_shape (List.all_eq_true.mp hF d hd)
            refine ⟨by decide, n, rfl, hn, ?_⟩
            refine forD_inv pairD (pairs n) (fun r ρ M' => M' = M ∧ ∃ pre a b c9 d, pairs n = pre ++ r ∧ ρ = [.val (.tup [.int (n : Int), .lst (rows.map D.str)]), .val (.str z), .val (.tup xs), .val c, .own (pre.flatMap fun p => (dueP rows z p).map (lackD p)), .val (.int (n : Int)), .val (.lst (rows.map D.str)), a, b, c9, d, .no, .no, .no, .no]) _ _ (fun p r ρ M' Kn _ ⟨hM, pre, a, b, c9, d, hp, hρ⟩ k => ?step) ⟨rfl, [], _, _, _, _, rfl, rfl⟩ (fun ρ M' ⟨hM, pre, a, b, c9, d, hp, hρ⟩ => ?fin)
            case step =>
              subst hM hρ
              have hpm := pairs_mem (n := n) (p := p) (by rw [hp]; simp)
              have hpl : pre.length ≤ 4096 := by
                have h1 := pairs_len hn
                have h2 := congrArg List.length hp
                rw [List.length_append] at h2
                omega
              have hb := flat_len (f := fun p => (dueP rows z p).map (lackD p)) (c := 4) (l := pre) fun a _ => by rw [List.length_map]; exact List.length_filter_le _ _
              simp only [TSeq, IZip, TRet, TRetN, DL.TSet, TDrop, TIf, TPar, TAsg, TFor, TFrz, frz, TSetOwn, TApp, TExt, TVar, TC, TBin, TTst, TChain, TAnd, TOr, TNot, TAndV, TOrV, TNotV, TIfE, TNil, TCons, TTup, TLst, TCB, TBM, TBM0, TPart, TNoPart, TSl, TNeg, GName, GNil, GCons, GTup, IList, ITup, IRng1, IRng2, IStr, TLstF, TCall, TYes, TNext, TPur, GPur, TRetP, unown_nil, unown_cons, un1, wipeD, List.getElem?_cons_zero, List.getElem?_cons_succ, List.set_cons_zero, List.set_cons_succ, List.set_nil, isD, beq_self_eq_true, pairD, TLc, TLcF]
              refine ⟨rfl, by rw [List.length_map]; omega, ?_⟩
              refine seen_list g.row (by omega) (by omega) (by omega) (fun _ => rfl) (fun _ => rfl) (by simp) ?_
              simp only [WAYSD]
              refine forD_inv D.str WAYSZ (fun r2 ρ M2 => M2 = M' ∧ ∃ pre2 e, WAYSZ = pre2 ++ r2 ∧ ρ = [.val (.tup [.int (n : Int), .lst (rows.map D.str)]), .val (.str z), .val (.tup xs), .val c, .own ((pre.flatMap fun p => (dueP rows z p).map (lackD p)) ++ (pre2.filter fun w => (rows.zip (tl z)).all fun q => oneB p.1 p.2 w q.1 q.2).map (lackD p)), .val (.int (n : Int)), .val (.lst (rows.map D.str)), .val (.int (p.1 : Int)), .val (.int (p.2 : Int)), .val (.lst ((rows.map (seen p.1 p.2)).map D.str)), e, .no, .no, .no, .no]) _ _ (fun w r2 ρ M2 Kn _ ⟨hM, pre2, e, hp2, hρ⟩ k => ?in1) ⟨rfl, [], d, rfl, by rw [List.filter_nil, List.map_nil, List.append_nil]⟩ (fun ρ M2 ⟨hM, pre2, e, hp2, hρ⟩ => ?fin1)
              case fin1 =>
                rw [List.append_nil] at hp2
                subst hM hρ hp2
                refine k _ _ ⟨rfl, pre ++ [p], .val (.int (p.1 : Int)), .val (.int (p.2 : Int)), .val (.lst ((rows.map (seen p.1 p.2)).map D.str)), e, by rw [hp]; simp, ?_⟩
                rw [List.flatMap_append]
                simp only [List.flatMap_cons, List.flatMap_nil, List.append_nil, List.nil_append]
                rfl
              case in1 =>
                subst hM hρ
                have hfl := List.length_filter_le (fun w => (rows.zip (tl z)).all fun q => oneB p.1 p.2 w q.1 q.2) pre2
                have hp3 : pre2.length ≤ 4 := by
                  have h2 := congrArg List.length hp2
                  rw [List.length_append] at h2
                  have : WAYSZ.length = 4 := rfl
                  omega
                simp only [TSeq, IZip, TRet, TRetN, DL.TSet, TDrop, TIf, TPar, TAsg, TFor, TFrz, frz, TSetOwn, TApp, TExt, TVar, TC, TBin, TTst, TChain, TAnd, TOr, TNot, TAndV, TOrV, TNotV, TIfE, TNil, TCons, TTup, TLst, TCB, TBM, TBM0, TPart, TNoPart, TSl, TNeg, GName, GNil, GCons, GTup, IList, ITup, IRng1, IRng2, IStr, TLstF, TCall, TYes, TNext, TPur, GPur, TRetP, unown_nil, unown_cons, un1, wipeD, List.getElem?_cons_zero, List.getElem?_cons_succ, List.set_cons_zero, List.set_cons_succ, List.set_nil, isD, beq_self_eq_true, TLc, TLcF, srcD]
                rw [zip_chars]
                have hzl : (rows.zip (tl z)).length ≤ 64 := by rw [List.length_zip]; omega
                refine ⟨by rw [List.length_map]; omega, ?_⟩
                refine lcD_m (fun q : Str × Nat => D.tup [.str (seen p.1 p.2 q.1), .str ⟨#[q.2]⟩]) (fun q => .bl (oneB p.1 p.2 w q.1 q.2)) _ _ (fun q hq K1 h1 => ?_) ?_
                · simp only [TSeq, IZip, TRet, TRetN, DL.TSet, TDrop, TIf, TPar, TAsg, TFor, TFrz, frz, TSetOwn, TApp, TExt, TVar, TC, TBin, TTst, TChain, TAnd, TOr, TNot, TAndV, TOrV, TNotV, TIfE, TNil, TCons, TTup, TLst, TCB, TBM, TBM0, TPart, TNoPart, TSl, TNeg, GName, GNil, GCons, GTup, IList, ITup, IRng1, IRng2, IStr, TLstF, TCall, TYes, TNext, TPur, GPur, TRetP, unown_nil, unown_cons, un1, wipeD, List.getElem?_cons_zero, List.getElem?_cons_succ, List.set_cons_zero, List.set_cons_succ, List.set_nil, isD, beq_self_eq_true, eq_ss, one_eq, eq_bb]
                  exact ⟨rfl, h1⟩
                · simp only [allO, blsOf_map, List.all_map]
                  have e2 : ((rows.zip (tl z)).all (id ∘ fun q => oneB p.1 p.2 w q.1 q.2)) = ((rows.zip (tl z)).all fun q => oneB p.1 p.2 w q.1 q.2) := rfl
                  simp only [e2]
                  cases hw2 : (rows.zip (tl z)).all fun q => oneB p.1 p.2 w q.1 q.2 with
                  | false =>
                    refine k _ _ ⟨rfl, pre2 ++ [w], .val (.str w), by rw [hp2]; simp, ?_⟩
                    have e3 : (pre2 ++ [w]).filter (fun w => (rows.zip (tl z)).all fun q => oneB p.1 p.2 w q.1 q.2) = pre2.filter fun w => (rows.zip (tl z)).all fun q => oneB p.1 p.2 w q.1 q.2 := by
                      rw [List.filter_append, List.filter_cons, hw2]
                      simp
                    rw [e3]
                  | true =>
                    refine ⟨by simp, by rw [List.length_append, List.length_map]; omega, k _ _ ⟨rfl, pre2 ++ [w], .val (.str w), by rw [hp2]; simp, ?_⟩⟩
                    have e3 : (pre2 ++ [w]).filter (fun w => (rows.zip (tl z)).all fun q => oneB p.1 p.2 w q.1 q.2) = (pre2.filter fun w => (rows.zip (tl z)).all fun q => oneB p.1 p.2 w q.1 q.2) ++ [w] := by
                      rw [List.filter_append, List.filter_cons, hw2]
                      simp
                    rw [e3, List.map_append, List.append_assoc]
                    rfl
            case fin =>
              subst hM hρ
              have : pre = pairs n := by simpa using hp.symm
              subst this
              simp only [TSeq, IZip, TRet, TRetN, DL.TSet, TDrop, TIf, TPar, TAsg, TFor, TFrz, frz, TSetOwn, TApp, TExt, TVar, TC, TBin, TTst, TChain, TAnd, TOr, TNot, TAndV, TOrV, TNotV, TIfE, TNil, TCons, TTup, TLst, TCB, TBM, TBM0, TPart, TNoPart, TSl, TNeg, GName, GNil, GCons, GTup, IList, ITup, IRng1, IRng2, IStr, TLstF, TCall, TYes, TNext, TPur, GPur, TRetP, unown_nil, unown_cons, un1, wipeD, List.getElem?_cons_zero, List.getElem?_cons_succ, List.set_cons_zero, List.set_cons_succ, List.set_nil, isD, beq_self_eq_true, lstO]
              have e : ((pairs n).flatMap fun p => (dueP rows z p).map (lackD p)) = (dueT n rows z).map triD := by
                unfold dueT
                rw [List.map_flatMap]
                simp only [List.map_map]
                rfl
              rw [e]
              obtain ⟨p1, p2⟩ := told_pys hv
              exact eq_tris hsh p1 (by omega) q
      | _ => exact q
/-! ## results of faults -/
def resL (rows : List Str) (t : Tri) : List Nat := rows.map fun r => if seen t.1.1 t.1.2 r = t.2 then 49 else 48
def resZ (rows : List Str) (t : Tri) : Str := mkS (resL rows t)
theorem joinL_nil : ∀ ps : List (List Nat), joinL [] ps = ps.flatten
  | [] => rfl
  | [p] => by simp [joinL]
  | p :: q :: r => by
    rw [joinL, joinL_nil (q :: r)]
    simp
theorem res_join (rows : List Str) (t : Tri) : joinZ (Str.ofString "") (rows.map fun r => if seen t.1.1 t.1.2 r = t.2 then Str.ofString "1" else Str.ofString "0") = resZ rows t := by
  unfold joinZ resZ resL
  have e : tl (Str.ofString "") = [] := by decide +kernel
  rw [e, joinL_nil, List.map_map]
  congr 1
  induction rows with
  | nil => rfl
  | cons r rs ih =>
    rw [List.map_cons, List.flatten_cons, ih, List.map_cons]
    by_cases h : seen t.1.1 t.1.2 r = t.2
    · simp only [Function.comp, h, if_true]; rfl
    · simp only [Function.comp, h, if_false]; rfl
theorem zip_res (i j : Int) (w : Str) : ∀ (rows : List Str) (l : List Nat), l.length = rows.length → (∀ c ∈ l, c = 48 ∨ c = 49) → decide ((rows.map fun r => if seen i j r = w then 49 else 48) = l) = (rows.zip l).all fun q => oneB i j w q.1 q.2
  | [], [], _, _ => rfl
  | r :: rs, c :: l, hl, hc => by
    rw [List.zip_cons_cons, List.all_cons, ← zip_res i j w rs l (Nat.succ.inj hl) fun c h => hc c (List.mem_cons_of_mem _ h), List.map_cons]
    have : oneB i j w r c = decide ((if seen i j r = w then 49 else 48) = c) := by
      unfold oneB
      rcases hc c List.mem_cons_self with rfl | rfl
      · by_cases h : seen i j r = w <;> simp [h]
      · by_cases h : seen i j r = w <;> simp [h]
    rw [this]
    by_cases h1 : (if seen i j r = w then 49 else 48) = c <;> simp [h1]
  | [], _ :: _, h, _ => by cases h
  | _ :: _, [], h, _ => by cases h
theorem res_due {rows : List Str} {z : Str} (t : Tri) (hl : z.length = rows.length) (hc : ∀ c ∈ tl z, c = 48 ∨ c = 49) : decide (resZ rows t = z) = (rows.zip (tl z)).all fun q => oneB t.1.1 t.1.2 t.2 q.1 q.2 := by
  rw [← zip_res _ _ _ rows (tl z) (by rw [← len_tl]; exact hl) hc]
  have : resZ rows t = z ↔ resL rows t = tl z := ⟨fun e => by rw [← e, resZ, tl_mkS], fun e => by rw [resZ, e, mkS_tl]⟩
  by_cases h : resL rows t = tl z
  · have h2 := this.mpr h
    rw [decide_eq_true h2]
    exact (decide_eq_true h).symm
  · rw [decide_eq_false fun e => h (this.mp e)]
    exact (decide_eq_false h).symm
theorem table_due {n : Nat} {rows : List Str} {z : Str} (hl : z.length = rows.length) (hc : ∀ c ∈ tl z, c = 48 ∨ c = 49) : (wantT n WAYSZ).filter (fun t => decide (resZ rows t = z)) = dueT n rows z := by
  unfold wantT dueT dueP
  rw [List.filter_flatMap]
  congr 1
  funext p
  rw [List.filter_map]
  congr 1
  congr 1
  funext w
  exact res_due (p, w) hl hc
theorem count_all : ∀ l : List Nat, l.count 48 + l.count 49 ≤ l.length ∧ decide (l.count 48 + l.count 49 = l.length) = l.all fun c => decide (c = 48 ∨ c = 49)
  | [] => ⟨Nat.le_refl _, rfl⟩
  | a :: r => by
    obtain ⟨h1, h2⟩ := count_all r
    rw [List.count_cons, List.count_cons, List.length_cons, List.all_cons, ← h2]
    by_cases e1 : a = 48
    · subst e1
      refine ⟨by simp; omega, ?_⟩
      simp
      omega
    · by_cases e2 : a = 49
      · subst e2
        refine ⟨by simp; omega, ?_⟩
        simp
        omega
      · refine ⟨by simp [e1, e2]; omega, ?_⟩
        simp [e1, e2]
        omega
theorem signs_all (z : Str) (m : Nat) : isSigns (.str z) m = (decide (z.length = m) && (tl z).all fun c => decide (c = 48 ∨ c = 49)) := by
  show (decide ((z.length : Int) = m) && decide (((tl z).count 48 : Int) + ((tl z).count 49 : Int) = m)) = _
  by_cases h : z.length = m
  · subst h
    rw [← (count_all (tl z)).2, ← len_tl]
    congr 1
    · simp
    · rw [decide_eq_decide]; omega
  · rw [decide_eq_false h, decide_eq_false (by omega)]
    rfl
def HeadF (n : Nat) (rows : List Str) (L v h : D) : Prop := ∃ pz, h = .tup [.str "faults", .str pz, L, v] ∧ pz.length ≤ 16777213 ∧ planIn (.str pz) = .tup [.int (n : Int), lstS rows]
def sp_accepts : SpD := fun ds M Q => ∃ (h : D) (n : Nat) (rows : List Str) (L v c : D), ds = [h, c] ∧ HeadF n rows L v h ∧ GoodP n rows ∧ LineOk L ∧ ToldOk v ∧ Q (.bl (isNon c && faultsOk n rows L v)) M
def T_accepts : TSd := TSeq (TIf (TOr (TNot (TTst (TCB isiO (TCons (TVar 0) (TCons (TC (.ty "tuple")) (TNil)))))) (TOr (TTst (TBin eqOp (TCB lenO (TCons (TVar 0) (TNil))) (TC (.int 0)))) (TNot (TTst (TCB isiO (TCons (TBin ixO (TVar 0) (TC (.int 0))) (TCons (TC (.ty "str")) (TNil)))))))) (TRet (TC (.bl false))) (TNext))
  (TSeq (TSet 2 (TBin ixO (TVar 0) (TC (.int 0))))
  (TSeq (TIf (TTst (TBin neOp (TWGet SIZESD (TVar 2) (TC (.int 0))) (TCB lenO (TCons (TVar 0) (TNil))))) (TRet (TC (.bl false))) (TNext))
  (TSeq (TIf (TTst (TBin eqOp (TVar 2) (TC (.str "faults")))) (TSeq (TSet 4 (TCall sp_plan_in (TCons (TBin ixO (TVar 0) (TC (.int 1))) (TNil))))
  (TRet (TAndV (TBin notNO (TVar 4) (TC .non)) (TCall sp_shows_faults (TCons (TVar 4) (TCons (TBin ixO (TVar 0) (TC (.int 2))) (TCons (TBin ixO (TVar 0) (TC (.int 3))) (TCons (TVar 1) (TNil))))))))) (TNext))
  (TNever))))
theorem len_accepts : ∀ ds M Q, sp_accepts ds M Q → ds.length = 2 := fun _ _ _ ⟨_, _, _, _, _, _, e, _⟩ => by rw [e]; rfl
theorem sizes_faults : SIZESD.lookup (Str.ofString "faults") = some (.int 4) := by rfl
theorem body_accepts : ∀ (ds : List D) (M : Mem) (Q : D → Mem → Prop), sp_accepts ds M Q → T_accepts ⟨fun _ M' => Q .non M', Q, fun _ _ => False, fun _ _ => False⟩ (startD ["claim", "certificate", "word", "ways", "plan"] ds) M := by
  rintro _ M Q ⟨_, n, rows, L, v, c, rfl, ⟨pz, rfl, hp, hr⟩, g, hL, hv, q⟩
  show T_accepts _ [.val (.tup [.str "faults", .str pz, L, v]), .val c, .no, .no, .no] M
  simp only [T_accepts, TSeq, IZip, TRet, TRetN, DL.TSet, TDrop, TIf, TPar, TAsg, TFor, TFrz, frz, TSetOwn, TApp, TExt, TVar, TC, TBin, TTst, TChain, TAnd, TOr, TNot, TAndV, TOrV, TNotV, TIfE, TNil, TCons, TTup, TLst, TCB, TBM, TBM0, TPart, TNoPart, TSl, TNeg, GName, GNil, GCons, GTup, IList, ITup, IRng1, IRng2, IStr, TLstF, TCall, TYes, TNext, TPur, GPur, TRetP, unown_nil, unown_cons, un1, wipeD, List.getElem?_cons_zero, List.getElem?_cons_succ, List.set_cons_zero, List.set_cons_succ, List.set_nil, isD, beq_self_eq_true, isiO_tup (d := D.tup [.str "faults", .str pz, L, v]) rfl, isTup, lenO, lenD, eq_ii, ne_ii, List.length_cons, List.length_nil, Bool.not_true, ixO, atI_zero,
    isiO_str (d := D.str "faults") rfl, isStr, show decide (((0 + 1 + 1 + 1 + 1 : Nat) : Int) = 0) = false from rfl, TWGet, sizes_faults, Option.getD_some, show decide ((4 : Int) = ((0 + 1 + 1 + 1 + 1 : Nat) : Int)) = true from rfl, eq_ss, decide_true]
  refine ⟨.str pz, rfl, rfl, fun z e => by cases e; exact hp, ?_⟩
  rw [hr]
  simp only [TSeq, IZip, TRet, TRetN, DL.TSet, TDrop, TIf, TPar, TAsg, TFor, TFrz, frz, TSetOwn, TApp, TExt, TVar, TC, TBin, TTst, TChain, TAnd, TOr, TNot, TAndV, TOrV, TNotV, TIfE, TNil, TCons, TTup, TLst, TCB, TBM, TBM0, TPart, TNoPart, TSl, TNeg, GName, GNil, GCons, GTup, IList, ITup, IRng1, IRng2, IStr, TLstF, TCall, TYes, TNext, TPur, GPur, TRetP, unown_nil, unown_cons, un1, wipeD, List.getElem?_cons_zero, List.getElem?_cons_succ, List.set_cons_zero, List.set_cons_succ, List.set_nil, isD, beq_self_eq_true, notNO, isNon]
  exact ⟨n, rows, L, v, c, rfl, g, hL, hv, q⟩
def sp_law_judged : SpD := fun ds M Q => ∃ (h : D) (n : Nat) (rows : List Str) (L v c : D) (due : Bool), ds = [h, c, .bl due] ∧ HeadF n rows L v h ∧ GoodP n rows ∧ LineOk L ∧ ToldOk v ∧ due = (isNon c && faultsOk n rows L v) ∧ Q (.bl true) M
def T__law_judged : TSd := TSeq (TSet 3 (TCall sp_accepts (TCons (TVar 0) (TCons (TVar 1) (TNil)))))
  (TRet (TAndV (TCB isiO (TCons (TVar 3) (TCons (TC (.ty "bool")) (TNil)))) (TBin eqOp (TVar 3) (TVar 2))))
theorem len__law_judged : ∀ ds M Q, sp_law_judged ds M Q → ds.length = 3 := fun _ _ _ ⟨_, _, _, _, _, _, _, e, _⟩ => by rw [e]; rfl
theorem body__law_judged : ∀ (ds : List D) (M : Mem) (Q : D → Mem → Prop), sp_law_judged ds M Q → T__law_judged ⟨fun _ M' => Q .non M', Q, fun _ _ => False, fun _ _ => False⟩ (startD ["_law_asked", "_law_paper", "_law_due", "_law_told"] ds) M := by
  rintro _ M Q ⟨h, n, rows, L, v, c, due, rfl, hh, g, hL, hv, rfl, q⟩
  show T__law_judged _ [.val h, .val c, .val (.bl (isNon c && faultsOk n rows L v)), .no] M
  simp only [T__law_judged, TSeq, IZip, TRet, TRetN, DL.TSet, TDrop, TIf, TPar, TAsg, TFor, TFrz, frz, TSetOwn, TApp, TExt, TVar, TC, TBin, TTst, TChain, TAnd, TOr, TNot, TAndV, TOrV, TNotV, TIfE, TNil, TCons, TTup, TLst, TCB, TBM, TBM0, TPart, TNoPart, TSl, TNeg, GName, GNil, GCons, GTup, IList, ITup, IRng1, IRng2, IStr, TLstF, TCall, TYes, TNext, TPur, GPur, TRetP, unown_nil, unown_cons, un1, wipeD, List.getElem?_cons_zero, List.getElem?_cons_succ, List.set_cons_zero, List.set_cons_succ, List.set_nil, isD, beq_self_eq_true]
  refine ⟨h, n, rows, L, v, c, rfl, hh, g, hL, hv, ?_⟩
  simp only [isiO_bool (d := D.bl (isNon c && faultsOk n rows L v)) rfl, isBl, eq_bb, beq_self_eq_true]
  exact q
def sp_law_results : SpD := fun ds M Q => ∃ (n : Nat) (rows : List Str) (t : Tri), ds = [lstS rows, triD t] ∧ GoodP n rows ∧ t.1.1 < t.1.2 ∧ t.1.2 < n ∧ Q (.str (resZ rows t)) M
def T__law_results : TSd := TSeq (TAsg (TVar 1) (GTup 3 (GCons (GName 2) (GCons (GName 3) (GCons (GName 4) (GNil))))))
  (TRet (TBM "str" joinO (TC (.str "")) (TCons (TLc (IList (TVar 0)) (GName 5) (TYes) (TIfE (TTst (TBin eqOp (TBin addO (TBin ixO (TVar 5) (TVar 2)) (TBin ixO (TVar 5) (TVar 3))) (TVar 4))) (TC (.str "1")) (TC (.str "0"))) [5]) (TNil))))
theorem len__law_results : ∀ ds M Q, sp_law_results ds M Q → ds.length = 2 := fun _ _ _ ⟨_, _, _, e, _⟩ => by rw [e]; rfl
theorem body__law_results : ∀ (ds : List D) (M : Mem) (Q : D → Mem → Prop), sp_law_results ds M Q → T__law_results ⟨fun _ M' => Q .non M', Q, fun _ _ => False, fun _ _ => False⟩ (startD ["_law_rows", "_law_fault", "_law_i", "_law_j", "_law_sign", "_law_row_here"] ds) M := by
  rintro _ M Q ⟨n, rows, t, rfl, g, h1, h2, q⟩
  show T__law_results _ [.val (lstS rows), .val (triD t), .no, .no, .no, .no] M
  simp only [T__law_results, TSeq, IZip, TRet, TRetN, DL.TSet, TDrop, TIf, TPar, TAsg, TFor, TFrz, frz, TSetOwn, TApp, TExt, TVar, TC, TBin, TTst, TChain, TAnd, TOr, TNot, TAndV, TOrV, TNotV, TIfE, TNil, TCons, TTup, TLst, TCB, TBM, TBM0, TPart, TNoPart, TSl, TNeg, GName, GNil, GCons, GTup, IList, ITup, IRng1, IRng2, IStr, TLstF, TCall, TYes, TNext, TPur, GPur, TRetP, unown_nil, unown_cons, un1, wipeD, List.getElem?_cons_zero, List.getElem?_cons_succ, List.set_cons_zero, List.set_cons_succ, List.set_nil, isD, beq_self_eq_true, TLc, TLcF, triD, lackD, lstS]
  have hrl := g.len
  refine ⟨rfl, trivial, by rw [List.length_map]; omega, ?_⟩
  refine lcD_m D.str (fun r => .str (if seen t.1.1 t.1.2 r = t.2 then Str.ofString "1" else Str.ofString "0")) _ _ (fun r hr K1 k1 => ?_) ?_
  · have hl := g.row r hr
    simp only [TSeq, IZip, TRet, TRetN, DL.TSet, TDrop, TIf, TPar, TAsg, TFor, TFrz, frz, TSetOwn, TApp, TExt, TVar, TC, TBin, TTst, TChain, TAnd, TOr, TNot, TAndV, TOrV, TNotV, TIfE, TNil, TCons, TTup, TLst, TCB, TBM, TBM0, TPart, TNoPart, TSl, TNeg, GName, GNil, GCons, GTup, IList, ITup, IRng1, IRng2, IStr, TLstF, TCall, TYes, TNext, TPur, GPur, TRetP, unown_nil, unown_cons, un1, wipeD, List.getElem?_cons_zero, List.getElem?_cons_succ, List.set_cons_zero, List.set_cons_succ, List.set_nil, isD, beq_self_eq_true]
    refine ix_sg (by omega) (by omega) (ix_sg (by omega) (by omega) (add_sg ?_))
    rw [eq_ss]
    by_cases h : seen t.1.1 t.1.2 r = t.2
    · simp only [h, decide_true, if_true] at k1 ⊢; exact k1
    · simp only [h, decide_false, if_false] at k1 ⊢; exact k1
  · have e : (rows.map fun r => D.str (if seen t.1.1 t.1.2 r = t.2 then Str.ofString "1" else Str.ofString "0")) = (rows.map fun r => if seen t.1.1 t.1.2 r = t.2 then Str.ofString "1" else Str.ofString "0").map D.str := by rw [List.map_map]; rfl
    rw [e]
    unfold joinO
    simp only [strsOf_map]
    rw [res_join]
    refine ⟨?_, q⟩
    have : ∀ l : List Str, ((l.map fun r => if seen t.1.1 t.1.2 r = t.2 then Str.ofString "1" else Str.ofString "0").map (·.length)).sum ≤ l.length := by
      intro l
      induction l with
      | nil => exact Nat.le_refl _
      | cons r rs ih =>
        simp only [List.map_cons, List.sum_cons, List.length_cons]
        have : (if seen t.1.1 t.1.2 r = t.2 then Str.ofString "1" else Str.ofString "0").length = 1 := by split <;> decide +kernel
        omega
    have h3 := this rows
    have e0 : (Str.ofString "").length = 0 := by decide +kernel
    rw [e0]
    omega
def sp_law_faults : SpD := fun ds M Q => ∃ n : Nat, ds = [.int (n : Int)] ∧ n ≤ 64 ∧ Q (.lst ((wantT n WAYSZ).map triD)) M
def T__law_faults : TSd := TSeq (TSetOwn 1 (TLstF (TNil)))
  (TSeq (TFor (IList (TCall sp_law_pairs (TCons (TVar 0) (TNil)))) (GTup 2 (GCons (GName 2) (GCons (GName 3) (GNil)))) (TExt 1 (TLc (IList (TLst (TCons (TC (.str "00")) (TCons (TC (.str "01")) (TCons (TC (.str "10")) (TCons (TC (.str "11")) (TNil))))))) (GName 4) (TYes) (TTup (TCons (TVar 2) (TCons (TVar 3) (TCons (TVar 4) (TNil))))) [4])))
  (TFrz 1 (TRet (TVar 1))))
theorem len__law_faults : ∀ ds M Q, sp_law_faults ds M Q → ds.length = 1 := fun _ _ _ ⟨_, e, _⟩ => by rw [e]; rfl
theorem body__law_faults : ∀ (ds : List D) (M : Mem) (Q : D → Mem → Prop), sp_law_faults ds M Q → T__law_faults ⟨fun _ M' => Q .non M', Q, fun _ _ => False, fun _ _ => False⟩ (startD ["_law_many", "_law_found", "_law_i", "_law_j", "_law_sign"] ds) M := by
  rintro _ M Q ⟨n, rfl, hn, q⟩
  show T__law_faults _ [.val (.int (n : Int)), .no, .no, .no, .no] M
  simp only [T__law_faults, TSeq, IZip, TRet, TRetN, DL.TSet, TDrop, TIf, TPar, TAsg, TFor, TFrz, frz, TSetOwn, TApp, TExt, TVar, TC, TBin, TTst, TChain, TAnd, TOr, TNot, TAndV, TOrV, TNotV, TIfE, TNil, TCons, TTup, TLst, TCB, TBM, TBM0, TPart, TNoPart, TSl, TNeg, GName, GNil, GCons, GTup, IList, ITup, IRng1, IRng2, IStr, TLstF, TCall, TYes, TNext, TPur, GPur, TRetP, unown_nil, unown_cons, un1, wipeD, List.getElem?_cons_zero, List.getElem?_cons_succ, List.set_cons_zero, List.set_cons_succ, List.set_nil, isD, beq_self_eq_true, List.length_nil]
  refine ⟨by decide, n, rfl, hn, ?_⟩
  refine forD_inv pairD (pairs n) (fun r ρ M' => M' = M ∧ ∃ pre a b, pairs n = pre ++ r ∧ ρ = [.val (.int (n : Int)), .own (pre.flatMap fun p => WAYSZ.map (lackD p)), a, b, .no]) _ _ (fun p r ρ M' Kn _ ⟨hM, pre, a, b, hp, hρ⟩ k => ?step) ⟨rfl, [], .no, .no, rfl, rfl⟩ (fun ρ M' ⟨hM, pre, a, b, hp, hρ⟩ => ?fin)
  case step =>
    subst hM hρ
    have hpl : pre.length ≤ 4096 := by
      have h1 := pairs_len hn
      have h2 := congrArg List.length hp
      rw [List.length_append] at h2
      omega
    simp only [TSeq, IZip, TRet, TRetN, DL.TSet, TDrop, TIf, TPar, TAsg, TFor, TFrz, frz, TSetOwn, TApp, TExt, TVar, TC, TBin, TTst, TChain, TAnd, TOr, TNot, TAndV, TOrV, TNotV, TIfE, TNil, TCons, TTup, TLst, TCB, TBM, TBM0, TPart, TNoPart, TSl, TNeg, GName, GNil, GCons, GTup, IList, ITup, IRng1, IRng2, IStr, TLstF, TCall, TYes, TNext, TPur, GPur, TRetP, unown_nil, unown_cons, un1, wipeD, List.getElem?_cons_zero, List.getElem?_cons_succ, List.set_cons_zero, List.set_cons_succ, List.set_nil, isD, beq_self_eq_true, pairD, TLc, TLcF, List.length_cons, List.length_nil]
    refine ⟨trivial, by decide, by decide, ?_⟩
    have e1 : ([D.str "00", .str "01", .str "10", .str "11"] : List D) = WAYSZ.map D.str := rfl
    rw [e1]
    refine lcD_m D.str (lackD p) _ _ (fun s hs K1 h1 => ?_) ?_
    · simp only [TSeq, IZip, TRet, TRetN, DL.TSet, TDrop, TIf, TPar, TAsg, TFor, TFrz, frz, TSetOwn, TApp, TExt, TVar, TC, TBin, TTst, TChain, TAnd, TOr, TNot, TAndV, TOrV, TNotV, TIfE, TNil, TCons, TTup, TLst, TCB, TBM, TBM0, TPart, TNoPart, TSl, TNeg, GName, GNil, GCons, GTup, IList, ITup, IRng1, IRng2, IStr, TLstF, TCall, TYes, TNext, TPur, GPur, TRetP, unown_nil, unown_cons, un1, wipeD, List.getElem?_cons_zero, List.getElem?_cons_succ, List.set_cons_zero, List.set_cons_succ, List.set_nil, isD, beq_self_eq_true, List.length_nil, List.length_cons]
      exact ⟨by decide, h1⟩
    · have hb := flat_len (f := fun p => WAYSZ.map (lackD p)) (c := 4) (l := pre) fun a _ => Nat.le_refl _
      refine ⟨by rw [List.length_map]; show _ + 4 ≤ _; omega, k _ _ ⟨rfl, pre ++ [p], .val (.int (p.1 : Int)), .val (.int (p.2 : Int)), by rw [hp]; simp, ?_⟩⟩
      rw [List.flatMap_append]
      simp only [List.flatMap_cons, List.flatMap_nil, List.append_nil]
  case fin =>
    subst hM hρ
    have : pre = pairs n := by simpa using hp.symm
    subst this
    rw [want_map] at q
    exact q
end DL

namespace DL
open PySem PySem.Spec PyProof.Rows L2 TL
/-! ## faults judged: the law's own judgement -/
theorem forD_alli {g : TGd} {b : TSd} {Dd : EndsD} (p : D → Bool) (I : List Sl → Prop) (M : Mem) (xs : List D) (ρ : List Sl)
    (h : ∀ a ∈ xs, ∀ ρ (Kn : List Sl → Mem → Prop), I ρ → (p a = true → ∀ ρ', I ρ' → Kn ρ' M) → (p a = false → Dd.rt (.bl false) M) → g a ρ M fun ρ1 M1 => b ⟨Kn, Dd.rt, Dd.nx, Kn⟩ ρ1 M1)
    (i : I ρ) (k1 : xs.all p = true → ∀ ρ, I ρ → Dd.nx ρ M) (k2 : xs.all p = false → Dd.rt (.bl false) M) : forD g b xs Dd ρ M := by
  have := forD_all (fun d : D => d) p I M xs ρ h i k1 k2
  rwa [List.map_id'] at this
theorem sign_in (c : Nat) : decide ((⟨#[c]⟩ : Str) ∈ ([Str.ofString "0", Str.ofString "1"] : List Str)) = decide (c = 48 ∨ c = 49) := by
  have e0 : Str.ofString "0" = ⟨#[48]⟩ := by decide +kernel
  have e1 : Str.ofString "1" = ⟨#[49]⟩ := by decide +kernel
  rw [e0, e1, decide_eq_decide]
  simp
def tableD (n : Nat) (rows : List Str) : D := .lst ((wantT n WAYSZ).map fun t => .tup [triD t, .str (resZ rows t)])
theorem want4_len {n : Nat} (h : n ≤ 64) : (wantT n WAYSZ).length ≤ 16384 := wantT_len h (Nat.le_refl _)
theorem any_not {α : Type} (p : α → Bool) : ∀ l : List α, (l.map fun a => !p a).any id = !l.all p
  | [] => rfl
  | a :: r => by
    rw [List.map_cons, List.any_cons, List.all_cons, any_not p r, Bool.not_and]
    rfl
theorem shape3_ne {ys : List D} (h : ¬ ys.length = 3) : shape3 (.tup ys) = false := by
  cases e : shape3 (.tup ys) with
  | false => rfl
  | true =>
    obtain ⟨i, j, c, e2⟩ := shape3_tup e
    cases e2
    exact absurd rfl h
def sp_law_is_right : SpD := fun ds M Q => ∃ (n : Nat) (rows : List Str) (L v : D), ds = [lstS rows, tableD n rows, L, v] ∧ GoodP n rows ∧ LineOk L ∧ ToldOk v ∧ Q (.bl (faultsOk n rows L v)) M
def T__law_is_right : TSd := TSeq (TIf (TOr (TNot (TTst (TCB isiO (TCons (TVar 2) (TCons (TC (.ty "str")) (TNil)))))) (TOr (TTst (TBin neOp (TCB lenO (TCons (TVar 2) (TNil))) (TCB lenO (TCons (TVar 0) (TNil))))) (TNot (TTst (TCB isiO (TCons (TVar 3) (TCons (TC (.ty "tuple")) (TNil)))))))) (TRet (TC (.bl false))) (TNext))
  (TSeq (TIf (TTst (TCB anyO (TCons (TLc (IStr (TVar 2)) (GName 5) (TYes) (TBin (inO true) (TVar 5) (TLst (TCons (TC (.str "0")) (TCons (TC (.str "1")) (TNil))))) [5]) (TNil)))) (TRet (TC (.bl false))) (TNext))
  (TSeq (TFor (ITup (TVar 3)) (GName 4) (TSeq (TIf (TOr (TNot (TTst (TCB isiO (TCons (TVar 4) (TCons (TC (.ty "tuple")) (TNil)))))) (TTst (TBin neOp (TCB lenO (TCons (TVar 4) (TNil))) (TC (.int 3))))) (TRet (TC (.bl false))) (TNext))
  (TIf (TTst (TCB anyO (TCons (TLc (ITup (TSl slO (TVar 4) (TNoPart) (TPart (TC (.int 2))))) (GName 6) (TYes) (TOrV (TNotV (TCB isiO (TCons (TVar 6) (TCons (TC (.ty "int")) (TNil))))) (TCB isiO (TCons (TVar 6) (TCons (TC (.ty "bool")) (TNil))))) [6]) (TNil)))) (TRet (TC (.bl false))) (TNext))))
  (TRet (TBin eqOp (TCB lstO (TCons (TVar 3) (TNil))) (TLc (IList (TVar 1)) (GTup 2 (GCons (GName 7) (GCons (GName 8) (GNil)))) (TTst (TBin eqOp (TVar 8) (TVar 2))) (TVar 7) [7, 8])))))
theorem len__law_is_right : ∀ ds M Q, sp_law_is_right ds M Q → ds.length = 4 := fun _ _ _ ⟨_, _, _, _, e, _⟩ => by rw [e]; rfl
theorem body__law_is_right : ∀ (ds : List D) (M : Mem) (Q : D → Mem → Prop), sp_law_is_right ds M Q → T__law_is_right ⟨fun _ M' => Q .non M', Q, fun _ _ => False, fun _ _ => False⟩ (startD ["_law_rows", "_law_table", "_law_line", "_law_told", "_law_value", "_law_sign", "_law_at", "_law_fault", "_law_made"] ds) M := by
  rintro _ M Q ⟨n, rows, L, v, rfl, g, hL, hv, q⟩
  show T__law_is_right _ [.val (lstS rows), .val (tableD n rows), .val L, .val v, .no, .no, .no, .no, .no] M
  have hn : n ≤ 64 := by have := g.hi; omega
  have hrl := g.len
  simp only [T__law_is_right, TSeq, IZip, TRet, TRetN, DL.TSet, TDrop, TIf, TPar, TAsg, TFor, TFrz, frz, TSetOwn, TApp, TExt, TVar, TC, TBin, TTst, TChain, TAnd, TOr, TNot, TAndV, TOrV, TNotV, TIfE, TNil, TCons, TTup, TLst, TCB, TBM, TBM0, TPart, TNoPart, TSl, TNeg, GName, GNil, GCons, GTup, IList, ITup, IRng1, IRng2, IStr, TLstF, TCall, TYes, TNext, TPur, GPur, TRetP, unown_nil, unown_cons, un1, wipeD, List.getElem?_cons_zero, List.getElem?_cons_succ, List.set_cons_zero, List.set_cons_succ, List.set_nil, isD, beq_self_eq_true, isiO_str hL.1]
  cases L with
  | str z =>
    simp only [isStr, Bool.not_true, lenO, lenD, lstS, List.length_map, ne_ii]
    by_cases hz : z.length = rows.length
    · have e1 : decide (((z.length : Nat) : Int) = ((rows.length : Nat) : Int)) = true := by simp [hz]
      simp only [e1, Bool.not_true, isiO_tup hv.1]
      cases v with
      | tup xs =>
        obtain ⟨hxl, hel⟩ := hv.2 xs rfl
        simp only [isTup, Bool.not_true, TSeq, IZip, TRet, TRetN, DL.TSet, TDrop, TIf, TPar, TAsg, TFor, TFrz, frz, TSetOwn, TApp, TExt, TVar, TC, TBin, TTst, TChain, TAnd, TOr, TNot, TAndV, TOrV, TNotV, TIfE, TNil, TCons, TTup, TLst, TCB, TBM, TBM0, TPart, TNoPart, TSl, TNeg, GName, GNil, GCons, GTup, IList, ITup, IRng1, IRng2, IStr, TLstF, TCall, TYes, TNext, TPur, GPur, TRetP, unown_nil, unown_cons, un1, wipeD, List.getElem?_cons_zero, List.getElem?_cons_succ, List.set_cons_zero, List.set_cons_succ, List.set_nil, isD, beq_self_eq_true, TLc, TLcF, charsD]
        refine ⟨by rw [List.length_map]; have := len_tl z; show (tl z).length ≤ _; omega, ?_⟩
        refine lcD_m (fun c : Nat => D.str ⟨#[c]⟩) (fun c => .bl (!decide (c = 48 ∨ c = 49))) _ _ (fun c hc K1 h1 => ?_) ?_
        · simp only [TSeq, IZip, TRet, TRetN, DL.TSet, TDrop, TIf, TPar, TAsg, TFor, TFrz, frz, TSetOwn, TApp, TExt, TVar, TC, TBin, TTst, TChain, TAnd, TOr, TNot, TAndV, TOrV, TNotV, TIfE, TNil, TCons, TTup, TLst, TCB, TBM, TBM0, TPart, TNoPart, TSl, TNeg, GName, GNil, GCons, GTup, IList, ITup, IRng1, IRng2, IStr, TLstF, TCall, TYes, TNext, TPur, GPur, TRetP, unown_nil, unown_cons, un1, wipeD, List.getElem?_cons_zero, List.getElem?_cons_succ, List.set_cons_zero, List.set_cons_succ, List.set_nil, isD, beq_self_eq_true, List.length_cons, List.length_nil, inO]
          refine ⟨by decide, ⟨rfl, rfl⟩, ?_⟩
          have e2 : inD (.str ⟨#[c]⟩) [D.str (Str.ofString "0"), D.str (Str.ofString "1")] = decide (c = 48 ∨ c = 49) := by
            rw [← sign_in]
            exact inD_strs _ [Str.ofString "0", Str.ofString "1"]
          rw [e2]
          exact h1
        · simp only [anyO, blsOf_map, any_not]
          unfold faultsOk at q
          simp only [signs_all, hz, decide_true, Bool.true_and] at q
          have e3 : (tl z).all (fun c => decide (c = 48 ∨ c = 49)) = z.cps.toList.all (fun c => decide (c = 48 ∨ c = 49)) := rfl
          cases hA : z.cps.toList.all (fun c => decide (c = 48 ∨ c = 49)) with
          | false =>
            rw [e3, hA] at q
            exact q
          | true =>
            rw [e3, hA] at q
            simp only [Bool.true_and] at q
            simp only [Bool.not_true]
            have hc : ∀ c ∈ tl z, c = 48 ∨ c = 49 := fun c h => of_decide_eq_true (List.all_eq_true.mp hA c h)
            refine forD_alli shape3 (fun ρ => ∃ a b, ρ = [.val (lstS rows), .val (tableD n rows), .val (.str z), .val (.tup xs), a, .no, b, .no, .no]) M xs _ (fun d hd ρ Kn ⟨a, b, hρ⟩ k1 k2 => ?step) ⟨_, _, rfl⟩ (fun ha ρ ⟨a, b, hρ⟩ => ?fin) (fun ha => ?bad)
            case bad =>
              have : sameT xs (dueT n rows z) = false := by
                cases h : sameT xs (dueT n rows z) with
                | false => rfl
                | true =>
                  rw [List.all_eq_true.mpr fun d hd => fault_shape (sameT_fault h d hd)] at ha
                  cases ha
              rw [this] at q
              exact q
            case fin =>
              subst hρ
              simp only [TSeq, IZip, TRet, TRetN, DL.TSet, TDrop, TIf, TPar, TAsg, TFor, TFrz, frz, TSetOwn, TApp, TExt, TVar, TC, TBin, TTst, TChain, TAnd, TOr, TNot, TAndV, TOrV, TNotV, TIfE, TNil, TCons, TTup, TLst, TCB, TBM, TBM0, TPart, TNoPart, TSl, TNeg, GName, GNil, GCons, GTup, IList, ITup, IRng1, IRng2, IStr, TLstF, TCall, TYes, TNext, TPur, GPur, TRetP, unown_nil, unown_cons, un1, wipeD, List.getElem?_cons_zero, List.getElem?_cons_succ, List.set_cons_zero, List.set_cons_succ, List.set_nil, isD, beq_self_eq_true, lstO, tableD]
              refine ⟨by rw [List.length_map]; have := want4_len hn; omega, ?_⟩
              refine lcD_f (fun t : Tri => .tup [triD t, .str (resZ rows t)]) (fun t => decide (resZ rows t = z)) triD _ _ (fun t ht K1 K2 k1 k2 => ?_) ?_
              · simp only [TSeq, IZip, TRet, TRetN, DL.TSet, TDrop, TIf, TPar, TAsg, TFor, TFrz, frz, TSetOwn, TApp, TExt, TVar, TC, TBin, TTst, TChain, TAnd, TOr, TNot, TAndV, TOrV, TNotV, TIfE, TNil, TCons, TTup, TLst, TCB, TBM, TBM0, TPart, TNoPart, TSl, TNeg, GName, GNil, GCons, GTup, IList, ITup, IRng1, IRng2, IStr, TLstF, TCall, TYes, TNext, TPur, GPur, TRetP, unown_nil, unown_cons, un1, wipeD, List.getElem?_cons_zero, List.getElem?_cons_succ, List.set_cons_zero, List.set_cons_succ, List.set_nil, isD, beq_self_eq_true, eq_ss]
                cases h : decide (resZ rows t = z) with
                | true => exact ⟨rfl, k1 h⟩
                | false => exact ⟨rfl, k2 h⟩
              · rw [table_due hz hc]
                obtain ⟨p1, p2⟩ := told_pys hv
                exact eq_tris (List.all_eq_true.mp ha) p1 (by omega) q
            case step =>
              subst hρ
              obtain ⟨kd, _, _⟩ := hel d hd
              simp only [TSeq, IZip, TRet, TRetN, DL.TSet, TDrop, TIf, TPar, TAsg, TFor, TFrz, frz, TSetOwn, TApp, TExt, TVar, TC, TBin, TTst, TChain, TAnd, TOr, TNot, TAndV, TOrV, TNotV, TIfE, TNil, TCons, TTup, TLst, TCB, TBM, TBM0, TPart, TNoPart, TSl, TNeg, GName, GNil, GCons, GTup, IList, ITup, IRng1, IRng2, IStr, TLstF, TCall, TYes, TNext, TPur, GPur, TRetP, unown_nil, unown_cons, un1, wipeD, List.getElem?_cons_zero, List.getElem?_cons_succ, List.set_cons_zero, List.set_cons_succ, List.set_nil, isD, beq_self_eq_true, isiO_tup (kok_of kd)]
              cases d with
              | tup ys =>
                simp only [isTup, Bool.not_true, lenO, lenD, ne_ii]
                by_cases h3 : ys.length = 3
                · match ys, h3 with
                  | [x, y, w], _ =>
                    obtain ⟨kx, ky, _⟩ : kok x = true ∧ kok y = true ∧ True := ⟨kok_mem kd x (by simp), kok_mem kd y (by simp), trivial⟩
                    simp only [List.length_cons, List.length_nil, show decide (((0 + 1 + 1 + 1 : Nat) : Int) = 3) = true from rfl, Bool.not_true, TLc, TLcF, TSeq, IZip, TRet, TRetN, DL.TSet, TDrop, TIf, TPar, TAsg, TFor, TFrz, frz, TSetOwn, TApp, TExt, TVar, TC, TBin, TTst, TChain, TAnd, TOr, TNot, TAndV, TOrV, TNotV, TIfE, TNil, TCons, TTup, TLst, TCB, TBM, TBM0, TPart, TNoPart, TSl, TNeg, GName, GNil, GCons, GTup, IList, ITup, IRng1, IRng2, IStr, TLstF, TCall, TYes, TNext, TPur, GPur, TRetP, unown_nil, unown_cons, un1, wipeD, List.getElem?_cons_zero, List.getElem?_cons_succ, List.set_cons_zero, List.set_cons_succ, List.set_nil, isD, beq_self_eq_true, slO]
                    have e4 : cutD [x, y, w] none (some 2) = [x, y] := rfl
                    rw [e4]
                    refine ⟨by simp, ?_⟩
                    refine lcD_i (fun e => D.bl (!isInt e)) [x, y] _ (fun e he K1 h1 => ?_) ?_
                    · have ke : kok e = true := by
                        rcases List.mem_cons.mp he with rfl | he
                        · exact kx
                        · rw [List.mem_singleton.mp he]; exact ky
                      simp only [TSeq, IZip, TRet, TRetN, DL.TSet, TDrop, TIf, TPar, TAsg, TFor, TFrz, frz, TSetOwn, TApp, TExt, TVar, TC, TBin, TTst, TChain, TAnd, TOr, TNot, TAndV, TOrV, TNotV, TIfE, TNil, TCons, TTup, TLst, TCB, TBM, TBM0, TPart, TNoPart, TSl, TNeg, GName, GNil, GCons, GTup, IList, ITup, IRng1, IRng2, IStr, TLstF, TCall, TYes, TNext, TPur, GPur, TRetP, unown_nil, unown_cons, un1, wipeD, List.getElem?_cons_zero, List.getElem?_cons_succ, List.set_cons_zero, List.set_cons_succ, List.set_nil, isD, beq_self_eq_true, isiO_int ke, isiO_bool ke]
                      cases e <;> first | exact h1 | (cases ke; done)
                    · simp only [anyO, blsOf_map, any_not, List.all_cons, List.all_nil, Bool.and_true]
                      have e5 : shape3 (.tup [x, y, w]) = (isInt x && isInt y) := by
                        cases x <;> cases y <;> rfl
                      rw [e5] at k1 k2
                      cases h : isInt x && isInt y with
                      | true => exact k1 h _ ⟨_, _, rfl⟩
                      | false => exact k2 h
                · have e6 : decide (((ys.length : Nat) : Int) = 3) = false := by simp; omega
                  simp only [e6, Bool.not_false]
                  exact k2 (shape3_ne h3)
              | _ => exact k2 rfl
      | _ => exact q
    · have e1 : decide (((z.length : Nat) : Int) = ((rows.length : Nat) : Int)) = false := by simp; omega
      have : faultsOk n rows (.str z) v = false := by
        cases v with
        | tup xs =>
          show (isSigns (.str z) rows.length && _) = false
          rw [signs_all, decide_eq_false hz]
          rfl
        | _ => rfl
      rw [this] at q
      simp only [e1, Bool.not_false]
      exact q
  | _ => exact q
end DL

namespace DL
open PySem PySem.Spec PyProof.Rows L2 TL
/-! ## faults judged: lines, near answers -/
theorem atI_last {xs : List D} (h : xs ≠ []) : ∃ d, atI xs (-1) = some d ∧ d ∈ xs := by
  have hp : 0 < xs.length := List.length_pos_iff.mpr h
  have e : ixN xs.length (-1) = some (xs.length - 1) := by
    unfold ixN
    rw [if_neg (by decide), if_pos (by omega)]
    congr 1
    omega
  unfold atI
  rw [e]
  exact ⟨xs[xs.length - 1], by simp, List.getElem_mem _⟩
theorem ix_last {xs : List D} {K : D → Prop} (h : xs ≠ []) (q : ∀ d ∈ xs, K d) : ixO (.lst xs) (.int (-1)) K := by
  obtain ⟨d, e, hd⟩ := atI_last h
  show match atI xs (-1) with | some d => K d | none => False
  rw [e]
  exact q d hd
theorem forD_invi {g : TGd} {b : TSd} {Dd : EndsD} (xs : List D) (I : List D → List Sl → Mem → Prop) (ρ : List Sl) (M : Mem)
    (h : ∀ a r ρ M (Kn : List Sl → Mem → Prop), (∃ pre, xs = pre ++ a :: r) → I (a :: r) ρ M → (∀ ρ' M', I r ρ' M' → Kn ρ' M') → g a ρ M fun ρ1 M1 => b ⟨Kn, Dd.rt, Dd.nx, Kn⟩ ρ1 M1)
    (i : I xs ρ M) (k : ∀ ρ M, I [] ρ M → Dd.nx ρ M) : forD g b xs Dd ρ M := by
  have := forD_inv (fun d : D => d) xs I ρ M h i k
  rwa [List.map_id'] at this
theorem ix_tup {xs : List D} {i : Int} {K : D → Prop} (h0 : 0 ≤ i) (h1 : i < xs.length) (q : ∀ d ∈ xs, K d) : ixO (.tup xs) (.int i) K := by
  obtain ⟨d, e, hd⟩ := atI_in h0 h1
  show match atI xs i with | some d => K d | none => False
  rw [e]
  exact q d hd
theorem eq_lnil {xs : List D} {k : D → Prop} (h : isPys xs = true) (hd : deps xs ≤ 8) : eqOp (.lst xs) (.lst []) k = k (.bl (decide (xs = []))) := by
  unfold eqOp
  rw [eqv_nil]
  have h1 : isPy (.lst xs) = true := h
  have h2 : dep (.lst xs) ≤ 64 := by show deps xs + 1 ≤ 64; omega
  simp [h1, h2, show isPy (.lst []) = true from rfl, show dep (.lst []) ≤ 64 from by decide]
theorem ne_lnil {xs : List D} {k : D → Prop} (h : isPys xs = true) (hd : deps xs ≤ 8) : neOp (.lst xs) (.lst []) k = k (.bl (!decide (xs = []))) := by
  unfold neOp
  rw [eqv_nil]
  have h1 : isPy (.lst xs) = true := h
  have h2 : dep (.lst xs) ≤ 64 := by show deps xs + 1 ≤ 64; omega
  simp [h1, h2, show isPy (.lst []) = true from rfl, show dep (.lst []) ≤ 64 from by decide]
theorem eq_tnil8 {xs : List D} {k : D → Prop} (h : isPys xs = true) (hd : deps xs ≤ 8) : eqOp (.tup xs) (.tup []) k = k (.bl (decide (xs = []))) := by
  unfold eqOp
  rw [eqv_nilT]
  have h1 : isPy (.tup xs) = true := h
  have h2 : dep (.tup xs) ≤ 64 := by show deps xs + 1 ≤ 64; omega
  simp [h1, h2, show isPy (.tup []) = true from rfl, show dep (.tup []) ≤ 64 from by decide]
theorem cutZ_len (z : Str) (lo hi : Option Int) : (cutZ z lo hi).length ≤ z.length := by
  unfold cutZ
  rw [len_tl, tl_mkS, len_tl]
  exact cutD_len _ _ _
theorem deps_tris8 (T : List Tri) : deps (T.map triD) ≤ 8 := Nat.le_trans (deps_tris T) (by decide)
def sp_law_lines : SpD := fun ds M Q => ∃ (p : Addr) (n : Nat) (rows : List Str), ds = [.ref p, lstS rows, .lst ((wantT n WAYSZ).map triD)] ∧ M p = some .purse ∧ GoodP n rows ∧ ∀ ls : List Str, 2 ≤ ls.length → ls.length ≤ 7 → (∀ z ∈ ls, z.length ≤ 140) → Q (lstS ls) M
def T__law_lines : TSd := TSeq (TSetOwn 3 (TLstF (TCons (TCall sp_law_row (TCons (TVar 0) (TCons (TCB lenO (TCons (TVar 1) (TNil))) (TNil)))) (TNil))))
  (TSeq (TFor (IRng1 (TCons (TIfE (TTst (TBin neOp (TVar 2) (TLst (TNil)))) (TC (.int 3)) (TC (.int 0))) (TNil))) (GName 4) (TApp 3 (TCall sp_law_results (TCons (TVar 1) (TCons (TBin ixO (TVar 2) (TCall sp_law_take (TCons (TVar 0) (TCons (TCB lenO (TCons (TVar 2) (TNil))) (TNil))))) (TNil))))))
  (TFrz 3 (TSeq (TPar 5 6 (TCons (TBin ixO (TVar 3) (TNeg (TC (.int 1)))) (TCons (TCall sp_law_take (TCons (TVar 0) (TCons (TBin addO (TCB lenO (TCons (TVar 1) (TNil))) (TC (.int 1))) (TNil)))) (TNil))))
  (TRet (TBin addO (TVar 3) (TLst (TCons (TBin addO (TBin addO (TSl slO (TVar 5) (TNoPart) (TPart (TVar 6))) (TC (.str "0"))) (TSl slO (TVar 5) (TPart (TVar 6)) (TNoPart))) (TCons (TBin addO (TSl slO (TVar 5) (TNoPart) (TPart (TVar 6))) (TSl slO (TVar 5) (TPart (TBin addO (TVar 6) (TC (.int 1)))) (TNoPart))) (TCons (TBin addO (TBin addO (TSl slO (TVar 5) (TNoPart) (TPart (TVar 6))) (TC (.str "2"))) (TSl slO (TVar 5) (TPart (TBin addO (TVar 6) (TC (.int 1)))) (TNoPart))) (TNil))))))))))
theorem len__law_lines : ∀ ds M Q, sp_law_lines ds M Q → ds.length = 3 := fun _ _ _ ⟨_, _, _, e, _⟩ => by rw [e]; rfl
theorem res_len (rows : List Str) (t : Tri) : (resZ rows t).length = rows.length := by
  rw [len_tl, resZ, tl_mkS, resL, List.length_map]
theorem body__law_lines : ∀ (ds : List D) (M : Mem) (Q : D → Mem → Prop), sp_law_lines ds M Q → T__law_lines ⟨fun _ M' => Q .non M', Q, fun _ _ => False, fun _ _ => False⟩ (startD ["_law_purse_here", "_law_rows", "_law_faults_here", "_law_found", "_law_turn", "_law_line", "_law_at"] ds) M := by
  rintro _ M Q ⟨p, n, rows, rfl, hp, g, q⟩
  show T__law_lines _ [.val (.ref p), .val (lstS rows), .val (.lst ((wantT n WAYSZ).map triD)), .no, .no, .no, .no] M
  have hn : n ≤ 64 := by have := g.hi; omega
  have hrl := g.len
  have hTl := want4_len hn
  have hTm := fun t (h : t ∈ wantT n WAYSZ) => wantT_mem h
  generalize wantT n WAYSZ = T at hTl hTm
  unfold T__law_lines
  refine cut2 (fun ρ M' => M' = M ∧ ∃ (ls : List Str) (a : Sl), 1 ≤ ls.length ∧ ls.length ≤ 4 ∧ (∀ z ∈ ls, z.length = rows.length) ∧ ρ = [.val (.ref p), .val (lstS rows), .val (.lst (T.map triD)), .own (ls.map D.str), a, .no, .no]) (fun nx knx => ?_) ?_
  · simp only [TSeq, IZip, TRet, TRetN, DL.TSet, TDrop, TIf, TPar, TAsg, TFor, TFrz, frz, TSetOwn, TApp, TExt, TVar, TC, TBin, TTst, TChain, TAnd, TOr, TNot, TAndV, TOrV, TNotV, TIfE, TNil, TCons, TTup, TLst, TCB, TBM, TBM0, TPart, TNoPart, TSl, TNeg, GName, GNil, GCons, GTup, IList, ITup, IRng1, IRng2, IStr, TLstF, TCall, TYes, TNext, TPur, GPur, TRetP, unown_nil, unown_cons, un1, wipeD, List.getElem?_cons_zero, List.getElem?_cons_succ, List.set_cons_zero, List.set_cons_succ, List.set_nil, isD, beq_self_eq_true, lenO, lenD, lstS, List.length_map, List.length_nil, List.length_cons]
    refine ⟨p, rows.length, rfl, hp, by omega, by omega, fun s hs => ⟨by decide, ?_⟩⟩
    have hsl : s.length = rows.length := by have := hs.1; omega
    have hone : ∀ z ∈ [s], z.length = rows.length := fun z hz => by rw [List.mem_singleton.mp hz]; exact hsl
    refine ⟨by decide, ?_⟩
    rw [ne_lnil (isPys_tris T) (deps_tris8 T)]
    by_cases hT : T = []
    · subst hT
      refine ⟨⟨by decide, by decide⟩, ?_⟩
      exact knx _ _ ⟨rfl, [s], .no, Nat.le_refl _, by simp, hone, rfl⟩
    · have hT2 : ¬ T.map triD = [] := fun e => hT (List.map_eq_nil_iff.mp e)
      have hpos : 0 < T.length := List.length_pos_iff.mpr hT
      simp only [hT2, decide_false, Bool.not_false]
      refine ⟨⟨by decide, by decide⟩, ?_⟩
      rw [rangeD_map]
      refine forD_inv D.int _ (fun r ρ M' => M' = M ∧ ∃ (ls : List Str) (a : Sl), 1 ≤ ls.length ∧ ls.length + r.length ≤ 4 ∧ (∀ z ∈ ls, z.length = rows.length) ∧ ρ = [.val (.ref p), .val (lstS rows), .val (.lst (T.map triD)), .own (ls.map D.str), a, .no, .no]) _ _ (fun z r ρ M' Kn _ ⟨hM, ls, a, l1, l2, l3, hρ⟩ k => ?step) ⟨rfl, [s], .no, Nat.le_refl _, by simp, hone, rfl⟩ (fun ρ M' ⟨hM, ls, a, l1, l2, l3, hρ⟩ => ?fin)
      case fin => exact knx _ _ ⟨hM, ls, a, l1, l2, l3, hρ⟩
      case step =>
        subst hM hρ
        simp only [List.length_cons] at l2
        simp only [TSeq, IZip, TRet, TRetN, DL.TSet, TDrop, TIf, TPar, TAsg, TFor, TFrz, frz, TSetOwn, TApp, TExt, TVar, TC, TBin, TTst, TChain, TAnd, TOr, TNot, TAndV, TOrV, TNotV, TIfE, TNil, TCons, TTup, TLst, TCB, TBM, TBM0, TPart, TNoPart, TSl, TNeg, GName, GNil, GCons, GTup, IList, ITup, IRng1, IRng2, IStr, TLstF, TCall, TYes, TNext, TPur, GPur, TRetP, unown_nil, unown_cons, un1, wipeD, List.getElem?_cons_zero, List.getElem?_cons_succ, List.set_cons_zero, List.set_cons_succ, List.set_nil, isD, beq_self_eq_true, lenO, lenD, List.length_map]
        refine ⟨p, T.length, rfl, hp, by omega, by omega, fun x x0 x1 => ?_⟩
        refine ix_lst x0 (by rw [List.length_map]; exact x1) fun d hd => ?_
        obtain ⟨t, ht, rfl⟩ := List.mem_map.mp hd
        obtain ⟨t1, t2, _⟩ := hTm t ht
        refine ⟨n, rows, t, rfl, g, t1, t2, by omega, k _ _ ⟨rfl, ls ++ [resZ rows t], .val (.int z), by rw [List.length_append]; omega, by rw [List.length_append, List.length_singleton]; omega, ?_, by rw [List.map_append]; rfl⟩⟩
        intro y hy
        rcases List.mem_append.mp hy with hy | hy
        · exact l3 y hy
        · rw [List.mem_singleton.mp hy]; exact res_len rows t
  · rintro ρ M' ⟨hM, ls, a, l1, l2, l3, hρ⟩
    subst hM hρ
    simp only [TSeq, IZip, TRet, TRetN, DL.TSet, TDrop, TIf, TPar, TAsg, TFor, TFrz, frz, TSetOwn, TApp, TExt, TVar, TC, TBin, TTst, TChain, TAnd, TOr, TNot, TAndV, TOrV, TNotV, TIfE, TNil, TCons, TTup, TLst, TCB, TBM, TBM0, TPart, TNoPart, TSl, TNeg, GName, GNil, GCons, GTup, IList, ITup, IRng1, IRng2, IStr, TLstF, TCall, TYes, TNext, TPur, GPur, TRetP, unown_nil, unown_cons, un1, wipeD, List.getElem?_cons_zero, List.getElem?_cons_succ, List.set_cons_zero, List.set_cons_succ, List.set_nil, isD, beq_self_eq_true, lenO, lenD, lstS, List.length_map, addO]
    have hne : ls.map D.str ≠ [] := fun e => by rw [List.map_eq_nil_iff.mp e] at l1; cases l1
    refine ix_last hne fun d hd => ?_
    obtain ⟨y, hy, rfl⟩ := List.mem_map.mp hd
    have hyl := l3 y hy
    refine ⟨p, rows.length + 1, rfl, hp, by omega, by omega, fun x x0 x1 => ?_⟩
    have c0 := fun lo hi => cutZ_len y lo hi
    have s1 : (Str.ofString "0").length = 1 := by decide +kernel
    have s2 : (Str.ofString "2").length = 1 := by decide +kernel
    simp only [TSeq, IZip, TRet, TRetN, DL.TSet, TDrop, TIf, TPar, TAsg, TFor, TFrz, frz, TSetOwn, TApp, TExt, TVar, TC, TBin, TTst, TChain, TAnd, TOr, TNot, TAndV, TOrV, TNotV, TIfE, TNil, TCons, TTup, TLst, TCB, TBM, TBM0, TPart, TNoPart, TSl, TNeg, GName, GNil, GCons, GTup, IList, ITup, IRng1, IRng2, IStr, TLstF, TCall, TYes, TNext, TPur, GPur, TRetP, unown_nil, unown_cons, un1, wipeD, List.getElem?_cons_zero, List.getElem?_cons_succ, List.set_cons_zero, List.set_cons_succ, List.set_nil, isD, beq_self_eq_true, slO, addO]
    have d1 := c0 none (some x)
    have d2 := c0 (some x) none
    have d3 := c0 (some (x + 1)) none
    refine ⟨by omega, by rw [len_app]; omega, by omega, by omega, by rw [len_app]; omega, by simp, by simp; omega, ?_⟩
    have q2 := q (ls ++ [cutZ y none (some x) ++ Str.ofString "0" ++ cutZ y (some x) none, cutZ y none (some x) ++ cutZ y (some (x + 1)) none, cutZ y none (some x) ++ Str.ofString "2" ++ cutZ y (some (x + 1)) none]) (by rw [List.length_append]; show 2 ≤ _ + 3; omega) (by rw [List.length_append]; show _ + 3 ≤ 7; omega) (fun z hz => by
      rcases List.mem_append.mp hz with hz | hz
      · have := l3 z hz; omega
      · simp only [List.mem_cons, List.not_mem_nil, or_false] at hz
        rcases hz with rfl | rfl | rfl
        · rw [len_app, len_app]; omega
        · rw [len_app]; omega
        · rw [len_app, len_app]; omega)
    rw [lstS, List.map_append] at q2
    exact q2
def El (k : Nat) (xs : List D) : Prop := xs.length ≤ k ∧ ∀ d ∈ xs, ElOk d
theorem el_app {k m : Nat} {a b : List D} (h1 : El k a) (h2 : El m b) : El (k + m) (a ++ b) := ⟨by rw [List.length_append]; have := h1.1; have := h2.1; omega, fun d hd => by
  rcases List.mem_append.mp hd with h | h
  · exact h1.2 d h
  · exact h2.2 d h⟩
theorem el_one {d : D} (h : ElOk d) : El 1 [d] := ⟨Nat.le_refl _, fun e he => by rw [List.mem_singleton.mp he]; exact h⟩
theorem el_cut {k : Nat} {a : List D} (h : El k a) (lo hi : Option Int) : El k (cutD a lo hi) := ⟨Nat.le_trans (cutD_len _ _ _) h.1, fun d hd => h.2 d (cutD_mem hd)⟩
theorem el_rev {k : Nat} {a : List D} (h : El k a) : El k a.reverse := ⟨by rw [List.length_reverse]; exact h.1, fun d hd => h.2 d (List.mem_reverse.mp hd)⟩
theorem el_told {k : Nat} {a : List D} (h : El k a) (hk : k ≤ 65536) : ToldOk (.tup a) := told_tup (Nat.le_trans h.1 hk) h.2
theorem el_tris (T : List Tri) : El T.length (T.map triD) := ⟨by rw [List.length_map]; exact Nat.le_refl _, fun d hd => by
  obtain ⟨t, _, rfl⟩ := List.mem_map.mp hd
  exact el_tri t⟩
theorem told_lst (xs : List D) : ToldOk (.lst xs) := ⟨rfl, fun ys e => by cases e⟩
theorem told_non : ToldOk .non := ⟨rfl, fun ys e => by cases e⟩
theorem told_nil : ToldOk (.tup []) := told_tup (by decide) fun d hd => by cases hd
theorem el_toldtup {xs : List D} (h : isPys xs = true) (hd : deps xs ≤ 7) (hk : ∀ d ∈ xs, kok d = true) : ElOk (.tup xs) := ⟨kok2_tup hk, h, by show deps xs + 1 ≤ 8; omega⟩
def sp_law_near : SpD := fun ds M Q => ∃ (p : Addr) (T F : List Tri), ds = [.ref p, .tup (T.map triD), .lst (F.map triD)] ∧ M p = some .purse ∧ T.length ≤ 16384 ∧ F.length ≤ 16384 ∧ (∀ t ∈ T, t.2.length ≤ 2) ∧ ∀ xs : List D, (xs.length ≤ 40 ∧ ∀ d ∈ xs, ToldOk d) → Q (.lst xs) M
def T__law_near : TSd := TSeq (TSetOwn 3 (TLstF (TCons (TCB lstO (TCons (TVar 1) (TNil))) (TCons (TBin addO (TVar 1) (TTup (TCons (TC .non) (TNil)))) (TCons (TBin addO (TVar 1) (TTup (TCons (TTup (TNil)) (TNil)))) (TCons (TC .non) (TCons (TTup (TNil)) (TCons (TRevA (TVar 1)) (TCons (TTup (TCons (TVar 1) (TNil))) (TCons (TBin addO (TVar 1) (TVar 1)) (TNil)))))))))))
  (TSeq (TIf (TTst (TBin eqOp (TVar 2) (TLst (TNil)))) (TFrz 3 (TRet (TVar 3))) (TNext))
  (TSeq (TSet 4 (TBin ixO (TVar 2) (TCall sp_law_take (TCons (TVar 0) (TCons (TCB lenO (TCons (TVar 2) (TNil))) (TNil))))))
  (TFrz 3 (TSeq (TSetOwn 3 (TCatF (TVar 3) (TLst (TCons (TBin addO (TVar 1) (TTup (TCons (TVar 4) (TNil)))) (TCons (TBin addO (TTup (TCons (TVar 4) (TNil))) (TVar 1)) (TCons (TCB tupO (TCons (TCB sortedO (TCons (TBin addO (TVar 1) (TTup (TCons (TVar 4) (TNil)))) (TNil))) (TNil))) (TNil)))))))
  (TSeq (TIf (TTst (TBin eqOp (TVar 1) (TTup (TNil)))) (TFrz 3 (TRet (TVar 3))) (TNext))
  (TSeq (TSet 5 (TCall sp_law_take (TCons (TVar 0) (TCons (TCB lenO (TCons (TVar 1) (TNil))) (TNil)))))
  (TSeq (TAsg (TBin ixO (TVar 1) (TVar 5)) (GTup 3 (GCons (GName 8) (GCons (GName 9) (GCons (GName 10) (GNil))))))
  (TSeq (TSet 6 (TLst (TCons (TVar 4) (TCons (TTup (TCons (TBin eqOp (TVar 8) (TC (.int 1))) (TCons (TVar 9) (TCons (TVar 10) (TNil))))) (TCons (TTup (TCons (TVar 8) (TCons (TBin eqOp (TVar 9) (TC (.int 1))) (TCons (TVar 10) (TNil))))) (TCons (TTup (TCons (TVar 9) (TCons (TVar 8) (TCons (TRevA (TVar 10)) (TNil))))) (TCons (TTup (TCons (TVar 8) (TCons (TVar 9) (TNil)))) (TCons (TLst (TCons (TVar 8) (TCons (TVar 9) (TCons (TVar 10) (TNil))))) (TCons (TTup (TCons (TVar 8) (TCons (TVar 9) (TCons (TBin addO (TVar 10) (TC (.str "0"))) (TNil))))) (TNil))))))))))
  (TSeq (TFor (IList (TBin addO (TVar 6) (TLst (TCons (TTup (TCons (TVar 8) (TCons (TVar 9) (TCons (TC .non) (TNil))))) (TCons (TTup (TCons (TBin subO (TVar 8) (TC (.int 64))) (TCons (TVar 9) (TCons (TVar 10) (TNil))))) (TCons (TC .non) (TCons (TTup (TCons (TVar 8) (TCons (TVar 9) (TCons (TVar 10) (TCons (TVar 10) (TNil)))))) (TCons (TVar 10) (TNil))))))))) (GName 7) (TApp 3 (TBin addO (TBin addO (TSl slO (TVar 1) (TNoPart) (TPart (TVar 5))) (TTup (TCons (TVar 7) (TNil)))) (TSl slO (TVar 1) (TPart (TBin addO (TVar 5) (TC (.int 1)))) (TNoPart)))))
  (TFrz 3 (TRet (TBin addO (TVar 3) (TLst (TCons (TBin addO (TSl slO (TVar 1) (TNoPart) (TPart (TVar 5))) (TSl slO (TVar 1) (TPart (TBin addO (TVar 5) (TC (.int 1)))) (TNoPart))) (TCons (TBin addO (TBin addO (TSl slO (TVar 1) (TNoPart) (TPart (TVar 5))) (TRevA (TSl slO (TVar 1) (TPart (TVar 5)) (TPart (TBin addO (TVar 5) (TC (.int 2))))))) (TSl slO (TVar 1) (TPart (TBin addO (TVar 5) (TC (.int 2)))) (TNoPart))) (TNil))))))))))))))))
theorem len__law_near : ∀ ds M Q, sp_law_near ds M Q → ds.length = 3 := fun _ _ _ ⟨_, _, _, e, _⟩ => by rw [e]; rfl
theorem body__law_near : ∀ (ds : List D) (M : Mem) (Q : D → Mem → Prop), sp_law_near ds M Q → T__law_near ⟨fun _ M' => Q .non M', Q, fun _ _ => False, fun _ _ => False⟩ (startD ["_law_purse_here", "_law_told", "_law_faults_here", "_law_found", "_law_fault", "_law_at", "_law_near_here", "_law_value", "_law_i", "_law_j", "_law_sign"] ds) M := by
  rintro _ M Q ⟨p, T, F, rfl, hp, hT, hF, hw, q⟩
  show T__law_near _ [.val (.ref p), .val (.tup (T.map triD)), .val (.lst (F.map triD)), .no, .no, .no, .no, .no, .no, .no, .no] M
  have eT := el_tris T
  unfold T__law_near
  refine cut2 (fun ρ M' => M' = M ∧ ∃ (fs : List D), fs.length = 8 ∧ (∀ d ∈ fs, ToldOk d) ∧ F ≠ [] ∧ ρ = [.val (.ref p), .val (.tup (T.map triD)), .val (.lst (F.map triD)), .own fs, .no, .no, .no, .no, .no, .no, .no]) (fun nx knx => ?_) ?_
  · simp only [TSeq, IZip, TRet, TRetN, DL.TSet, TDrop, TIf, TPar, TAsg, TFor, TFrz, frz, TSetOwn, TApp, TExt, TVar, TC, TBin, TTst, TChain, TAnd, TOr, TNot, TAndV, TOrV, TNotV, TIfE, TNil, TCons, TTup, TLst, TCB, TBM, TBM0, TPart, TNoPart, TSl, TNeg, GName, GNil, GCons, GTup, IList, ITup, IRng1, IRng2, IStr, TLstF, TCall, TYes, TNext, TPur, GPur, TRetP, unown_nil, unown_cons, un1, wipeD, List.getElem?_cons_zero, List.getElem?_cons_succ, List.set_cons_zero, List.set_cons_succ, List.set_nil, isD, beq_self_eq_true, lstO, addO, TRevA, List.length_map, List.length_nil, List.length_cons]
    rw [eq_lnil (isPys_tris F) (deps_tris8 F)]
    refine ⟨by decide, by omega, by decide, by decide, by omega, by decide, by decide, by omega, by decide, by decide, ?_⟩
    have fs : ∀ d ∈ ([.lst (T.map triD), .tup (T.map triD ++ [.non]), .tup (T.map triD ++ [.tup []]), .non, .tup [], .tup (T.map triD).reverse, .tup [.tup (T.map triD)], .tup (T.map triD ++ T.map triD)] : List D), ToldOk d := by
      intro d hd
      simp only [List.mem_cons, List.not_mem_nil, or_false] at hd
      rcases hd with rfl | rfl | rfl | rfl | rfl | rfl | rfl | rfl
      · exact told_lst _
      · exact el_told (el_app eT (el_one ⟨rfl, rfl, Nat.zero_le _⟩)) (by omega)
      · exact el_told (el_app eT (el_one ⟨rfl, rfl, by decide⟩)) (by omega)
      · exact told_non
      · exact told_nil
      · exact el_told (el_rev eT) (by omega)
      · exact el_told (el_one (el_toldtup (isPys_tris T) (Nat.le_trans (deps_tris T) (by decide)) fun d hd => kok_of (eT.2 d hd).1)) (by omega)
      · exact el_told (el_app eT eT) (by omega)
    by_cases hF0 : F = []
    · have hF2 : F.map triD = [] := by rw [hF0]; rfl
      simp only [hF2, decide_true]
      exact q _ ⟨by simp, fs⟩
    · have hF2 : ¬ F.map triD = [] := fun e => hF0 (List.map_eq_nil_iff.mp e)
      simp only [hF2, decide_false]
      exact knx _ _ ⟨rfl, _, rfl, fs, hF0, rfl⟩
  · rintro ρ M' ⟨hM, fs, hfl, hfs, hF0, hρ⟩
    subst hM hρ
    have hFp : 0 < F.length := List.length_pos_iff.mpr hF0
    refine cut1 (fun ρ M2 => M2 = M' ∧ ∃ t ∈ F, ρ = [.val (.ref p), .val (.tup (T.map triD)), .val (.lst (F.map triD)), .own fs, .val (triD t), .no, .no, .no, .no, .no, .no]) (fun nx knx => ?_) ?_
    · simp only [TSeq, IZip, TRet, TRetN, DL.TSet, TDrop, TIf, TPar, TAsg, TFor, TFrz, frz, TSetOwn, TApp, TExt, TVar, TC, TBin, TTst, TChain, TAnd, TOr, TNot, TAndV, TOrV, TNotV, TIfE, TNil, TCons, TTup, TLst, TCB, TBM, TBM0, TPart, TNoPart, TSl, TNeg, GName, GNil, GCons, GTup, IList, ITup, IRng1, IRng2, IStr, TLstF, TCall, TYes, TNext, TPur, GPur, TRetP, unown_nil, unown_cons, un1, wipeD, List.getElem?_cons_zero, List.getElem?_cons_succ, List.set_cons_zero, List.set_cons_succ, List.set_nil, isD, beq_self_eq_true, lenO, lenD, List.length_map]
      refine ⟨p, F.length, rfl, hp, by omega, by omega, fun x x0 x1 => ?_⟩
      refine ix_lst x0 (by rw [List.length_map]; exact x1) fun d hd => ?_
      obtain ⟨t, ht, rfl⟩ := List.mem_map.mp hd
      exact knx _ _ ⟨rfl, t, ht, rfl⟩
    · rintro ρ M2 ⟨hM, t, ht, hρ⟩
      subst hM hρ
      change TSeq _ (TSeq _ _) _ [.val (.ref p), .val (.tup (T.map triD)), .val (.lst (F.map triD)), .val (.lst fs), .val (triD t), .no, .no, .no, .no, .no, .no] _
      have e1 := el_app eT (el_one (el_tri t))
      refine cut2 (fun ρ M3 => M3 = M2 ∧ ∃ fs : List D, fs.length = 11 ∧ (∀ d ∈ fs, ToldOk d) ∧ T ≠ [] ∧ ρ = [.val (.ref p), .val (.tup (T.map triD)), .val (.lst (F.map triD)), .own fs, .val (triD t), .no, .no, .no, .no, .no, .no]) (fun nx knx => ?_) ?_
      · simp only [TSeq, IZip, TRet, TRetN, DL.TSet, TDrop, TIf, TPar, TAsg, TFor, TFrz, frz, TSetOwn, TApp, TExt, TVar, TC, TBin, TTst, TChain, TAnd, TOr, TNot, TAndV, TOrV, TNotV, TIfE, TNil, TCons, TTup, TLst, TCB, TBM, TBM0, TPart, TNoPart, TSl, TNeg, GName, GNil, GCons, GTup, IList, ITup, IRng1, IRng2, IStr, TLstF, TCall, TYes, TNext, TPur, GPur, TRetP, unown_nil, unown_cons, un1, wipeD, List.getElem?_cons_zero, List.getElem?_cons_succ, List.set_cons_zero, List.set_cons_succ, List.set_nil, isD, beq_self_eq_true, TCatF, addO, tupO, sortedO, seqD, List.length_cons, List.length_nil, List.length_map]
        refine ⟨by decide, by omega, by decide, by omega, by decide, by omega, .inr ?_, fun ys hys => ?_⟩
        · intro d hd
          rcases List.mem_append.mp hd with hd | hd
          · obtain ⟨x, _, rfl⟩ := List.mem_map.mp hd
            rfl
          · rw [List.mem_singleton.mp hd]; rfl
        · have hf2 : ∀ d ∈ fs ++ [.tup (T.map triD ++ [triD t]), .tup (triD t :: T.map triD), .tup ys], ToldOk d := by
            intro d hd
            rcases List.mem_append.mp hd with hd | hd
            · exact hfs d hd
            · simp only [List.mem_cons, List.not_mem_nil, or_false] at hd
              rcases hd with rfl | rfl | rfl
              · exact el_told e1 (by omega)
              · exact el_told (el_app (el_one (el_tri t)) eT) (by omega)
              · exact el_told (k := T.length + 1) ⟨by rw [hys.length_eq]; exact e1.1, fun d hd => e1.2 d (hys.mem_iff.mp hd)⟩ (by omega)
          refine ⟨by decide, by omega, by decide, ?_⟩
          rw [eq_tnil8 (isPys_tris T) (deps_tris8 T)]
          by_cases hT0 : T = []
          · have hT2 : T.map triD = [] := by rw [hT0]; rfl
            simp only [hT2, decide_true]
            rw [hT2] at hf2
            exact q _ ⟨by rw [List.length_append]; show _ + 3 ≤ 40; omega, hf2⟩
          · have hT2 : ¬ T.map triD = [] := fun e => hT0 (List.map_eq_nil_iff.mp e)
            simp only [hT2, decide_false]
            exact knx _ _ ⟨rfl, _, by rw [List.length_append, hfl]; rfl, hf2, hT0, rfl⟩
      · rintro ρ M3 ⟨hM, fs, hfl, hfs, hT0, hρ⟩
        subst hM hρ
        have hTp : 0 < T.length := List.length_pos_iff.mpr hT0
        refine cut3 (fun ρ M4 => M4 = M3 ∧ ∃ (x i j : Int) (s : Str) (vs : List D), s.length ≤ 2 ∧ El 7 vs ∧ ρ = [.val (.ref p), .val (.tup (T.map triD)), .val (.lst (F.map triD)), .own fs, .val (triD t), .val (.int x), .val (.lst vs), .no, .val (.int i), .val (.int j), .val (.str s)]) (fun nx knx => ?_) ?_
        · simp only [TSeq, IZip, TRet, TRetN, DL.TSet, TDrop, TIf, TPar, TAsg, TFor, TFrz, frz, TSetOwn, TApp, TExt, TVar, TC, TBin, TTst, TChain, TAnd, TOr, TNot, TAndV, TOrV, TNotV, TIfE, TNil, TCons, TTup, TLst, TCB, TBM, TBM0, TPart, TNoPart, TSl, TNeg, GName, GNil, GCons, GTup, IList, ITup, IRng1, IRng2, IStr, TLstF, TCall, TYes, TNext, TPur, GPur, TRetP, unown_nil, unown_cons, un1, wipeD, List.getElem?_cons_zero, List.getElem?_cons_succ, List.set_cons_zero, List.set_cons_succ, List.set_nil, isD, beq_self_eq_true, lenO, lenD, List.length_map]
          refine ⟨p, T.length, rfl, hp, by omega, by omega, fun x x0 x1 => ?_⟩
          refine ix_tup x0 (by rw [List.length_map]; exact x1) fun d hd => ?_
          obtain ⟨u, hu, rfl⟩ := List.mem_map.mp hd
          have hul := hw u hu
          have s0 : (Str.ofString "0").length = 1 := by decide +kernel
          simp only [triD, lackD, TSeq, IZip, TRet, TRetN, DL.TSet, TDrop, TIf, TPar, TAsg, TFor, TFrz, frz, TSetOwn, TApp, TExt, TVar, TC, TBin, TTst, TChain, TAnd, TOr, TNot, TAndV, TOrV, TNotV, TIfE, TNil, TCons, TTup, TLst, TCB, TBM, TBM0, TPart, TNoPart, TSl, TNeg, GName, GNil, GCons, GTup, IList, ITup, IRng1, IRng2, IStr, TLstF, TCall, TYes, TNext, TPur, GPur, TRetP, unown_nil, unown_cons, un1, wipeD, List.getElem?_cons_zero, List.getElem?_cons_succ, List.set_cons_zero, List.set_cons_succ, List.set_nil, isD, beq_self_eq_true, eq_ii, TRevA, addO, List.length_cons, List.length_nil]
          refine ⟨trivial, by decide, by decide, by decide, by decide, by decide, by omega, by decide, by decide, ?_⟩
          refine knx _ _ ⟨rfl, x, _, _, _, _, hul, ⟨by simp, fun d hd => ?_⟩, rfl⟩
          simp only [List.mem_cons, List.not_mem_nil, or_false] at hd
          rcases hd with rfl | rfl | rfl | rfl | rfl | rfl | rfl <;> exact ⟨rfl, rfl, by show (1 : Nat) ≤ 8; decide⟩
        · rintro ρ M4 ⟨hM, x, i, j, s, vs, hs, hvs, hρ⟩
          subst hM hρ
          have e3 : El 5 ([.tup [.int i, .int j, .non], .tup [.int (i - 64), .int j, .str s], .non, .tup [.int i, .int j, .str s, .str s], .str s] : List D) := ⟨by simp, fun d hd => by
            simp only [List.mem_cons, List.not_mem_nil, or_false] at hd
            rcases hd with rfl | rfl | rfl | rfl | rfl <;> exact ⟨rfl, rfl, by first | (show (1 : Nat) ≤ 8; decide) | (show (0 : Nat) ≤ 8; decide)⟩⟩
          have e2 := el_app hvs e3
          have hvl := hvs.1
          simp only [TSeq, IZip, TRet, TRetN, DL.TSet, TDrop, TIf, TPar, TAsg, TFor, TFrz, frz, TSetOwn, TApp, TExt, TVar, TC, TBin, TTst, TChain, TAnd, TOr, TNot, TAndV, TOrV, TNotV, TIfE, TNil, TCons, TTup, TLst, TCB, TBM, TBM0, TPart, TNoPart, TSl, TNeg, GName, GNil, GCons, GTup, IList, ITup, IRng1, IRng2, IStr, TLstF, TCall, TYes, TNext, TPur, GPur, TRetP, unown_nil, unown_cons, un1, wipeD, List.getElem?_cons_zero, List.getElem?_cons_succ, List.set_cons_zero, List.set_cons_succ, List.set_nil, isD, beq_self_eq_true, addO, subO, i20, List.length_cons, List.length_nil]
          refine ⟨by decide, by decide, by decide, by decide, by omega, ?_⟩
          refine forD_invi _ (fun r ρ M' => M' = M4 ∧ ∃ (fs : List D) (a : Sl), fs.length + r.length ≤ 30 ∧ (∀ d ∈ fs, ToldOk d) ∧ ρ = [.val (.ref p), .val (.tup (T.map triD)), .val (.lst (F.map triD)), .own fs, .val (triD t), .val (.int x), .val (.lst vs), a, .val (.int i), .val (.int j), .val (.str s)]) _ _ (fun d r ρ M' Kn hd ⟨hM, fs, a, l1, l2, hρ⟩ k => ?step) ⟨rfl, fs, .no, by rw [hfl]; have := e2.1; omega, hfs, rfl⟩ (fun ρ M' ⟨hM, fs, a, l1, l2, hρ⟩ => ?fin)
          case step =>
            subst hM hρ
            have ed : ElOk d := e2.2 d (by obtain ⟨pre, e⟩ := hd; rw [e]; simp)
            have a1 := el_cut eT none (some x)
            have a2 := el_cut eT (some (x + 1)) none
            simp only [List.length_cons] at l1
            have a3 := el_app (el_app a1 (el_one ed)) a2
            simp only [TSeq, IZip, TRet, TRetN, DL.TSet, TDrop, TIf, TPar, TAsg, TFor, TFrz, frz, TSetOwn, TApp, TExt, TVar, TC, TBin, TTst, TChain, TAnd, TOr, TNot, TAndV, TOrV, TNotV, TIfE, TNil, TCons, TTup, TLst, TCB, TBM, TBM0, TPart, TNoPart, TSl, TNeg, GName, GNil, GCons, GTup, IList, ITup, IRng1, IRng2, IStr, TLstF, TCall, TYes, TNext, TPur, GPur, TRetP, unown_nil, unown_cons, un1, wipeD, List.getElem?_cons_zero, List.getElem?_cons_succ, List.set_cons_zero, List.set_cons_succ, List.set_nil, isD, beq_self_eq_true, slO, addO, List.length_cons, List.length_nil, List.length_append]
            have b1 := a1.1
            have b2 := a2.1
            refine ⟨by decide, by omega, by omega, by omega, k _ _ ⟨rfl, fs ++ [.tup (cutD (T.map triD) none (some x) ++ [d] ++ cutD (T.map triD) (some (x + 1)) none)], .val d, by rw [List.length_append, List.length_singleton]; omega, ?_, rfl⟩⟩
            intro y hy
            rcases List.mem_append.mp hy with hy | hy
            · exact l2 y hy
            · rw [List.mem_singleton.mp hy]
              exact el_told a3 (by omega)
          case fin =>
            subst hM hρ
            simp only [List.length_nil] at l1
            have a1 := el_cut eT none (some x)
            have a2 := el_cut eT (some (x + 1)) none
            have a3 := el_cut eT (some x) (some (x + 2))
            have a4 := el_cut eT (some (x + 2)) none
            have b1 := a1.1
            have b2 := a2.1
            have b3 := a3.1
            have b4 := a4.1
            simp only [TSeq, IZip, TRet, TRetN, DL.TSet, TDrop, TIf, TPar, TAsg, TFor, TFrz, frz, TSetOwn, TApp, TExt, TVar, TC, TBin, TTst, TChain, TAnd, TOr, TNot, TAndV, TOrV, TNotV, TIfE, TNil, TCons, TTup, TLst, TCB, TBM, TBM0, TPart, TNoPart, TSl, TNeg, GName, GNil, GCons, GTup, IList, ITup, IRng1, IRng2, IStr, TLstF, TCall, TYes, TNext, TPur, GPur, TRetP, unown_nil, unown_cons, un1, wipeD, List.getElem?_cons_zero, List.getElem?_cons_succ, List.set_cons_zero, List.set_cons_succ, List.set_nil, isD, beq_self_eq_true, slO, addO, TRevA, List.length_cons, List.length_nil, List.length_append, List.length_reverse]
            refine ⟨by omega, by omega, by omega, by decide, by omega, ?_⟩
            refine q _ ⟨by rw [List.length_append]; show _ + 2 ≤ 40; omega, fun d hd => ?_⟩
            rcases List.mem_append.mp hd with hd | hd
            · exact l2 d hd
            · simp only [List.mem_cons, List.not_mem_nil, or_false] at hd
              rcases hd with rfl | rfl
              · exact el_told (el_app a1 a2) (by omega)
              · exact el_told (el_app (el_app a1 (el_rev a3)) a4) (by omega)
end DL

namespace DL
open PySem PySem.Spec PyProof.Rows L2 TL
/-! ## faults judged: the law -/
theorem line_of {L : D} (h : kok L = true) (h2 : isPy L = true) (h3 : dep L ≤ 8) : LineOk L := ⟨h, h2, h3⟩
theorem line_str (z : Str) : LineOk (.str z) := ⟨rfl, rfl, Nat.zero_le _⟩
def toldD (n : Nat) (rows : List Str) (L : D) : D := .tup (((wantT n WAYSZ).filter fun t => strIs (resZ rows t) L).map triD)
theorem told_ok {n : Nat} {rows : List Str} {L : D} (h : n ≤ 64) : ToldOk (toldD n rows L) := by
  have := want4_len h
  have h2 := List.length_filter_le (fun t => strIs (resZ rows t) L) (wantT n WAYSZ)
  exact el_told (el_tris _) (by omega)
theorem headF {n : Nat} {rows : List Str} (gr : GoodR n rows) (L v : D) : HeadF n rows L v (.tup [.str "faults", .str (planZ n rows), L, v]) := ⟨_, rfl, by have := planZ_len gr.p; omega, plan_read gr⟩
def sp_law_right : SpD := fun ds M Q => ∃ p, ds = [.ref p] ∧ M p = some .purse ∧ Q (.bl true) M
def T__law_right : TSd := TSeq (TAsg (TCall sp_law_some_plan (TCons (TVar 0) (TNil))) (GTup 2 (GCons (GName 8) (GCons (GName 9) (GNil)))))
  (TSeq (TPar 10 11 (TCons (TCall sp_law_faults (TCons (TVar 8) (TNil))) (TCons (TCall sp_law_plan_line (TCons (TVar 8) (TCons (TVar 9) (TNil)))) (TNil))))
  (TSeq (TSet 1 (TLc (IList (TVar 10)) (GName 12) (TYes) (TTup (TCons (TVar 12) (TCons (TCall sp_law_results (TCons (TVar 9) (TCons (TVar 12) (TNil)))) (TNil)))) [12]))
  (TSeq (TSet 2 (TCall sp_law_lines (TCons (TVar 0) (TCons (TVar 9) (TCons (TVar 10) (TNil))))))
  (TSeq (TFor (IList (TBin addO (TIfE (TTst (TBin leO (TVar 8) (TC (.int 8)))) (TVar 2) (TSl slO (TVar 2) (TNoPart) (TPart (TC (.int 2))))) (TLst (TCons (TC .non) (TCons (TC (.int 0)) (TCons (TC (.bl true)) (TCons (TTup (TNil)) (TCons (TBin mulAllO (TLst (TCons (TC (.str "0")) (TNil))) (TCB lenO (TCons (TVar 9) (TNil)))) (TNil))))))))) (GName 3) (TSeq (TSet 4 (TCB tupO (TCons (TLc (IList (TVar 1)) (GTup 2 (GCons (GName 12) (GCons (GName 13) (GNil)))) (TTst (TBin eqOp (TVar 13) (TVar 3))) (TVar 12) [12, 13]) (TNil))))
  (TIf (TNot (TTst (TCall sp_law_judged (TCons (TTup (TCons (TC (.str "faults")) (TCons (TVar 11) (TCons (TVar 3) (TCons (TVar 4) (TNil)))))) (TCons (TC .non) (TCons (TCall sp_law_is_right (TCons (TVar 9) (TCons (TVar 1) (TCons (TVar 3) (TCons (TVar 4) (TNil)))))) (TNil))))))) (TRet (TC (.bl false))) (TNext))))
  (TSeq (TSet 3 (TIfE (TTst (TBin neOp (TVar 10) (TLst (TNil)))) (TBin ixO (TVar 2) (TC (.int 1))) (TBin ixO (TVar 2) (TC (.int 0)))))
  (TSeq (TSet 4 (TCB tupO (TCons (TLc (IList (TVar 1)) (GTup 2 (GCons (GName 12) (GCons (GName 13) (GNil)))) (TTst (TBin eqOp (TVar 13) (TVar 3))) (TVar 12) [12, 13]) (TNil))))
  (TSeq (TSet 5 (TCall sp_law_near (TCons (TVar 0) (TCons (TVar 4) (TCons (TVar 10) (TNil))))))
  (TSeq (TFor (IList (TIfE (TTst (TBin leO (TVar 8) (TC (.int 8)))) (TVar 5) (TSl slO (TVar 5) (TPart (TNeg (TC (.int 4)))) (TNoPart)))) (GName 6) (TIf (TNot (TTst (TCall sp_law_judged (TCons (TTup (TCons (TC (.str "faults")) (TCons (TVar 11) (TCons (TVar 3) (TCons (TVar 6) (TNil)))))) (TCons (TC .non) (TCons (TCall sp_law_is_right (TCons (TVar 9) (TCons (TVar 1) (TCons (TVar 3) (TCons (TVar 6) (TNil)))))) (TNil))))))) (TRet (TC (.bl false))) (TNext)))
  (TSeq (TFor (IList (TLst (TCons (TTup (TNil)) (TCons (TC (.int 0)) (TCons (TC (.bl false)) (TCons (TC (.bl true)) (TCons (TC (.str "")) (TCons (TVar 3) (TCons (TVar 4) (TCons (TLst (TCons (TC .non) (TNil))) (TCons (TC (.str "None")) (TNil)))))))))))) (GName 7) (TIf (TNot (TTst (TCall sp_law_judged (TCons (TTup (TCons (TC (.str "faults")) (TCons (TVar 11) (TCons (TVar 3) (TCons (TVar 4) (TNil)))))) (TCons (TVar 7) (TCons (TC (.bl false)) (TNil))))))) (TRet (TC (.bl false))) (TNext)))
  (TRet (TC (.bl true))))))))))))
theorem len__law_right : ∀ ds M Q, sp_law_right ds M Q → ds.length = 1 := fun _ _ _ ⟨_, e, _⟩ => by rw [e]; rfl
theorem told_lc {n : Nat} {rows : List Str} {L : D} {ρ : List Sl} {M : Mem} {Q : List D → Mem → Prop} (hn : n ≤ 64) (hL : LineOk L) (hl : ∀ a b, ((ρ.set 12 a).set 13 b)[3]? = some (.val L)) (h12 : ρ.length = 14)
    (q : Q (((wantT n WAYSZ).filter fun t => strIs (resZ rows t) L).map triD) M) :
    lcD (GTup 2 (GCons (GName 12) (GCons (GName 13) (GNil)))) (TTst (TBin eqOp (TVar 13) (TVar 3))) (TVar 12) ((wantT n WAYSZ).map fun t => .tup [triD t, .str (resZ rows t)]) ρ M Q := by
  refine lcD_f (fun t : Tri => .tup [triD t, .str (resZ rows t)]) (fun t => strIs (resZ rows t) L) triD _ _ (fun t ht K1 K2 k1 k2 => ?_) q
  simp only [TSeq, IZip, TRet, TRetN, DL.TSet, TDrop, TIf, TPar, TAsg, TFor, TFrz, frz, TSetOwn, TApp, TExt, TVar, TC, TBin, TTst, TChain, TAnd, TOr, TNot, TAndV, TOrV, TNotV, TIfE, TNil, TCons, TTup, TLst, TCB, TBM, TBM0, TPart, TNoPart, TSl, TNeg, GName, GNil, GCons, GTup, IList, ITup, IRng1, IRng2, IStr, TLstF, TCall, TYes, TNext, TPur, GPur, TRetP, unown_nil, unown_cons, un1, wipeD, List.getElem?_cons_zero, List.getElem?_cons_succ, List.set_cons_zero, List.set_cons_succ, List.set_nil, isD, beq_self_eq_true]
  refine ⟨rfl, ?_⟩
  rw [hl, List.getElem?_set_self (by simp; omega)]
  refine eq_sL hL.2.1 (by have := hL.2.2; omega) ?_
  rw [List.getElem?_set_ne (by decide), List.getElem?_set_self (by omega)]
  cases h : strIs (resZ rows t) L with
  | true => exact k1 h
  | false => exact k2 h
theorem body__law_right : ∀ (ds : List D) (M : Mem) (Q : D → Mem → Prop), sp_law_right ds M Q → T__law_right ⟨fun _ M' => Q .non M', Q, fun _ _ => False, fun _ _ => False⟩ (startD ["_law_purse_here", "_law_table", "_law_lines_here", "_law_line", "_law_told", "_law_near_here", "_law_other", "_law_value", "_law_many", "_law_rows", "_law_faults_here", "_law_text", "_law_fault", "_law_made"] ds) M := by
  rintro _ M Q ⟨p, rfl, hp, q⟩
  show T__law_right _ [.val (.ref p), .no, .no, .no, .no, .no, .no, .no, .no, .no, .no, .no, .no, .no] M
  unfold T__law_right
  refine cut4 (fun ρ M' => M' = M ∧ ∃ (n : Nat) (rows ls : List Str), GoodR n rows ∧ 2 ≤ ls.length ∧ ls.length ≤ 7 ∧ (∀ z ∈ ls, z.length ≤ 140) ∧ ρ = [.val (.ref p), .val (tableD n rows), .val (lstS ls), .no, .no, .no, .no, .no, .val (.int (n : Int)), .val (lstS rows), .val (.lst ((wantT n WAYSZ).map triD)), .val (.str (planZ n rows)), .no, .no]) (fun nx knx => ?_) ?_
  · simp only [TSeq, IZip, TRet, TRetN, DL.TSet, TDrop, TIf, TPar, TAsg, TFor, TFrz, frz, TSetOwn, TApp, TExt, TVar, TC, TBin, TTst, TChain, TAnd, TOr, TNot, TAndV, TOrV, TNotV, TIfE, TNil, TCons, TTup, TLst, TCB, TBM, TBM0, TPart, TNoPart, TSl, TNeg, GName, GNil, GCons, GTup, IList, ITup, IRng1, IRng2, IStr, TLstF, TCall, TYes, TNext, TPur, GPur, TRetP, unown_nil, unown_cons, un1, wipeD, List.getElem?_cons_zero, List.getElem?_cons_succ, List.set_cons_zero, List.set_cons_succ, List.set_nil, isD, beq_self_eq_true, TLc, TLcF]
    refine ⟨p, rfl, hp, fun many rows gr => ?_⟩
    have g := gr.p
    have g1 := g.lo
    have g2 := g.hi
    obtain ⟨n, rfl⟩ := Int.eq_ofNat_of_zero_le (show 0 ≤ many by omega)
    have hn : n ≤ 64 := by omega
    have hTl := want4_len hn
    refine ⟨rfl, n, rfl, hn, n, rows, rfl, g, ?_⟩
    simp only [TSeq, IZip, TRet, TRetN, DL.TSet, TDrop, TIf, TPar, TAsg, TFor, TFrz, frz, TSetOwn, TApp, TExt, TVar, TC, TBin, TTst, TChain, TAnd, TOr, TNot, TAndV, TOrV, TNotV, TIfE, TNil, TCons, TTup, TLst, TCB, TBM, TBM0, TPart, TNoPart, TSl, TNeg, GName, GNil, GCons, GTup, IList, ITup, IRng1, IRng2, IStr, TLstF, TCall, TYes, TNext, TPur, GPur, TRetP, unown_nil, unown_cons, un1, wipeD, List.getElem?_cons_zero, List.getElem?_cons_succ, List.set_cons_zero, List.set_cons_succ, List.set_nil, isD, beq_self_eq_true]
    refine ⟨by rw [List.length_map]; omega, ?_⟩
    refine lcD_m triD (fun t => .tup [triD t, .str (resZ rows t)]) _ _ (fun t ht K1 h1 => ?_) ?_
    · obtain ⟨t1, t2, _⟩ := wantT_mem ht
      simp only [TSeq, IZip, TRet, TRetN, DL.TSet, TDrop, TIf, TPar, TAsg, TFor, TFrz, frz, TSetOwn, TApp, TExt, TVar, TC, TBin, TTst, TChain, TAnd, TOr, TNot, TAndV, TOrV, TNotV, TIfE, TNil, TCons, TTup, TLst, TCB, TBM, TBM0, TPart, TNoPart, TSl, TNeg, GName, GNil, GCons, GTup, IList, ITup, IRng1, IRng2, IStr, TLstF, TCall, TYes, TNext, TPur, GPur, TRetP, unown_nil, unown_cons, un1, wipeD, List.getElem?_cons_zero, List.getElem?_cons_succ, List.set_cons_zero, List.set_cons_succ, List.set_nil, isD, beq_self_eq_true, List.length_cons, List.length_nil]
      exact ⟨n, rows, t, rfl, g, t1, t2, by decide, h1⟩
    · refine ⟨p, n, rows, rfl, hp, g, fun ls l1 l2 l3 => ?_⟩
      exact knx _ _ ⟨rfl, n, rows, ls, gr, l1, l2, l3, rfl⟩
  · rintro ρ M1 ⟨hM, n, rows, ls, gr, l1, l2, l3, hρ⟩
    subst hM hρ
    have g := gr.p
    have hn : n ≤ 64 := by have := g.hi; omega
    have hrl := g.len
    have hTl := want4_len hn
    refine cut1 (fun ρ M' => M' = M1 ∧ ∃ a b, ρ = [.val (.ref p), .val (tableD n rows), .val (lstS ls), a, b, .no, .no, .no, .val (.int (n : Int)), .val (lstS rows), .val (.lst ((wantT n WAYSZ).map triD)), .val (.str (planZ n rows)), .no, .no]) (fun nx knx => ?_) ?_
    · have lp : ∀ ds : List D, (∀ d ∈ ds, LineOk d) → forD (GName 3) (TSeq (DL.TSet 4 (TCB tupO (TCons (TLc (IList (TVar 1)) (GTup 2 (GCons (GName 12) (GCons (GName 13) (GNil)))) (TTst (TBin eqOp (TVar 13) (TVar 3))) (TVar 12) [12, 13]) (TNil))))
  (TIf (TNot (TTst (TCall sp_law_judged (TCons (TTup (TCons (TC (.str "faults")) (TCons (TVar 11) (TCons (TVar 3) (TCons (TVar 4) (TNil)))))) (TCons (TC .non) (TCons (TCall sp_law_is_right (TCons (TVar 9) (TCons (TVar 1) (TCons (TVar 3) (TCons (TVar 4) (TNil)))))) (TNil))))))) (TRet (TC (.bl false))) (TNext))) ds ⟨nx, Q, fun _ _ => False, fun _ _ => False⟩ [.val (.ref p), .val (tableD n rows), .val (lstS ls), .no, .no, .no, .no, .no, .val (.int (n : Int)), .val (lstS rows), .val (.lst ((wantT n WAYSZ).map triD)), .val (.str (planZ n rows)), .no, .no] M1 := fun ds hds => by
        refine forD_invi ds (fun r ρ M' => M' = M1 ∧ ∃ a b, ρ = [.val (.ref p), .val (tableD n rows), .val (lstS ls), a, b, .no, .no, .no, .val (.int (n : Int)), .val (lstS rows), .val (.lst ((wantT n WAYSZ).map triD)), .val (.str (planZ n rows)), .no, .no]) _ _ (fun d r ρ M' Kn hd ⟨hM, a, b, hρ⟩ k => ?step) ⟨rfl, _, _, rfl⟩ (fun ρ M' ⟨hM, a, b, hρ⟩ => knx _ _ ⟨hM, a, b, hρ⟩)
        subst hM hρ
        have hd2 : LineOk d := hds d (by obtain ⟨pre, e⟩ := hd; rw [e]; simp)
        simp only [TSeq, IZip, TRet, TRetN, DL.TSet, TDrop, TIf, TPar, TAsg, TFor, TFrz, frz, TSetOwn, TApp, TExt, TVar, TC, TBin, TTst, TChain, TAnd, TOr, TNot, TAndV, TOrV, TNotV, TIfE, TNil, TCons, TTup, TLst, TCB, TBM, TBM0, TPart, TNoPart, TSl, TNeg, GName, GNil, GCons, GTup, IList, ITup, IRng1, IRng2, IStr, TLstF, TCall, TYes, TNext, TPur, GPur, TRetP, unown_nil, unown_cons, un1, wipeD, List.getElem?_cons_zero, List.getElem?_cons_succ, List.set_cons_zero, List.set_cons_succ, List.set_nil, isD, beq_self_eq_true, TLc, TLcF, tableD]
        refine ⟨by rw [List.length_map]; omega, ?_⟩
        refine told_lc hn hd2 (fun _ _ => rfl) rfl ?_
        simp only [tupO, List.length_cons, List.length_nil]
        have ht : ToldOk (.tup (((wantT n WAYSZ).filter fun t => strIs (resZ rows t) d).map triD)) := told_ok hn
        refine ⟨by decide, n, rows, d, _, rfl, g, hd2, ht, ?_⟩
        refine ⟨_, n, rows, d, _, .non, _, rfl, headF gr _ _, g, hd2, ht, rfl, ?_⟩
        exact k _ _ ⟨rfl, _, _, rfl⟩
      have five : ∀ d ∈ ([.non, .int 0, .bl true, .tup [], .lst (List.replicate rows.length [D.str (Str.ofString "0")]).flatten] : List D), LineOk d := by
        intro d hd
        simp only [List.mem_cons, List.not_mem_nil, or_false] at hd
        rcases hd with rfl | rfl | rfl | rfl | rfl
        · exact ⟨rfl, rfl, Nat.zero_le _⟩
        · exact ⟨rfl, rfl, Nat.zero_le _⟩
        · exact ⟨rfl, rfl, Nat.zero_le _⟩
        · exact ⟨rfl, rfl, by decide⟩
        · have hm : ∀ e ∈ (List.replicate rows.length [D.str (Str.ofString "0")]).flatten, e = D.str (Str.ofString "0") := by
            intro e he
            obtain ⟨l, h1, h2⟩ := List.mem_flatten.mp he
            rw [List.eq_of_mem_replicate h1] at h2
            exact List.mem_singleton.mp h2
          refine ⟨rfl, isPys_all _ fun e he => by rw [hm e he]; rfl, ?_⟩
          have := deps_le (n := 0) _ fun e he => by rw [hm e he]; exact Nat.le_refl _
          show deps _ + 1 ≤ 8
          omega
      have hls : ∀ d ∈ ls.map D.str, LineOk d := fun d hd => by
        obtain ⟨z, _, rfl⟩ := List.mem_map.mp hd
        exact line_str z
      simp only [TSeq, IZip, TRet, TRetN, DL.TSet, TDrop, TIf, TPar, TAsg, TFor, TFrz, frz, TSetOwn, TApp, TExt, TVar, TC, TBin, TTst, TChain, TAnd, TOr, TNot, TAndV, TOrV, TNotV, TIfE, TNil, TCons, TTup, TLst, TCB, TBM, TBM0, TPart, TNoPart, TSl, TNeg, GName, GNil, GCons, GTup, IList, ITup, IRng1, IRng2, IStr, TLstF, TCall, TYes, TNext, TPur, GPur, TRetP, unown_nil, unown_cons, un1, wipeD, List.getElem?_cons_zero, List.getElem?_cons_succ, List.set_cons_zero, List.set_cons_succ, List.set_nil, isD, beq_self_eq_true, leO, i20, lenO, lenD, lstS, List.length_cons, List.length_nil, List.length_map, mulAllO, addO, slO, Int.toNat_natCast]
      cases decide ((n : Int) ≤ 8) with
      | true =>
        refine ⟨by decide, by decide, ⟨by omega, by omega, by omega⟩, by decide, by omega, ?_⟩
        exact lp _ fun d hd => by
          rcases List.mem_append.mp hd with h | h
          · exact hls d h
          · exact five d h
      | false =>
        have c1 := cutD_len (ls.map D.str) none (some 2)
        rw [List.length_map] at c1
        refine ⟨by decide, by decide, ⟨by omega, by omega, by omega⟩, by decide, by omega, ?_⟩
        exact lp _ fun d hd => by
          rcases List.mem_append.mp hd with h | h
          · exact hls d (cutD_mem h)
          · exact five d h
    · rintro ρ M2 ⟨hM, a, b, hρ⟩
      subst hM hρ
      refine cut3 (fun ρ M' => M' = M2 ∧ ∃ (z : Str) (xs : List D), (xs.length ≤ 40 ∧ ∀ d ∈ xs, ToldOk d) ∧ ρ = [.val (.ref p), .val (tableD n rows), .val (lstS ls), .val (.str z), .val (toldD n rows (.str z)), .val (.lst xs), .no, .no, .val (.int (n : Int)), .val (lstS rows), .val (.lst ((wantT n WAYSZ).map triD)), .val (.str (planZ n rows)), .no, .no]) (fun nx knx => ?_) ?_
      · simp only [TSeq, IZip, TRet, TRetN, DL.TSet, TDrop, TIf, TPar, TAsg, TFor, TFrz, frz, TSetOwn, TApp, TExt, TVar, TC, TBin, TTst, TChain, TAnd, TOr, TNot, TAndV, TOrV, TNotV, TIfE, TNil, TCons, TTup, TLst, TCB, TBM, TBM0, TPart, TNoPart, TSl, TNeg, GName, GNil, GCons, GTup, IList, ITup, IRng1, IRng2, IStr, TLstF, TCall, TYes, TNext, TPur, GPur, TRetP, unown_nil, unown_cons, un1, wipeD, List.getElem?_cons_zero, List.getElem?_cons_succ, List.set_cons_zero, List.set_cons_succ, List.set_nil, isD, beq_self_eq_true, TLc, TLcF, tableD, lstS, List.length_nil]
        refine ⟨by decide, ?_⟩
        rw [ne_lnil (isPys_tris _) (deps_tris8 _)]
        have w2 : ∀ y ∈ WAYSZ, y.length ≤ 2 := by decide +kernel
        cases decide ((wantT n WAYSZ).map triD = []) <;>
          (refine ix_lst (by decide) (by rw [List.length_map]; omega) fun d hd => ?_
           obtain ⟨z, _, rfl⟩ := List.mem_map.mp hd
           refine ⟨by rw [List.length_map]; omega, ?_⟩
           refine told_lc hn (line_str z) (fun _ _ => rfl) rfl ?_
           have h2 := List.length_filter_le (fun t => strIs (resZ rows t) (.str z)) (wantT n WAYSZ)
           refine ⟨p, _, wantT n WAYSZ, rfl, hp, by omega, hTl, fun t ht => w2 _ (wantT_mem (List.mem_filter.mp ht).1).2.2, fun xs hxs => ?_⟩
           exact knx _ _ ⟨rfl, z, xs, hxs, rfl⟩)
      · rintro ρ M3 ⟨hM, z, xs, ⟨hxl, hxs⟩, hρ⟩
        subst hM hρ
        have ht : ToldOk (toldD n rows (.str z)) := told_ok hn
        refine cut1 (fun ρ M' => M' = M3 ∧ ∃ c, ρ = [.val (.ref p), .val (tableD n rows), .val (lstS ls), .val (.str z), .val (toldD n rows (.str z)), .val (.lst xs), c, .no, .val (.int (n : Int)), .val (lstS rows), .val (.lst ((wantT n WAYSZ).map triD)), .val (.str (planZ n rows)), .no, .no]) (fun nx knx => ?_) ?_
        · have lp : ∀ ds : List D, (∀ d ∈ ds, ToldOk d) → forD (GName 6) (TIf (TNot (TTst (TCall sp_law_judged (TCons (TTup (TCons (TC (.str "faults")) (TCons (TVar 11) (TCons (TVar 3) (TCons (TVar 6) (TNil)))))) (TCons (TC .non) (TCons (TCall sp_law_is_right (TCons (TVar 9) (TCons (TVar 1) (TCons (TVar 3) (TCons (TVar 6) (TNil)))))) (TNil))))))) (TRet (TC (.bl false))) (TNext)) ds ⟨nx, Q, fun _ _ => False, fun _ _ => False⟩ [.val (.ref p), .val (tableD n rows), .val (lstS ls), .val (.str z), .val (toldD n rows (.str z)), .val (.lst xs), .no, .no, .val (.int (n : Int)), .val (lstS rows), .val (.lst ((wantT n WAYSZ).map triD)), .val (.str (planZ n rows)), .no, .no] M3 := fun ds hds => by
            refine forD_invi ds (fun r ρ M' => M' = M3 ∧ ∃ c, ρ = [.val (.ref p), .val (tableD n rows), .val (lstS ls), .val (.str z), .val (toldD n rows (.str z)), .val (.lst xs), c, .no, .val (.int (n : Int)), .val (lstS rows), .val (.lst ((wantT n WAYSZ).map triD)), .val (.str (planZ n rows)), .no, .no]) _ _ (fun d r ρ M' Kn hd ⟨hM, c, hρ⟩ k => ?stepB) ⟨rfl, _, rfl⟩ (fun ρ M' ⟨hM, c, hρ⟩ => knx _ _ ⟨hM, c, hρ⟩)
            subst hM hρ
            have hd2 : ToldOk d := hds d (by obtain ⟨pre, e⟩ := hd; rw [e]; simp)
            simp only [TSeq, IZip, TRet, TRetN, DL.TSet, TDrop, TIf, TPar, TAsg, TFor, TFrz, frz, TSetOwn, TApp, TExt, TVar, TC, TBin, TTst, TChain, TAnd, TOr, TNot, TAndV, TOrV, TNotV, TIfE, TNil, TCons, TTup, TLst, TCB, TBM, TBM0, TPart, TNoPart, TSl, TNeg, GName, GNil, GCons, GTup, IList, ITup, IRng1, IRng2, IStr, TLstF, TCall, TYes, TNext, TPur, GPur, TRetP, unown_nil, unown_cons, un1, wipeD, List.getElem?_cons_zero, List.getElem?_cons_succ, List.set_cons_zero, List.set_cons_succ, List.set_nil, isD, beq_self_eq_true, List.length_cons, List.length_nil]
            refine ⟨by decide, n, rows, .str z, d, rfl, g, line_str z, hd2, ?_⟩
            refine ⟨_, n, rows, .str z, d, .non, _, rfl, headF gr _ _, g, line_str z, hd2, rfl, ?_⟩
            exact k _ _ ⟨rfl, _, rfl⟩
          simp only [TSeq, IZip, TRet, TRetN, DL.TSet, TDrop, TIf, TPar, TAsg, TFor, TFrz, frz, TSetOwn, TApp, TExt, TVar, TC, TBin, TTst, TChain, TAnd, TOr, TNot, TAndV, TOrV, TNotV, TIfE, TNil, TCons, TTup, TLst, TCB, TBM, TBM0, TPart, TNoPart, TSl, TNeg, GName, GNil, GCons, GTup, IList, ITup, IRng1, IRng2, IStr, TLstF, TCall, TYes, TNext, TPur, GPur, TRetP, unown_nil, unown_cons, un1, wipeD, List.getElem?_cons_zero, List.getElem?_cons_succ, List.set_cons_zero, List.set_cons_succ, List.set_nil, isD, beq_self_eq_true, leO, i20, slO]
          cases decide ((n : Int) ≤ 8) with
          | true => exact lp _ hxs
          | false => exact lp _ fun d hd => hxs d (cutD_mem hd)
        · rintro ρ M4 ⟨hM, c6, hρ⟩
          subst hM hρ
          simp only [TSeq, IZip, TRet, TRetN, DL.TSet, TDrop, TIf, TPar, TAsg, TFor, TFrz, frz, TSetOwn, TApp, TExt, TVar, TC, TBin, TTst, TChain, TAnd, TOr, TNot, TAndV, TOrV, TNotV, TIfE, TNil, TCons, TTup, TLst, TCB, TBM, TBM0, TPart, TNoPart, TSl, TNeg, GName, GNil, GCons, GTup, IList, ITup, IRng1, IRng2, IStr, TLstF, TCall, TYes, TNext, TPur, GPur, TRetP, unown_nil, unown_cons, un1, wipeD, List.getElem?_cons_zero, List.getElem?_cons_succ, List.set_cons_zero, List.set_cons_succ, List.set_nil, isD, beq_self_eq_true, List.length_cons, List.length_nil]
          refine ⟨by decide, by decide, by decide, ?_⟩
          refine forD_invi _ (fun r ρ M' => M' = M4 ∧ ∃ c, ρ = [.val (.ref p), .val (tableD n rows), .val (lstS ls), .val (.str z), .val (toldD n rows (.str z)), .val (.lst xs), c6, c, .val (.int (n : Int)), .val (lstS rows), .val (.lst ((wantT n WAYSZ).map triD)), .val (.str (planZ n rows)), .no, .no]) _ _ (fun d r ρ M' Kn hd ⟨hM, c, hρ⟩ k => ?stepC) ⟨rfl, _, rfl⟩ (fun ρ M' ⟨hM, c, hρ⟩ => ?finC)
          case finC =>
            subst hM hρ
            exact q
          case stepC =>
            subst hM hρ
            have hd2 : isNon d = false := by
              obtain ⟨pre, e⟩ := hd
              have hm : d ∈ pre ++ d :: r := by simp
              rw [← e] at hm
              simp only [List.mem_cons, List.not_mem_nil, or_false] at hm
              rcases hm with rfl | rfl | rfl | rfl | rfl | rfl | rfl | rfl | rfl <;> rfl
            simp only [TSeq, IZip, TRet, TRetN, DL.TSet, TDrop, TIf, TPar, TAsg, TFor, TFrz, frz, TSetOwn, TApp, TExt, TVar, TC, TBin, TTst, TChain, TAnd, TOr, TNot, TAndV, TOrV, TNotV, TIfE, TNil, TCons, TTup, TLst, TCB, TBM, TBM0, TPart, TNoPart, TSl, TNeg, GName, GNil, GCons, GTup, IList, ITup, IRng1, IRng2, IStr, TLstF, TCall, TYes, TNext, TPur, GPur, TRetP, unown_nil, unown_cons, un1, wipeD, List.getElem?_cons_zero, List.getElem?_cons_succ, List.set_cons_zero, List.set_cons_succ, List.set_nil, isD, beq_self_eq_true, List.length_cons, List.length_nil]
            refine ⟨by decide, ?_⟩
            refine ⟨_, n, rows, .str z, _, d, _, rfl, headF gr _ _, g, line_str z, ht, by rw [hd2]; rfl, ?_⟩
            exact k _ _ ⟨rfl, _, rfl⟩
/-- the law's own -/
def sp_law : SpD := fun ds M Q => ∃ ns : List Int, ds = [.fzl (ns.map D.int)] ∧ ns.length ≤ 63 ∧ (∀ z ∈ ns, Builtin.Int.intBits z ≤ 1048576) ∧ ∀ M', Q (.bl true) M'
def T_law : TSd := TSeq (TFor (IRng1 (TCons (TCB maxO (TCons (TC (.int 2)) (TCons (TCB minO (TCons (TCB lenO (TCons (TVar 0) (TNil))) (TCons (TC (.int 4)) (TNil)))) (TNil)))) (TNil))) (GName 1) (TIf (TNot (TTst (TCall sp_law_right (TCons (TCall sp_law_purse (TCons (TVar 0) (TCons (TVar 1) (TNil)))) (TNil))))) (TRet (TC (.bl false))) (TNext)))
  (TRet (TC (.bl true)))
theorem len_law : ∀ ds M Q, sp_law ds M Q → ds.length = 1 := fun _ _ _ ⟨_, e, _⟩ => by rw [e]; rfl
theorem body_law : ∀ (ds : List D) (M : Mem) (Q : D → Mem → Prop), sp_law ds M Q → T_law ⟨fun _ M' => Q .non M', Q, fun _ _ => False, fun _ _ => False⟩ (startD ["_law_script", "_law_k"] ds) M := by
  rintro _ M Q ⟨ns, rfl, hl, hb, q⟩
  show T_law _ [.val (.fzl (ns.map D.int)), .no] M
  simp only [T_law, TSeq, IZip, TRet, TRetN, DL.TSet, TDrop, TIf, TPar, TAsg, TFor, TFrz, frz, TSetOwn, TApp, TExt, TVar, TC, TBin, TTst, TChain, TAnd, TOr, TNot, TAndV, TOrV, TNotV, TIfE, TNil, TCons, TTup, TLst, TCB, TBM, TBM0, TPart, TNoPart, TSl, TNeg, GName, GNil, GCons, GTup, IList, ITup, IRng1, IRng2, IStr, TLstF, TCall, TYes, TNext, TPur, GPur, TRetP, unown_nil, unown_cons, un1, wipeD, List.getElem?_cons_zero, List.getElem?_cons_succ, List.set_cons_zero, List.set_cons_succ, List.set_nil, isD, beq_self_eq_true, lenO, lenD, minO, maxO]
  refine ⟨⟨by omega, by omega⟩, ?_⟩
  rw [rangeD_map]
  refine forD_inv D.int _ (fun _ ρ M' => ∃ a, ρ = [.val (.fzl (ns.map D.int)), a]) _ _ (fun z r ρ M' Kn ⟨pre, e⟩ ⟨a, hρ⟩ k => ?step) ⟨_, rfl⟩ (fun ρ M' ⟨a, hρ⟩ => ?fin)
  case fin =>
    subst hρ
    exact q _
  case step =>
    subst hρ
    have hz : z ∈ (List.range (max (2 : Int) (min (((ns.map D.int).length : Nat) : Int) 4) - 0).toNat).map fun (k : Nat) => (0 : Int) + (k : Int) := by rw [e]; simp
    obtain ⟨y, hy, rfl⟩ := List.mem_map.mp hz
    have hy := List.mem_range.mp hy
    simp only [TSeq, IZip, TRet, TRetN, DL.TSet, TDrop, TIf, TPar, TAsg, TFor, TFrz, frz, TSetOwn, TApp, TExt, TVar, TC, TBin, TTst, TChain, TAnd, TOr, TNot, TAndV, TOrV, TNotV, TIfE, TNil, TCons, TTup, TLst, TCB, TBM, TBM0, TPart, TNoPart, TSl, TNeg, GName, GNil, GCons, GTup, IList, ITup, IRng1, IRng2, IStr, TLstF, TCall, TYes, TNext, TPur, GPur, TRetP, unown_nil, unown_cons, un1, wipeD, List.getElem?_cons_zero, List.getElem?_cons_succ, List.set_cons_zero, List.set_cons_succ, List.set_nil, isD, beq_self_eq_true]
    refine ⟨ns, _, rfl, hl, hb, by omega, by omega, fun p M2 hp => ⟨p, rfl, hp, k _ _ ⟨_, rfl⟩⟩⟩
end DL

namespace DL
open PySem PySem.Spec PyProof.Rows L2 TL
abbrev Pg : Program := PySem.Challenge.pw_fourways_k56_faults_judged
def top (i : Nat) : Stmt := Pg.main.body.getD i (.Pass ⟨0, 0, 0, 0⟩)
abbrev FnP (K : PySem.W.Frag) (x : Str) (st : Stmt) (f : Addr) (fd : FuncData) : Prop := FunD K x x (defArgs st) (defBody st) (defScope st) [] [] f fd
def dd (x : Str) (i : Nat) : He.DefD := ⟨(x, none), x, x, defArgs (top i), defBody (top i), defScope (top i), [], []⟩
def fn : List He.DefD := [dd "is_integer" 7, dd "is_number" 8, dd "is_signs" 9, dd "plan_in" 12, dd "pairs_of" 13, dd "is_fault" 16, dd "shows_faults" 31, dd "accepts" 34, dd "_law_take" 37, dd "_law_purse" 36, dd "_law_plan_line" 38, dd "_law_pairs" 39, dd "_law_row" 40, dd "_law_some_plan" 41, dd "_law_judged" 42, dd "_law_results" 43, dd "_law_faults" 44, dd "_law_is_right" 45, dd "_law_near" 46, dd "_law_lines" 47, dd "_law_right" 48, dd "law" 49]
def fa : List He.Fa := [.glo "is_integer", .glo "is_number", .glo "is_signs", .glo "plan_in", .glo "pairs_of", .glo "is_fault", .glo "shows_faults", .glo "accepts", .glo "_law_take", .glo "_law_purse", .glo "_law_plan_line", .glo "_law_pairs", .glo "_law_row", .glo "_law_some_plan", .glo "_law_judged", .glo "_law_results", .glo "_law_faults", .glo "_law_is_right", .glo "_law_near", .glo "_law_lines", .glo "_law_right", .glo "law", .free "abs", .free "all", .free "any", .free "bool", .free "int", .free "isinstance", .free "len", .free "list", .free "max", .free "min", .free "range", .free "sorted", .free "str", .free "tuple", .free "zip", .int "MOST_SWITCHES" 64, .int "MOST_TRIALS" 64, .glo "WAYS", .glo "SIZES"]
def SIZESV : List (Str × Int) := [("keeps", 3), ("lacks", 3), ("fewest", 4), ("column", 5), ("room", 4), ("faults", 4), ("enough", 4)]
def ts : List He.Tab := [((fun K => He.ga K "SIZES"), SIZESV.map (·.1))]
def ex (K : PySem.W.Frag) : Bool := He.tupB K "WAYS" (WAYSZ.map He.Dv.str) && He.valsB K (He.ga K "SIZES") (SIZESV.map fun p => (p.1, .int p.2))
abbrev R : PySem.W.OpenRow := PySem.W.OpenLaw.row PySem.Challenge.rw_fourways_k56_faults_judged
abbrev hk : PySem.W.Hook := He.hookX 2 fa fn ts [] ex
def ob (s : PySem.W.SharedT) : He.AlX := He.obsX 2 fa fn ts [] ex (HandSHeadRun.getT s)
theorem ob_eq (s : PySem.W.SharedT) : ob s = hk.obs s.abs := He.obsX_eq (HandSHeadRun.getT_eq s)
def loose0 : List Str := ["MOST_SWITCHES", "MOST_TRIALS", "MOST_FREE", "WAYS", "MOST_ASKED", "SIZES", "is_integer", "is_number", "is_signs", "is_rising", "ways_in", "plan_in", "pairs_of", "missing_of"]
def loose1 : List Str := ["shows_keeps", "is_fault", "shows_lacks", "chosen", "powered", "split_of", "most_for", "fewest_for", "rank_of", "place_of", "shows_fewest", "shows_column", "share_of", "divisor_of"]
def loose2 : List Str := ["weight_of", "shows_room", "shows_faults", "can_be_shown", "shows_enough", "accepts", "_law_purse", "_law_take", "_law_plan_line", "_law_pairs", "_law_row", "_law_some_plan", "_law_judged", "_law_results"]
def loose3 : List Str := ["_law_faults", "_law_is_right", "_law_near", "_law_lines", "_law_right"]
def loose : List Str := loose0 ++ loose1 ++ loose2 ++ loose3
def RunP (w : World) : Prop := HandSHeadRun.RunEq R (PySem.W.view R.prog [49]) hk ob 1500 loose w
theorem runF (w : World) : RunP (w.withFollow "special-get-raises" false) := by
  intro os
  kernel_rfl
theorem runT (w : World) : RunP (w.withFollow "special-get-raises" true) := by
  intro os
  kernel_rfl
theorem run (w : World) : HandSHeadRun.RunEq R (PySem.W.view R.prog [49]) hk ob 1500 loose w := PySem.W.byRow2 "special-get-raises" (P := RunP) runF runT w
structure Hd (K : PySem.W.Frag) (w : World) (mg : Str → Option Value) where
  f_is_integer : Addr
  fd_is_integer : FuncData
  F_is_integer : FnP K "is_integer" (top 7) f_is_integer fd_is_integer
  g_is_integer : mg "is_integer" = some (.ref f_is_integer)
  f_is_number : Addr
  fd_is_number : FuncData
  F_is_number : FnP K "is_number" (top 8) f_is_number fd_is_number
  g_is_number : mg "is_number" = some (.ref f_is_number)
  f_is_signs : Addr
  fd_is_signs : FuncData
  F_is_signs : FnP K "is_signs" (top 9) f_is_signs fd_is_signs
  g_is_signs : mg "is_signs" = some (.ref f_is_signs)
  f_plan_in : Addr
  fd_plan_in : FuncData
  F_plan_in : FnP K "plan_in" (top 12) f_plan_in fd_plan_in
  g_plan_in : mg "plan_in" = some (.ref f_plan_in)
  f_pairs_of : Addr
  fd_pairs_of : FuncData
  F_pairs_of : FnP K "pairs_of" (top 13) f_pairs_of fd_pairs_of
  g_pairs_of : mg "pairs_of" = some (.ref f_pairs_of)
  f_is_fault : Addr
  fd_is_fault : FuncData
  F_is_fault : FnP K "is_fault" (top 16) f_is_fault fd_is_fault
  g_is_fault : mg "is_fault" = some (.ref f_is_fault)
  f_shows_faults : Addr
  fd_shows_faults : FuncData
  F_shows_faults : FnP K "shows_faults" (top 31) f_shows_faults fd_shows_faults
  g_shows_faults : mg "shows_faults" = some (.ref f_shows_faults)
  f_accepts : Addr
  fd_accepts : FuncData
  F_accepts : FnP K "accepts" (top 34) f_accepts fd_accepts
  g_accepts : mg "accepts" = some (.ref f_accepts)
  f__law_take : Addr
  fd__law_take : FuncData
  F__law_take : FnP K "_law_take" (top 37) f__law_take fd__law_take
  g__law_take : mg "_law_take" = some (.ref f__law_take)
  f__law_purse : Addr
  fd__law_purse : FuncData
  F__law_purse : FnP K "_law_purse" (top 36) f__law_purse fd__law_purse
  g__law_purse : mg "_law_purse" = some (.ref f__law_purse)
  f__law_plan_line : Addr
  fd__law_plan_line : FuncData
  F__law_plan_line : FnP K "_law_plan_line" (top 38) f__law_plan_line fd__law_plan_line
  g__law_plan_line : mg "_law_plan_line" = some (.ref f__law_plan_line)
  f__law_pairs : Addr
  fd__law_pairs : FuncData
  F__law_pairs : FnP K "_law_pairs" (top 39) f__law_pairs fd__law_pairs
  g__law_pairs : mg "_law_pairs" = some (.ref f__law_pairs)
  f__law_row : Addr
  fd__law_row : FuncData
  F__law_row : FnP K "_law_row" (top 40) f__law_row fd__law_row
  g__law_row : mg "_law_row" = some (.ref f__law_row)
  f__law_some_plan : Addr
  fd__law_some_plan : FuncData
  F__law_some_plan : FnP K "_law_some_plan" (top 41) f__law_some_plan fd__law_some_plan
  g__law_some_plan : mg "_law_some_plan" = some (.ref f__law_some_plan)
  f__law_judged : Addr
  fd__law_judged : FuncData
  F__law_judged : FnP K "_law_judged" (top 42) f__law_judged fd__law_judged
  g__law_judged : mg "_law_judged" = some (.ref f__law_judged)
  f__law_results : Addr
  fd__law_results : FuncData
  F__law_results : FnP K "_law_results" (top 43) f__law_results fd__law_results
  g__law_results : mg "_law_results" = some (.ref f__law_results)
  f__law_faults : Addr
  fd__law_faults : FuncData
  F__law_faults : FnP K "_law_faults" (top 44) f__law_faults fd__law_faults
  g__law_faults : mg "_law_faults" = some (.ref f__law_faults)
  f__law_is_right : Addr
  fd__law_is_right : FuncData
  F__law_is_right : FnP K "_law_is_right" (top 45) f__law_is_right fd__law_is_right
  g__law_is_right : mg "_law_is_right" = some (.ref f__law_is_right)
  f__law_near : Addr
  fd__law_near : FuncData
  F__law_near : FnP K "_law_near" (top 46) f__law_near fd__law_near
  g__law_near : mg "_law_near" = some (.ref f__law_near)
  f__law_lines : Addr
  fd__law_lines : FuncData
  F__law_lines : FnP K "_law_lines" (top 47) f__law_lines fd__law_lines
  g__law_lines : mg "_law_lines" = some (.ref f__law_lines)
  f__law_right : Addr
  fd__law_right : FuncData
  F__law_right : FnP K "_law_right" (top 48) f__law_right fd__law_right
  g__law_right : mg "_law_right" = some (.ref f__law_right)
  f_law : Addr
  fd_law : FuncData
  F_law : FnP K "law" (top 49) f_law fd_law
  g_law : mg "law" = some (.ref f_law)
  b_abs : mg "abs" = none
  b_all : mg "all" = none
  b_any : mg "any" = none
  b_bool : mg "bool" = none
  b_int : mg "int" = none
  b_isinstance : mg "isinstance" = none
  b_len : mg "len" = none
  b_list : mg "list" = none
  b_max : mg "max" = none
  b_min : mg "min" = none
  b_range : mg "range" = none
  b_sorted : mg "sorted" = none
  b_str : mg "str" = none
  b_tuple : mg "tuple" = none
  b_zip : mg "zip" = none
  c_MOST_SWITCHES : ∃ t, mg "MOST_SWITCHES" = some (.int 64 t)
  c_MOST_TRIALS : ∃ t, mg "MOST_TRIALS" = some (.int 64 t)
  t_WAYS : Addr
  c_WAYS : mg "WAYS" = some (.ref t_WAYS) ∧ ∀ H, Rep K H (.ref t_WAYS) (.tup WAYSD)
  t_SIZES : Addr
  a_SIZES : mg "SIZES" = some (.ref t_SIZES)
  c_SIZES : WDic K w t_SIZES SIZESD
section
variable {P : Program} {w : World} {K : PySem.W.Frag} {mg : Str → Option Value} {base : Heap}
def N_is_integer : List Str := ["value"]
theorem sc_is_integer : FnScope N_is_integer ["value"] (defScope (top 7)) := ⟨rfl, rfl, rfl, by decide +kernel, rfl, by decide +kernel, by decide +kernel⟩
theorem b_is_integer (h : Hd K w mg) : Binds K h.fd_is_integer ["value"] [] := h.F_is_integer.bindsN fun _ _ _ _ _ _ us hl => match us, hl with | [_], _ => rfl
theorem ok_is_integer (h : Hd K w mg) : FnOk P w K mg base CX0 1 h.f_is_integer h.fd_is_integer ["value"] (spOf K sp_is_integer) :=
  fn_ok (N := N_is_integer) h.F_is_integer sc_is_integer len_is_integer fun cdv A outer s H E hr => ⟨_, T_is_integer, bd_one (sd_ret (ed_and (ed_cb (k_isi K rfl) sc_isi rfl h.b_isinstance rfl (ad_cons (ed_var (pv 0)) (ad_cons (ed_ty rfl h.b_int rfl) (ad_nil)))) (ed_one (ed_not (ed_cb (k_isi K rfl) sc_isi rfl h.b_isinstance rfl (ad_cons (ed_var (pv 0)) (ad_cons (ed_ty rfl h.b_bool rfl) (ad_nil)))))))), body_is_integer⟩
def N_is_number : List Str := ["value", "least", "most"]
theorem sc_is_number : FnScope N_is_number ["value", "least", "most"] (defScope (top 8)) := ⟨rfl, rfl, rfl, by decide +kernel, rfl, by decide +kernel, by decide +kernel⟩
theorem b_is_number (h : Hd K w mg) : Binds K h.fd_is_number ["value", "least", "most"] [] := h.F_is_number.bindsN fun _ _ _ _ _ _ us hl => match us, hl with | [_, _, _], _ => rfl
theorem ok_is_number (h : Hd K w mg) : FnOk P w K mg base CX0 2 h.f_is_number h.fd_is_number ["value", "least", "most"] (spOf K sp_is_number) :=
  fn_ok (N := N_is_number) h.F_is_number sc_is_number len_is_number fun cdv A outer s H E hr => ⟨_, T_is_number, bd_one (sd_ret (ed_and (ed_callK K rfl (k := 1) ((ok_is_integer h).mono (by decide)) hr rfl h.g_is_integer h.F_is_integer.kp (b_is_integer h) pass0 (ad_cons (ed_var (pv 0)) (ad_nil))) (ed_one (ed_chain op_le sr_le op_le sr_le (ed_var (pv 1)) (ed_var (pv 0)) (ed_var (pv 2)))))), body_is_number⟩
def N_is_signs : List Str := ["value", "many"]
theorem sc_is_signs : FnScope N_is_signs ["value", "many"] (defScope (top 9)) := ⟨rfl, rfl, rfl, by decide +kernel, rfl, by decide +kernel, by decide +kernel⟩
theorem b_is_signs (h : Hd K w mg) : Binds K h.fd_is_signs ["value", "many"] [] := h.F_is_signs.bindsN fun _ _ _ _ _ _ us hl => match us, hl with | [_, _], _ => rfl
theorem ok_is_signs (h : Hd K w mg) : FnOk P w K mg base CX0 1 h.f_is_signs h.fd_is_signs ["value", "many"] (spOf K sp_is_signs) :=
  fn_ok (N := N_is_signs) h.F_is_signs sc_is_signs len_is_signs fun cdv A outer s H E hr => ⟨_, T_is_signs, bd_one (sd_ret (ed_and (ed_cb (k_isi K rfl) sc_isi rfl h.b_isinstance rfl (ad_cons (ed_var (pv 0)) (ad_cons (ed_ty rfl h.b_str rfl) (ad_nil)))) (ed_and (ed_cmp (k_eq K rfl hr.units) sr_eq (ed_cb (k_len K rfl) sc_len rfl h.b_len rfl (ad_cons (ed_var (pv 0)) (ad_nil))) (ed_var (pv 1)) (nomark _)) (ed_one (ed_cmp (k_eq K rfl hr.units) sr_eq (ed_bin (k_add K rfl) sr_add (ed_bmK K rfl PySem.F.plainAttrs_str PySem.F.slot_str_count PySem.F.type_str_count mt_countI sm_count (ed_var (pv 0)) (ad_cons (ed_str) (ad_nil))) (ed_bmK K rfl PySem.F.plainAttrs_str PySem.F.slot_str_count PySem.F.type_str_count mt_countI sm_count (ed_var (pv 0)) (ad_cons (ed_str) (ad_nil)))) (ed_var (pv 1)) (nomark _)))))), body_is_signs⟩
def N_plan_in : List Str := ["text", "pieces", "sizes", "many", "trials", "k", "trial"]
theorem sc_plan_in : FnScope N_plan_in ["text"] (defScope (top 12)) := ⟨rfl, rfl, rfl, by decide +kernel, rfl, by decide +kernel, by decide +kernel⟩
theorem b_plan_in (h : Hd K w mg) : Binds K h.fd_plan_in ["text"] [] := h.F_plan_in.bindsN fun _ _ _ _ _ _ us hl => match us, hl with | [_], _ => rfl
theorem ok_plan_in (h : Hd K w mg) : FnOk P w K mg base CX0 2 h.f_plan_in h.fd_plan_in ["text"] (spOf K sp_plan_in) :=
  fn_ok (N := N_plan_in) h.F_plan_in sc_plan_in len_plan_in fun cdv A outer s H E hr => ⟨_, T_plan_in, bd_cons (sd_if (td_not (td_val (ed_cb (k_isi K rfl) sc_isi rfl h.b_isinstance rfl (ad_cons (ed_var (pv 0)) (ad_cons (ed_ty rfl h.b_str rfl) (ad_nil)))))) (bd_one (sd_ret (ed_non))) (bd_nil))
    (bd_cons (sd_set (i := 1) sc_plan_in.nd rfl (Or.inl rfl) (ed_bmK K rfl PySem.F.plainAttrs_str PySem.F.slot_str_split PySem.F.type_str_split mt_splitI sm_split (ed_var (pv 0)) (ad_cons (ed_str) (ad_nil))))
    (bd_cons (sd_setLc (i := 2) (own := [("k", 5)]) (g := gName 5)  rfl sc_plan_in.nd rfl rfl (sw_true rfl rfl rfl (by decide +kernel)) (id_range1 rfl h.b_range (ad_cons (ed_gint h.c_MOST_SWITCHES rfl) (ad_nil))) (blkOk_by (N := N_plan_in) (sc := defScope (top 12)) (by decide +kernel)) (go_name) (fun _ _ _ _ _ => gd_name (i := 5) sc_plan_in.nd rfl (Or.inl rfl)) (fun _ _ _ _ _ => ptd_nil) (fun _ _ _ _ _ => ed_fstr (FJ.cons (ed_fmt (ed_bin (k_add K rfl) sr_add (ed_var (pv 5)) (ed_int))) (FJ.cons (ed_str) (FJ.nil)))))
    (bd_cons (sd_if (td_w (wd_or (td_cmp (k_notIn K rfl) (sr_in true) (ed_ix (k_ix K rfl) sr_ix (ed_var (pv 1)) (ed_int)) (ed_var (pv 2)) (by with_unfolding_all rfl)) (wd_or1 (td_cmp op_gt sr_gt (ed_bin op_sub sr_sub (ed_cb (k_len K rfl) sc_len rfl h.b_len rfl (ad_cons (ed_var (pv 1)) (ad_nil))) (ed_int)) (ed_gint h.c_MOST_TRIALS rfl) (nomark _))))) (bd_one (sd_ret (ed_non))) (bd_nil))
    (bd_cons (sd_asg (ed_tup (ad_cons (ed_bin (k_add K rfl) sr_add (ed_bmK K rfl PySem.F.plainAttrs_list PySem.F.slot_list_index PySem.F.type_list_index (k_index K rfl) sm_index (ed_var (pv 2)) (ad_cons (ed_ix (k_ix K rfl) sr_ix (ed_var (pv 1)) (ed_int)) (ad_nil))) (ed_int)) (ad_cons (ed_slice (k_sl K rfl) ss_all (ed_var (pv 1)) (od_some (ed_int)) (od_none)) (ad_nil)))) (gd_tupK K rfl rfl (gsd_cons (gd_name (i := 3) sc_plan_in.nd rfl (Or.inr rfl)) (gsd_cons (gd_name (i := 4) sc_plan_in.nd rfl (Or.inl rfl)) (gsd_nil)))))
    (bd_one (sd_ret (ed_if (td_val (ed_cb (k_all K rfl rfl) sc_all rfl h.b_all rfl (ad_cons (ed_lc (own := [("trial", 6)]) (g := gName 6)  rfl sc_plan_in.nd (id_listK K rfl (ed_var (pv 4))) (blkOk_by (N := N_plan_in) (sc := defScope (top 12)) (by decide +kernel)) (go_name) (fun _ _ _ _ _ => gd_name (i := 6) sc_plan_in.nd rfl (Or.inl rfl)) (fun _ _ _ _ _ => ptd_nil) (fun _ _ _ _ _ => ed_callK K rfl (k := 1) ((ok_is_signs h).mono (by decide)) hr rfl h.g_is_signs h.F_is_signs.kp (b_is_signs h) pass0 (ad_cons (ed_var (pv 6)) (ad_cons (ed_var (pv 3)) (ad_nil))))) (ad_nil)))) (ed_tup (ad_cons (ed_var (pv 3)) (ad_cons (ed_var (pv 4)) (ad_nil)))) (ed_non)))))))), body_plan_in⟩
def N_pairs_of : List Str := ["many", "one", "other"]
theorem sc_pairs_of : FnScope N_pairs_of ["many"] (defScope (top 13)) := ⟨rfl, rfl, rfl, by decide +kernel, rfl, by decide +kernel, by decide +kernel⟩
theorem b_pairs_of (h : Hd K w mg) : Binds K h.fd_pairs_of ["many"] [] := h.F_pairs_of.bindsN fun _ _ _ _ _ _ us hl => match us, hl with | [_], _ => rfl
theorem ok_pairs_of (h : Hd K w mg) : FnOk P w K mg base CX0 1 h.f_pairs_of h.fd_pairs_of ["many"] (spOf K sp_pairs_of) :=
  fn_ok (N := N_pairs_of) h.F_pairs_of sc_pairs_of len_pairs_of fun cdv A outer s H E hr => ⟨_, T_pairs_of, bd_one (sd_ret (ed_lc2 (own := [("one", 1), ("other", 2)]) (vs1 := [2]) (g := gName 1) (g1 := gName 2) rfl sc_pairs_of.nd (id_range1 rfl h.b_range (ad_cons (ed_var (pv 0)) (ad_nil))) (blkOk_by (N := N_pairs_of) (sc := defScope (top 13)) (by decide +kernel)) (by decide) (go_name) (go_name) (fun _ _ _ _ _ => gd_name (i := 1) sc_pairs_of.nd rfl (Or.inl rfl)) (fun _ _ _ _ _ => ptd_nil) (fun _ _ _ _ _ => id_range2 rfl h.b_range (ad_cons (ed_bin (k_add K rfl) sr_add (ed_var (pv 1)) (ed_int)) (ad_cons (ed_var (pv 0)) (ad_nil)))) (fun _ _ _ _ _ => gd_name (i := 2) sc_pairs_of.nd rfl (Or.inl rfl)) (fun _ _ _ _ _ => ptd_nil) (fun _ _ _ _ _ => ed_tup (ad_cons (ed_var (pv 1)) (ad_cons (ed_var (pv 2)) (ad_nil)))))), body_pairs_of⟩
def N_is_fault : List Str := ["value", "many", "one", "other", "way"]
theorem sc_is_fault : FnScope N_is_fault ["value", "many"] (defScope (top 16)) := ⟨rfl, rfl, rfl, by decide +kernel, rfl, by decide +kernel, by decide +kernel⟩
theorem b_is_fault (h : Hd K w mg) : Binds K h.fd_is_fault ["value", "many"] [] := h.F_is_fault.bindsN fun _ _ _ _ _ _ us hl => match us, hl with | [_, _], _ => rfl
theorem ok_is_fault (h : Hd K w mg) : FnOk P w K mg base CX0 3 h.f_is_fault h.fd_is_fault ["value", "many"] (spOf K sp_is_fault) :=
  fn_ok (N := N_is_fault) h.F_is_fault sc_is_fault len_is_fault fun cdv A outer s H E hr => ⟨_, T_is_fault, bd_cons (sd_if (td_w (wd_or (td_not (td_val (ed_cb (k_isi K rfl) sc_isi rfl h.b_isinstance rfl (ad_cons (ed_var (pv 0)) (ad_cons (ed_ty rfl h.b_tuple rfl) (ad_nil)))))) (wd_or1 (td_cmp (k_ne K rfl hr.units) sr_ne (ed_cb (k_len K rfl) sc_len rfl h.b_len rfl (ad_cons (ed_var (pv 0)) (ad_nil))) (ed_int) (nomark _))))) (bd_one (sd_ret (ed_bl))) (bd_nil))
    (bd_cons (sd_asg (ed_var (pv 0)) (gd_tupK K rfl rfl (gsd_cons (gd_name (i := 2) sc_is_fault.nd rfl (Or.inl rfl)) (gsd_cons (gd_name (i := 3) sc_is_fault.nd rfl (Or.inl rfl)) (gsd_cons (gd_name (i := 4) sc_is_fault.nd rfl (Or.inl rfl)) (gsd_nil))))))
    (bd_cons (sd_if (td_w (wd_or (td_not (td_val (ed_callK K rfl (k := 2) ((ok_is_number h).mono (by decide)) hr rfl h.g_is_number h.F_is_number.kp (b_is_number h) pass0 (ad_cons (ed_var (pv 2)) (ad_cons (ed_int) (ad_cons (ed_bin op_sub sr_sub (ed_var (pv 1)) (ed_int)) (ad_nil))))))) (wd_or1 (td_not (td_val (ed_callK K rfl (k := 2) ((ok_is_number h).mono (by decide)) hr rfl h.g_is_number h.F_is_number.kp (b_is_number h) pass0 (ad_cons (ed_var (pv 3)) (ad_cons (ed_bin (k_add K rfl) sr_add (ed_var (pv 2)) (ed_int)) (ad_cons (ed_bin op_sub sr_sub (ed_var (pv 1)) (ed_int)) (ad_nil)))))))))) (bd_one (sd_ret (ed_bl))) (bd_nil))
    (bd_one (sd_ret (ed_and (ed_cb (k_isi K rfl) sc_isi rfl h.b_isinstance rfl (ad_cons (ed_var (pv 4)) (ad_cons (ed_ty rfl h.b_str rfl) (ad_nil)))) (ed_one (ed_cmp (k_in K rfl) (sr_in false) (ed_var (pv 4)) (ed_gtupK K rfl h.c_WAYS rfl) (by with_unfolding_all rfl)))))))), body_is_fault⟩
def N_shows_faults : List Str := ["plan", "results", "faults", "certificate", "due", "many", "trials", "one", "other", "stands", "way", "trial", "fault", "stand", "sign"]
theorem sc_shows_faults : FnScope N_shows_faults ["plan", "results", "faults", "certificate"] (defScope (top 31)) := ⟨rfl, rfl, rfl, by decide +kernel, rfl, by decide +kernel, by decide +kernel⟩
theorem b_shows_faults (h : Hd K w mg) : Binds K h.fd_shows_faults ["plan", "results", "faults", "certificate"] [] := h.F_shows_faults.bindsN fun _ _ _ _ _ _ us hl => match us, hl with | [_, _, _, _], _ => rfl
theorem ok_shows_faults (h : Hd K w mg) : FnOk P w K mg base CX0 4 h.f_shows_faults h.fd_shows_faults ["plan", "results", "faults", "certificate"] (spOf K sp_shows_faults) :=
  fn_ok (N := N_shows_faults) h.F_shows_faults sc_shows_faults len_shows_faults fun cdv A outer s H E hr => ⟨_, T_shows_faults, bd_cons (sd_asg (ed_var (pv 0)) (gd_tupK K rfl rfl (gsd_cons (gd_name (i := 5) sc_shows_faults.nd rfl (Or.inr rfl)) (gsd_cons (gd_name (i := 6) sc_shows_faults.nd rfl (Or.inl rfl)) (gsd_nil)))))
    (bd_cons (sd_if (td_w (wd_or (td_cmp op_notNone sr_notN (ed_var (pv 3)) (ed_non) (nomark _)) (wd_or (td_not (td_val (ed_callK K rfl (k := 3) ((ok_is_signs h).mono (by decide)) hr rfl h.g_is_signs h.F_is_signs.kp (b_is_signs h) pass0 (ad_cons (ed_var (pv 1)) (ad_cons (ed_cb (k_len K rfl) sc_len rfl h.b_len rfl (ad_cons (ed_var (pv 6)) (ad_nil))) (ad_nil)))))) (wd_or1 (td_not (td_val (ed_cb (k_isi K rfl) sc_isi rfl h.b_isinstance rfl (ad_cons (ed_var (pv 2)) (ad_cons (ed_ty rfl h.b_tuple rfl) (ad_nil)))))))))) (bd_one (sd_ret (ed_bl))) (bd_nil))
    (bd_cons (sd_if (td_not (td_val (ed_cb (k_all K rfl rfl) sc_all rfl h.b_all rfl (ad_cons (ed_lc (own := [("fault", 12)]) (g := gName 12)  rfl sc_shows_faults.nd (id_tupK K rfl (ed_var (pv 2))) (blkOk_by (N := N_shows_faults) (sc := defScope (top 31)) (by decide +kernel)) (go_name) (fun _ _ _ _ _ => gd_name (i := 12) sc_shows_faults.nd rfl (Or.inl rfl)) (fun _ _ _ _ _ => ptd_nil) (fun _ _ _ _ _ => ed_callK K rfl (k := 3) ((ok_is_fault h).mono (by decide)) hr rfl h.g_is_fault h.F_is_fault.kp (b_is_fault h) pass0 (ad_cons (ed_var (pv 12)) (ad_cons (ed_var (pv 5)) (ad_nil))))) (ad_nil))))) (bd_one (sd_ret (ed_bl))) (bd_nil))
    (bd_cons (sd_setOwn (i := 4) sc_shows_faults.nd rfl (Or.inl rfl) (fd_lst (ad_nil)))
    (bd_cons (sd_for PassesOwn.never rfl (id_listK K rfl (ed_callK K rfl (k := 3) ((ok_pairs_of h).mono (by decide)) hr rfl h.g_pairs_of h.F_pairs_of.kp (b_pairs_of h) pass0 (ad_cons (ed_var (pv 5)) (ad_nil)))) (gd_tupK K rfl rfl (gsd_cons (gd_name (i := 7) sc_shows_faults.nd rfl (Or.inr rfl)) (gsd_cons (gd_name (i := 8) sc_shows_faults.nd rfl (Or.inr rfl)) (gsd_nil)))) (bd_cons (sd_setLc (i := 9) (own := [("trial", 11)]) (g := gName 11)  rfl sc_shows_faults.nd rfl rfl (sw_true rfl rfl rfl (by decide +kernel)) (id_listK K rfl (ed_var (pv 6))) (blkOk_by (N := N_shows_faults) (sc := defScope (top 31)) (by decide +kernel)) (go_name) (fun _ _ _ _ _ => gd_name (i := 11) sc_shows_faults.nd rfl (Or.inl rfl)) (fun _ _ _ _ _ => ptd_nil) (fun _ _ _ _ _ => ed_bin (k_add K rfl) sr_add (ed_ix (k_ix K rfl) sr_ix (ed_var (pv 11)) (ed_var (pv 7))) (ed_ix (k_ix K rfl) sr_ix (ed_var (pv 11)) (ed_var (pv 8)))))
    (bd_one (sd_for PassesOwn.never rfl (id_tupK K rfl (ed_gtupK K rfl h.c_WAYS rfl)) (gd_name (i := 10) sc_shows_faults.nd rfl (Or.inr rfl)) (bd_one (sd_if (td_val (ed_cb (k_all K rfl rfl) sc_all rfl h.b_all rfl (ad_cons (ed_lc (own := [("stand", 13), ("sign", 14)]) (g := gTup K 2 (gCons (gName 13) (gCons (gName 14) (gNil))))  rfl sc_shows_faults.nd (id_zip (K := K) rfl rfl h.b_zip (ad_cons (ed_var (pv 9)) (ad_cons (ed_var (pv 1)) (ad_nil)))) (blkOk_by (N := N_shows_faults) (sc := defScope (top 31)) (by decide +kernel)) (go_tup (gso_cons (go_name) (gso_cons (go_name) (gso_nil)))) (fun _ _ _ _ _ => gd_tupK K rfl rfl (gsd_cons (gd_name (i := 13) sc_shows_faults.nd rfl (Or.inl rfl)) (gsd_cons (gd_name (i := 14) sc_shows_faults.nd rfl (Or.inl rfl)) (gsd_nil)))) (fun _ _ _ _ _ => ptd_nil) (fun _ _ _ _ _ => ed_cmp (k_eq K rfl hr.units) sr_eq (ed_cmp (k_eq K rfl hr.units) sr_eq (ed_var (pv 13)) (ed_var (pv 10)) (nomark _)) (ed_cmp (k_eq K rfl hr.units) sr_eq (ed_var (pv 14)) (ed_str) (nomark _)) (nomark _))) (ad_nil)))) (bd_one (sd_app (pv 4) (ed_tup (ad_cons (ed_var (pv 7)) (ad_cons (ed_var (pv 8)) (ad_cons (ed_var (pv 10)) (ad_nil))))))) (bd_nil)))))))
    (bd_frz 4 (bd_one (sd_ret (ed_cmp (k_eq K rfl hr.units) sr_eq (ed_ct (k_lst K rfl) sc_lst rfl h.b_list rfl (ad_cons (ed_var (pv 2)) (ad_nil))) (ed_var (pv 4)) (nomark _))))))))), body_shows_faults⟩
def N_accepts : List Str := ["claim", "certificate", "word", "ways", "plan"]
theorem sc_accepts : FnScope N_accepts ["claim", "certificate"] (defScope (top 34)) := ⟨rfl, rfl, rfl, by decide +kernel, rfl, by decide +kernel, by decide +kernel⟩
theorem b_accepts (h : Hd K w mg) : Binds K h.fd_accepts ["claim", "certificate"] [] := h.F_accepts.bindsN fun _ _ _ _ _ _ us hl => match us, hl with | [_, _], _ => rfl
theorem ok_accepts (h : Hd K w mg) : FnOk P w K mg base CX0 5 h.f_accepts h.fd_accepts ["claim", "certificate"] (spOf K sp_accepts) :=
  fn_ok (N := N_accepts) h.F_accepts sc_accepts len_accepts fun cdv A outer s H E hr => ⟨_, T_accepts, bd_cons (sd_if (td_w (wd_or (td_not (td_val (ed_cb (k_isi K rfl) sc_isi rfl h.b_isinstance rfl (ad_cons (ed_var (pv 0)) (ad_cons (ed_ty rfl h.b_tuple rfl) (ad_nil)))))) (wd_or (td_cmp (k_eq K rfl hr.units) sr_eq (ed_cb (k_len K rfl) sc_len rfl h.b_len rfl (ad_cons (ed_var (pv 0)) (ad_nil))) (ed_int) (nomark _)) (wd_or1 (td_not (td_val (ed_cb (k_isi K rfl) sc_isi rfl h.b_isinstance rfl (ad_cons (ed_ix (k_ix K rfl) sr_ix (ed_var (pv 0)) (ed_int)) (ad_cons (ed_ty rfl h.b_str rfl) (ad_nil)))))))))) (bd_one (sd_ret (ed_bl))) (bd_nil))
    (bd_cons (sd_set (i := 2) sc_accepts.nd rfl (Or.inl rfl) (ed_ix (k_ix K rfl) sr_ix (ed_var (pv 0)) (ed_int)))
    (bd_cons (sd_if (td_cmp (k_ne K rfl hr.units) sr_ne (ed_wgetK K rfl rfl h.c_SIZES (ed_ref rfl h.a_SIZES) (ed_var (pv 2)) (ed_int) ⟨by rfl, by rfl, by rfl, by rfl⟩) (ed_cb (k_len K rfl) sc_len rfl h.b_len rfl (ad_cons (ed_var (pv 0)) (ad_nil))) (nomark _)) (bd_one (sd_ret (ed_bl))) (bd_nil))
    (bd_cons (sd_if (td_cmp (k_eq K rfl hr.units) sr_eq (ed_var (pv 2)) (ed_str) (nomark _)) (bd_cons (sd_set (i := 4) sc_accepts.nd rfl (Or.inl rfl) (ed_callK K rfl (k := 4) ((ok_plan_in h).mono (by decide)) hr rfl h.g_plan_in h.F_plan_in.kp (b_plan_in h) pass0 (ad_cons (ed_ix (k_ix K rfl) sr_ix (ed_var (pv 0)) (ed_int)) (ad_nil))))
    (bd_one (sd_ret (ed_and (ed_cmp op_notNone sr_notN (ed_var (pv 4)) (ed_non) (nomark _)) (ed_one (ed_callK K rfl (k := 4) ((ok_shows_faults h).mono (by decide)) hr rfl h.g_shows_faults h.F_shows_faults.kp (b_shows_faults h) pass0 (ad_cons (ed_var (pv 4)) (ad_cons (ed_ix (k_ix K rfl) sr_ix (ed_var (pv 0)) (ed_int)) (ad_cons (ed_ix (k_ix K rfl) sr_ix (ed_var (pv 0)) (ed_int)) (ad_cons (ed_var (pv 1)) (ad_nil))))))))))) (bd_nil))
    (bd_never)))), body_accepts⟩
def N__law_take : List Str := ["_law_purse_here", "_law_many", "_law_digit"]
theorem sc__law_take : FnScope N__law_take ["_law_purse_here", "_law_many"] (defScope (top 37)) := ⟨rfl, rfl, rfl, by decide +kernel, rfl, by decide +kernel, by decide +kernel⟩
theorem b__law_take (h : Hd K w mg) : Binds K h.fd__law_take ["_law_purse_here", "_law_many"] [] := h.F__law_take.bindsN fun _ _ _ _ _ _ us hl => match us, hl with | [_, _], _ => rfl
theorem ok__law_take (h : Hd K w mg) : FnOk P w K mg base CX0 1 h.f__law_take h.fd__law_take ["_law_purse_here", "_law_many"] (spOf K sp_law_take) :=
  fn_ok (N := N__law_take) h.F__law_take sc__law_take len__law_take fun cdv A outer s H E hr => ⟨_, T__law_take, bd_cons (sd_if (td_cmp op_gt sr_gt (ed_pur (K := K) rfl (ed_var (pv 0)) (ed_int)) (ed_int) (nomark _)) (bd_cons (sd_set (i := 2) sc__law_take.nd rfl (Or.inl rfl) (ed_bin op_mod sr_mod (ed_ct call_intI sc_int rfl h.b_int rfl (ad_cons (ed_pur (K := K) rfl (ed_var (pv 0)) (ed_int)) (ad_nil))) (ed_var (pv 1))))
    (bd_cons (sd_asg (ed_bin op_fdiv sr_fdiv (ed_pur (K := K) rfl (ed_var (pv 0)) (ed_int)) (ed_var (pv 1))) (gd_pur (ed_var (pv 0)) (ed_int)))
    (bd_one (sd_ret (ed_var (pv 2)))))) (bd_nil))
    (bd_cons (sd_asg (ed_bin op_mod sr_mod (ed_ct call_intI sc_int rfl h.b_int rfl (ad_cons (ed_bin (k_add K rfl) sr_add (ed_bin op_mulAll sr_mulAll (ed_pur (K := K) rfl (ed_var (pv 0)) (ed_int)) (ed_int)) (ed_int)) (ad_nil))) (ed_int)) (gd_pur (ed_var (pv 0)) (ed_int)))
    (bd_one (sd_ret (ed_bin op_mod sr_mod (ed_ct call_intI sc_int rfl h.b_int rfl (ad_cons (ed_bin (k_add K rfl) sr_add (ed_bin op_fdiv sr_fdiv (ed_pur (K := K) rfl (ed_var (pv 0)) (ed_int)) (ed_int)) (ed_bin op_fdiv sr_fdiv (ed_pur (K := K) rfl (ed_var (pv 0)) (ed_int)) (ed_int))) (ad_nil))) (ed_var (pv 1)))))), body__law_take⟩
def N__law_purse : List Str := ["_law_script", "_law_k", "_law_cell", "_law_state", "_law_one"]
theorem sc__law_purse : FnScope N__law_purse ["_law_script", "_law_k"] (defScope (top 36)) := ⟨rfl, rfl, rfl, by decide +kernel, rfl, by decide +kernel, by decide +kernel⟩
theorem b__law_purse (h : Hd K w mg) : Binds K h.fd__law_purse ["_law_script", "_law_k"] [] := h.F__law_purse.bindsN fun _ _ _ _ _ _ us hl => match us, hl with | [_, _], _ => rfl
theorem ok__law_purse (h : Hd K w mg) : FnOk P w K mg base CX0 1 h.f__law_purse h.fd__law_purse ["_law_script", "_law_k"] (spOf K sp_law_purse) :=
  fn_ok (N := N__law_purse) h.F__law_purse sc__law_purse len__law_purse fun cdv A outer s H E hr => ⟨_, T__law_purse, bd_cons (sd_set (i := 2) sc__law_purse.nd rfl (Or.inl rfl) (ed_if (td_cmp op_lt sr_lt (ed_var (pv 1)) (ed_cb (k_len K rfl) sc_len rfl h.b_len rfl (ad_cons (ed_var (pv 0)) (ad_nil))) (nomark _)) (ed_ct call_intI sc_int rfl h.b_int rfl (ad_cons (ed_ix (k_ix K rfl) sr_ix (ed_var (pv 0)) (ed_var (pv 1))) (ad_nil))) (ed_bin (k_add K rfl) sr_add (ed_bin op_mulAll sr_mulAll (ed_bin op_mulAll sr_mulAll (ed_int) (ed_var (pv 1))) (ed_var (pv 1))) (ed_int))))
    (bd_cons (sd_set (i := 3) sc__law_purse.nd rfl (Or.inl rfl) (ed_bin (k_add K rfl) sr_add (ed_int) (ed_bin op_mulAll sr_mulAll (ed_int) (ed_var (pv 1)))))
    (bd_cons (sd_for PassesOwn.never rfl (id_listK K rfl (ed_bin (k_add K rfl) sr_add (ed_slice (k_sl K rfl) ss_all (ed_var (pv 0)) (od_none) (od_some (ed_int))) (ed_lst (ad_cons (ed_var (pv 2)) (ad_nil))))) (gd_name (i := 4) sc__law_purse.nd rfl (Or.inl rfl)) (bd_cons (sd_set (i := 3) sc__law_purse.nd rfl (Or.inl rfl) (ed_bin (k_add K rfl) sr_add (ed_bin (k_add K rfl) sr_add (ed_bin op_mulAll sr_mulAll (ed_var (pv 3)) (ed_int)) (ed_bin op_mod sr_mod (ed_ct call_intI sc_int rfl h.b_int rfl (ad_cons (ed_var (pv 4)) (ad_nil))) (ed_int))) (ed_ct call_intI sc_int rfl h.b_int rfl (ad_cons (ed_cmp op_lt sr_lt (ed_var (pv 4)) (ed_int) (nomark _)) (ad_nil)))))
    (bd_one (sd_set (i := 3) sc__law_purse.nd rfl (Or.inl rfl) (ed_bin op_mod sr_mod (ed_ct call_intI sc_int rfl h.b_int rfl (ad_cons (ed_var (pv 3)) (ad_nil))) (ed_int))))))
    (bd_one (sd_retP (fd_lst (ad_cons (ed_if (td_cmp op_ge sr_ge (ed_cb call_absI sc_abs rfl h.b_abs rfl (ad_cons (ed_var (pv 2)) (ad_nil))) (ed_bin op_pow sr_pow (ed_int) (ed_int)) (nomark _)) (ed_cb call_absI sc_abs rfl h.b_abs rfl (ad_cons (ed_var (pv 2)) (ad_nil))) (ed_int)) (ad_cons (ed_var (pv 3)) (ad_nil)))))))), body__law_purse⟩
def N__law_plan_line : List Str := ["_law_many", "_law_rows"]
theorem sc__law_plan_line : FnScope N__law_plan_line ["_law_many", "_law_rows"] (defScope (top 38)) := ⟨rfl, rfl, rfl, by decide +kernel, rfl, by decide +kernel, by decide +kernel⟩
theorem b__law_plan_line (h : Hd K w mg) : Binds K h.fd__law_plan_line ["_law_many", "_law_rows"] [] := h.F__law_plan_line.bindsN fun _ _ _ _ _ _ us hl => match us, hl with | [_, _], _ => rfl
theorem ok__law_plan_line (h : Hd K w mg) : FnOk P w K mg base CX0 1 h.f__law_plan_line h.fd__law_plan_line ["_law_many", "_law_rows"] (spOf K sp_law_plan_line) :=
  fn_ok (N := N__law_plan_line) h.F__law_plan_line sc__law_plan_line len__law_plan_line fun cdv A outer s H E hr => ⟨_, T__law_plan_line, bd_one (sd_ret (ed_bmK K rfl PySem.F.plainAttrs_str PySem.F.slot_str_join PySem.F.type_str_join (k_join K rfl) sm_join (ed_str) (ad_cons (ed_bin (k_add K rfl) sr_add (ed_lst (ad_cons (ed_bin (k_add K rfl) sr_add (ed_ct call_strI sc_str rfl h.b_str rfl (ad_cons (ed_var (pv 0)) (ad_nil))) (ed_str)) (ad_nil))) (ed_var (pv 1))) (ad_nil)))), body__law_plan_line⟩
def N__law_pairs : List Str := ["_law_many", "_law_found", "_law_i", "_law_j"]
theorem sc__law_pairs : FnScope N__law_pairs ["_law_many"] (defScope (top 39)) := ⟨rfl, rfl, rfl, by decide +kernel, rfl, by decide +kernel, by decide +kernel⟩
theorem b__law_pairs (h : Hd K w mg) : Binds K h.fd__law_pairs ["_law_many"] [] := h.F__law_pairs.bindsN fun _ _ _ _ _ _ us hl => match us, hl with | [_], _ => rfl
theorem ok__law_pairs (h : Hd K w mg) : FnOk P w K mg base CX0 1 h.f__law_pairs h.fd__law_pairs ["_law_many"] (spOf K sp_law_pairs) :=
  fn_ok (N := N__law_pairs) h.F__law_pairs sc__law_pairs len__law_pairs fun cdv A outer s H E hr => ⟨_, T__law_pairs, bd_cons (sd_setOwn (i := 1) sc__law_pairs.nd rfl (Or.inl rfl) (fd_lst (ad_nil)))
    (bd_cons (sd_for PassesOwn.never rfl (id_range1 rfl h.b_range (ad_cons (ed_var (pv 0)) (ad_nil))) (gd_name (i := 2) sc__law_pairs.nd rfl (Or.inr rfl)) (bd_one (sd_ext (pv 1) (ed_lc (own := [("_law_j", 3)]) (g := gName 3)  rfl sc__law_pairs.nd (id_range2 rfl h.b_range (ad_cons (ed_bin (k_add K rfl) sr_add (ed_var (pv 2)) (ed_int)) (ad_cons (ed_var (pv 0)) (ad_nil)))) (blkOk_by (N := N__law_pairs) (sc := defScope (top 39)) (by decide +kernel)) (go_name) (fun _ _ _ _ _ => gd_name (i := 3) sc__law_pairs.nd rfl (Or.inl rfl)) (fun _ _ _ _ _ => ptd_nil) (fun _ _ _ _ _ => ed_tup (ad_cons (ed_var (pv 2)) (ad_cons (ed_var (pv 3)) (ad_nil))))))))
    (bd_frz 1 (bd_one (sd_ret (ed_var (pv 1)))))), body__law_pairs⟩
def N__law_row : List Str := ["_law_purse_here", "_law_many", "_law_found", "_law_turn"]
theorem sc__law_row : FnScope N__law_row ["_law_purse_here", "_law_many"] (defScope (top 40)) := ⟨rfl, rfl, rfl, by decide +kernel, rfl, by decide +kernel, by decide +kernel⟩
theorem b__law_row (h : Hd K w mg) : Binds K h.fd__law_row ["_law_purse_here", "_law_many"] [] := h.F__law_row.bindsN fun _ _ _ _ _ _ us hl => match us, hl with | [_, _], _ => rfl
theorem ok__law_row (h : Hd K w mg) : FnOk P w K mg base CX0 2 h.f__law_row h.fd__law_row ["_law_purse_here", "_law_many"] (spOf K sp_law_row) :=
  fn_ok (N := N__law_row) h.F__law_row sc__law_row len__law_row fun cdv A outer s H E hr => ⟨_, T__law_row, bd_cons (sd_set (i := 2) sc__law_row.nd rfl (Or.inl rfl) (ed_str))
    (bd_cons (sd_for PassesOwn.never rfl (id_range1 rfl h.b_range (ad_cons (ed_var (pv 1)) (ad_nil))) (gd_name (i := 3) sc__law_row.nd rfl (Or.inl rfl)) (bd_one (sd_set (i := 2) sc__law_row.nd rfl (Or.inl rfl) (ed_bin (k_add K rfl) sr_add (ed_var (pv 2)) (ed_ix (k_ix K rfl) sr_ix (ed_str) (ed_callK K rfl (k := 1) ((ok__law_take h).mono (by decide)) hr rfl h.g__law_take h.F__law_take.kp (b__law_take h) pass0 (ad_cons (ed_var (pv 0)) (ad_cons (ed_int) (ad_nil)))))))))
    (bd_one (sd_ret (ed_var (pv 2))))), body__law_row⟩
def N__law_some_plan : List Str := ["_law_purse_here", "_law_form", "_law_many", "_law_deep", "_law_rows", "_law_turn"]
theorem sc__law_some_plan : FnScope N__law_some_plan ["_law_purse_here"] (defScope (top 41)) := ⟨rfl, rfl, rfl, by decide +kernel, rfl, by decide +kernel, by decide +kernel⟩
theorem b__law_some_plan (h : Hd K w mg) : Binds K h.fd__law_some_plan ["_law_purse_here"] [] := h.F__law_some_plan.bindsN fun _ _ _ _ _ _ us hl => match us, hl with | [_], _ => rfl
theorem ok__law_some_plan (h : Hd K w mg) : FnOk P w K mg base CX0 3 h.f__law_some_plan h.fd__law_some_plan ["_law_purse_here"] (spOf K sp_law_some_plan) :=
  fn_ok (N := N__law_some_plan) h.F__law_some_plan sc__law_some_plan len__law_some_plan fun cdv A outer s H E hr => ⟨_, T__law_some_plan, bd_cons (sd_set (i := 1) sc__law_some_plan.nd rfl (Or.inl rfl) (ed_callK K rfl (k := 2) ((ok__law_take h).mono (by decide)) hr rfl h.g__law_take h.F__law_take.kp (b__law_take h) pass0 (ad_cons (ed_var (pv 0)) (ad_cons (ed_int) (ad_nil)))))
    (bd_cons (sd_set (i := 2) sc__law_some_plan.nd rfl (Or.inl rfl) (ed_bin (k_add K rfl) sr_add (ed_int) (ed_callK K rfl (k := 2) ((ok__law_take h).mono (by decide)) hr rfl h.g__law_take h.F__law_take.kp (b__law_take h) pass0 (ad_cons (ed_var (pv 0)) (ad_cons (ed_ix (k_ix K rfl) sr_ix (ed_lst (ad_cons (ed_int) (ad_cons (ed_int) (ad_cons (ed_int) (ad_cons (ed_int) (ad_cons (ed_int) (ad_cons (ed_int) (ad_cons (ed_int) (ad_cons (ed_int) (ad_nil)))))))))) (ed_var (pv 1))) (ad_nil))))))
    (bd_cons (sd_set (i := 3) sc__law_some_plan.nd rfl (Or.inl rfl) (ed_callK K rfl (k := 2) ((ok__law_take h).mono (by decide)) hr rfl h.g__law_take h.F__law_take.kp (b__law_take h) pass0 (ad_cons (ed_var (pv 0)) (ad_cons (ed_ix (k_ix K rfl) sr_ix (ed_lst (ad_cons (ed_int) (ad_cons (ed_int) (ad_cons (ed_int) (ad_cons (ed_int) (ad_cons (ed_int) (ad_cons (ed_int) (ad_cons (ed_int) (ad_cons (ed_int) (ad_nil)))))))))) (ed_var (pv 1))) (ad_nil)))))
    (bd_cons (sd_setOwn (i := 4) sc__law_some_plan.nd rfl (Or.inl rfl) (fd_lst (ad_nil)))
    (bd_cons (sd_for PassesOwn.never rfl (id_range1 rfl h.b_range (ad_cons (ed_var (pv 3)) (ad_nil))) (gd_name (i := 5) sc__law_some_plan.nd rfl (Or.inl rfl)) (bd_one (sd_app (pv 4) (ed_callK K rfl (k := 2) ((ok__law_row h).mono (by decide)) hr rfl h.g__law_row h.F__law_row.kp (b__law_row h) pass0 (ad_cons (ed_var (pv 0)) (ad_cons (ed_var (pv 2)) (ad_nil)))))))
    (bd_frz 4 (bd_cons (sd_if (td_cmp (k_eq K rfl hr.units) sr_eq (ed_var (pv 1)) (ed_int) (nomark _)) (bd_one (sd_set (i := 4) sc__law_some_plan.nd rfl (Or.inl rfl) (ed_bin (k_add K rfl) sr_add (ed_var (pv 4)) (ed_ix (k_ix K rfl) sr_ix (ed_lst (ad_cons (ed_lst (ad_nil)) (ad_cons (ed_lst (ad_cons (ed_bin op_mulAll sr_mulAll (ed_str) (ed_var (pv 2))) (ad_nil))) (ad_cons (ed_lst (ad_cons (ed_bin op_mulAll sr_mulAll (ed_str) (ed_var (pv 2))) (ad_nil))) (ad_cons (ed_lst (ad_cons (ed_bin op_mulAll sr_mulAll (ed_str) (ed_var (pv 2))) (ad_cons (ed_bin op_mulAll sr_mulAll (ed_str) (ed_var (pv 2))) (ad_nil)))) (ad_nil)))))) (ed_callK K rfl (k := 2) ((ok__law_take h).mono (by decide)) hr rfl h.g__law_take h.F__law_take.kp (b__law_take h) pass0 (ad_cons (ed_var (pv 0)) (ad_cons (ed_int) (ad_nil)))))))) (bd_nil))
    (bd_one (sd_ret (ed_tup (ad_cons (ed_var (pv 2)) (ad_cons (ed_var (pv 4)) (ad_nil)))))))))))), body__law_some_plan⟩
def N__law_judged : List Str := ["_law_asked", "_law_paper", "_law_due", "_law_told"]
theorem sc__law_judged : FnScope N__law_judged ["_law_asked", "_law_paper", "_law_due"] (defScope (top 42)) := ⟨rfl, rfl, rfl, by decide +kernel, rfl, by decide +kernel, by decide +kernel⟩
theorem b__law_judged (h : Hd K w mg) : Binds K h.fd__law_judged ["_law_asked", "_law_paper", "_law_due"] [] := h.F__law_judged.bindsN fun _ _ _ _ _ _ us hl => match us, hl with | [_, _, _], _ => rfl
theorem ok__law_judged (h : Hd K w mg) : FnOk P w K mg base CX0 6 h.f__law_judged h.fd__law_judged ["_law_asked", "_law_paper", "_law_due"] (spOf K sp_law_judged) :=
  fn_ok (N := N__law_judged) h.F__law_judged sc__law_judged len__law_judged fun cdv A outer s H E hr => ⟨_, T__law_judged, bd_cons (sd_set (i := 3) sc__law_judged.nd rfl (Or.inl rfl) (ed_callK K rfl (k := 5) ((ok_accepts h).mono (by decide)) hr rfl h.g_accepts h.F_accepts.kp (b_accepts h) pass0 (ad_cons (ed_var (pv 0)) (ad_cons (ed_var (pv 1)) (ad_nil)))))
    (bd_one (sd_ret (ed_and (ed_cb (k_isi K rfl) sc_isi rfl h.b_isinstance rfl (ad_cons (ed_var (pv 3)) (ad_cons (ed_ty rfl h.b_bool rfl) (ad_nil)))) (ed_one (ed_cmp (k_eq K rfl hr.units) sr_eq (ed_var (pv 3)) (ed_var (pv 2)) (nomark _)))))), body__law_judged⟩
def N__law_results : List Str := ["_law_rows", "_law_fault", "_law_i", "_law_j", "_law_sign", "_law_row_here"]
theorem sc__law_results : FnScope N__law_results ["_law_rows", "_law_fault"] (defScope (top 43)) := ⟨rfl, rfl, rfl, by decide +kernel, rfl, by decide +kernel, by decide +kernel⟩
theorem b__law_results (h : Hd K w mg) : Binds K h.fd__law_results ["_law_rows", "_law_fault"] [] := h.F__law_results.bindsN fun _ _ _ _ _ _ us hl => match us, hl with | [_, _], _ => rfl
theorem ok__law_results (h : Hd K w mg) : FnOk P w K mg base CX0 1 h.f__law_results h.fd__law_results ["_law_rows", "_law_fault"] (spOf K sp_law_results) :=
  fn_ok (N := N__law_results) h.F__law_results sc__law_results len__law_results fun cdv A outer s H E hr => ⟨_, T__law_results, bd_cons (sd_asg (ed_var (pv 1)) (gd_tupK K rfl rfl (gsd_cons (gd_name (i := 2) sc__law_results.nd rfl (Or.inr rfl)) (gsd_cons (gd_name (i := 3) sc__law_results.nd rfl (Or.inr rfl)) (gsd_cons (gd_name (i := 4) sc__law_results.nd rfl (Or.inr rfl)) (gsd_nil))))))
    (bd_one (sd_ret (ed_bmK K rfl PySem.F.plainAttrs_str PySem.F.slot_str_join PySem.F.type_str_join (k_join K rfl) sm_join (ed_str) (ad_cons (ed_lc (own := [("_law_row_here", 5)]) (g := gName 5)  rfl sc__law_results.nd (id_listK K rfl (ed_var (pv 0))) (blkOk_by (N := N__law_results) (sc := defScope (top 43)) (by decide +kernel)) (go_name) (fun _ _ _ _ _ => gd_name (i := 5) sc__law_results.nd rfl (Or.inl rfl)) (fun _ _ _ _ _ => ptd_nil) (fun _ _ _ _ _ => ed_if (td_cmp (k_eq K rfl hr.units) sr_eq (ed_bin (k_add K rfl) sr_add (ed_ix (k_ix K rfl) sr_ix (ed_var (pv 5)) (ed_var (pv 2))) (ed_ix (k_ix K rfl) sr_ix (ed_var (pv 5)) (ed_var (pv 3)))) (ed_var (pv 4)) (nomark _)) (ed_str) (ed_str))) (ad_nil))))), body__law_results⟩
def N__law_faults : List Str := ["_law_many", "_law_found", "_law_i", "_law_j", "_law_sign"]
theorem sc__law_faults : FnScope N__law_faults ["_law_many"] (defScope (top 44)) := ⟨rfl, rfl, rfl, by decide +kernel, rfl, by decide +kernel, by decide +kernel⟩
theorem b__law_faults (h : Hd K w mg) : Binds K h.fd__law_faults ["_law_many"] [] := h.F__law_faults.bindsN fun _ _ _ _ _ _ us hl => match us, hl with | [_], _ => rfl
theorem ok__law_faults (h : Hd K w mg) : FnOk P w K mg base CX0 2 h.f__law_faults h.fd__law_faults ["_law_many"] (spOf K sp_law_faults) :=
  fn_ok (N := N__law_faults) h.F__law_faults sc__law_faults len__law_faults fun cdv A outer s H E hr => ⟨_, T__law_faults, bd_cons (sd_setOwn (i := 1) sc__law_faults.nd rfl (Or.inl rfl) (fd_lst (ad_nil)))
    (bd_cons (sd_for PassesOwn.never rfl (id_listK K rfl (ed_callK K rfl (k := 1) ((ok__law_pairs h).mono (by decide)) hr rfl h.g__law_pairs h.F__law_pairs.kp (b__law_pairs h) pass0 (ad_cons (ed_var (pv 0)) (ad_nil)))) (gd_tupK K rfl rfl (gsd_cons (gd_name (i := 2) sc__law_faults.nd rfl (Or.inr rfl)) (gsd_cons (gd_name (i := 3) sc__law_faults.nd rfl (Or.inr rfl)) (gsd_nil)))) (bd_one (sd_ext (pv 1) (ed_lc (own := [("_law_sign", 4)]) (g := gName 4)  rfl sc__law_faults.nd (id_listK K rfl (ed_lst (ad_cons (ed_str) (ad_cons (ed_str) (ad_cons (ed_str) (ad_cons (ed_str) (ad_nil))))))) (blkOk_by (N := N__law_faults) (sc := defScope (top 44)) (by decide +kernel)) (go_name) (fun _ _ _ _ _ => gd_name (i := 4) sc__law_faults.nd rfl (Or.inl rfl)) (fun _ _ _ _ _ => ptd_nil) (fun _ _ _ _ _ => ed_tup (ad_cons (ed_var (pv 2)) (ad_cons (ed_var (pv 3)) (ad_cons (ed_var (pv 4)) (ad_nil)))))))))
    (bd_frz 1 (bd_one (sd_ret (ed_var (pv 1)))))), body__law_faults⟩
def N__law_is_right : List Str := ["_law_rows", "_law_table", "_law_line", "_law_told", "_law_value", "_law_sign", "_law_at", "_law_fault", "_law_made"]
theorem sc__law_is_right : FnScope N__law_is_right ["_law_rows", "_law_table", "_law_line", "_law_told"] (defScope (top 45)) := ⟨rfl, rfl, rfl, by decide +kernel, rfl, by decide +kernel, by decide +kernel⟩
theorem b__law_is_right (h : Hd K w mg) : Binds K h.fd__law_is_right ["_law_rows", "_law_table", "_law_line", "_law_told"] [] := h.F__law_is_right.bindsN fun _ _ _ _ _ _ us hl => match us, hl with | [_, _, _, _], _ => rfl
theorem ok__law_is_right (h : Hd K w mg) : FnOk P w K mg base CX0 1 h.f__law_is_right h.fd__law_is_right ["_law_rows", "_law_table", "_law_line", "_law_told"] (spOf K sp_law_is_right) :=
  fn_ok (N := N__law_is_right) h.F__law_is_right sc__law_is_right len__law_is_right fun cdv A outer s H E hr => ⟨_, T__law_is_right, bd_cons (sd_if (td_w (wd_or (td_not (td_val (ed_cb (k_isi K rfl) sc_isi rfl h.b_isinstance rfl (ad_cons (ed_var (pv 2)) (ad_cons (ed_ty rfl h.b_str rfl) (ad_nil)))))) (wd_or (td_cmp (k_ne K rfl hr.units) sr_ne (ed_cb (k_len K rfl) sc_len rfl h.b_len rfl (ad_cons (ed_var (pv 2)) (ad_nil))) (ed_cb (k_len K rfl) sc_len rfl h.b_len rfl (ad_cons (ed_var (pv 0)) (ad_nil))) (nomark _)) (wd_or1 (td_not (td_val (ed_cb (k_isi K rfl) sc_isi rfl h.b_isinstance rfl (ad_cons (ed_var (pv 3)) (ad_cons (ed_ty rfl h.b_tuple rfl) (ad_nil)))))))))) (bd_one (sd_ret (ed_bl))) (bd_nil))
    (bd_cons (sd_if (td_val (ed_cb (k_any K rfl rfl) sc_any rfl h.b_any rfl (ad_cons (ed_lc (own := [("_law_sign", 5)]) (g := gName 5)  rfl sc__law_is_right.nd (id_str (ed_var (pv 2))) (blkOk_by (N := N__law_is_right) (sc := defScope (top 45)) (by decide +kernel)) (go_name) (fun _ _ _ _ _ => gd_name (i := 5) sc__law_is_right.nd rfl (Or.inl rfl)) (fun _ _ _ _ _ => ptd_nil) (fun _ _ _ _ _ => ed_cmp (k_notIn K rfl) (sr_in true) (ed_var (pv 5)) (ed_lst (ad_cons (ed_str) (ad_cons (ed_str) (ad_nil)))) (by with_unfolding_all rfl))) (ad_nil)))) (bd_one (sd_ret (ed_bl))) (bd_nil))
    (bd_cons (sd_for PassesOwn.never rfl (id_tupK K rfl (ed_var (pv 3))) (gd_name (i := 4) sc__law_is_right.nd rfl (Or.inl rfl)) (bd_cons (sd_if (td_w (wd_or (td_not (td_val (ed_cb (k_isi K rfl) sc_isi rfl h.b_isinstance rfl (ad_cons (ed_var (pv 4)) (ad_cons (ed_ty rfl h.b_tuple rfl) (ad_nil)))))) (wd_or1 (td_cmp (k_ne K rfl hr.units) sr_ne (ed_cb (k_len K rfl) sc_len rfl h.b_len rfl (ad_cons (ed_var (pv 4)) (ad_nil))) (ed_int) (nomark _))))) (bd_one (sd_ret (ed_bl))) (bd_nil))
    (bd_one (sd_if (td_val (ed_cb (k_any K rfl rfl) sc_any rfl h.b_any rfl (ad_cons (ed_lc (own := [("_law_at", 6)]) (g := gName 6)  rfl sc__law_is_right.nd (id_tupK K rfl (ed_slice (k_sl K rfl) ss_all (ed_var (pv 4)) (od_none) (od_some (ed_int)))) (blkOk_by (N := N__law_is_right) (sc := defScope (top 45)) (by decide +kernel)) (go_name) (fun _ _ _ _ _ => gd_name (i := 6) sc__law_is_right.nd rfl (Or.inl rfl)) (fun _ _ _ _ _ => ptd_nil) (fun _ _ _ _ _ => ed_or (ed_not (ed_cb (k_isi K rfl) sc_isi rfl h.b_isinstance rfl (ad_cons (ed_var (pv 6)) (ad_cons (ed_ty rfl h.b_int rfl) (ad_nil))))) (ed_one (ed_cb (k_isi K rfl) sc_isi rfl h.b_isinstance rfl (ad_cons (ed_var (pv 6)) (ad_cons (ed_ty rfl h.b_bool rfl) (ad_nil))))))) (ad_nil)))) (bd_one (sd_ret (ed_bl))) (bd_nil)))))
    (bd_one (sd_ret (ed_cmp (k_eq K rfl hr.units) sr_eq (ed_ct (k_lst K rfl) sc_lst rfl h.b_list rfl (ad_cons (ed_var (pv 3)) (ad_nil))) (ed_lc (own := [("_law_fault", 7), ("_law_made", 8)]) (g := gTup K 2 (gCons (gName 7) (gCons (gName 8) (gNil))))  rfl sc__law_is_right.nd (id_listK K rfl (ed_var (pv 1))) (blkOk_by (N := N__law_is_right) (sc := defScope (top 45)) (by decide +kernel)) (go_tup (gso_cons (go_name) (gso_cons (go_name) (gso_nil)))) (fun _ _ _ _ _ => gd_tupK K rfl rfl (gsd_cons (gd_name (i := 7) sc__law_is_right.nd rfl (Or.inl rfl)) (gsd_cons (gd_name (i := 8) sc__law_is_right.nd rfl (Or.inl rfl)) (gsd_nil)))) (fun _ _ _ _ _ => ptd_one (td_cmp (k_eq K rfl hr.units) sr_eq (ed_var (pv 8)) (ed_var (pv 2)) (nomark _))) (fun _ _ _ _ _ => ed_var (pv 7))) (nomark _)))))), body__law_is_right⟩
def N__law_near : List Str := ["_law_purse_here", "_law_told", "_law_faults_here", "_law_found", "_law_fault", "_law_at", "_law_near_here", "_law_value", "_law_i", "_law_j", "_law_sign"]
theorem sc__law_near : FnScope N__law_near ["_law_purse_here", "_law_told", "_law_faults_here"] (defScope (top 46)) := ⟨rfl, rfl, rfl, by decide +kernel, rfl, by decide +kernel, by decide +kernel⟩
theorem b__law_near (h : Hd K w mg) : Binds K h.fd__law_near ["_law_purse_here", "_law_told", "_law_faults_here"] [] := h.F__law_near.bindsN fun _ _ _ _ _ _ us hl => match us, hl with | [_, _, _], _ => rfl
theorem ok__law_near (h : Hd K w mg) : FnOk P w K mg base CX0 2 h.f__law_near h.fd__law_near ["_law_purse_here", "_law_told", "_law_faults_here"] (spOf K sp_law_near) :=
  fn_ok (N := N__law_near) h.F__law_near sc__law_near len__law_near fun cdv A outer s H E hr => ⟨_, T__law_near, bd_cons (sd_setOwn (i := 3) sc__law_near.nd rfl (Or.inl rfl) (fd_lst (ad_cons (ed_ct (k_lst K rfl) sc_lst rfl h.b_list rfl (ad_cons (ed_var (pv 1)) (ad_nil))) (ad_cons (ed_bin (k_add K rfl) sr_add (ed_var (pv 1)) (ed_tup (ad_cons (ed_non) (ad_nil)))) (ad_cons (ed_bin (k_add K rfl) sr_add (ed_var (pv 1)) (ed_tup (ad_cons (ed_tup (ad_nil)) (ad_nil)))) (ad_cons (ed_non) (ad_cons (ed_tup (ad_nil)) (ad_cons (ed_revA (K := K) rfl (ed_var (pv 1))) (ad_cons (ed_tup (ad_cons (ed_var (pv 1)) (ad_nil))) (ad_cons (ed_bin (k_add K rfl) sr_add (ed_var (pv 1)) (ed_var (pv 1))) (ad_nil)))))))))))
    (bd_cons (sd_if (td_cmp (k_eq K rfl hr.units) sr_eq (ed_var (pv 2)) (ed_lst (ad_nil)) (nomark _)) (bd_frz 3 (bd_one (sd_ret (ed_var (pv 3))))) (bd_nil))
    (bd_cons (sd_set (i := 4) sc__law_near.nd rfl (Or.inl rfl) (ed_ix (k_ix K rfl) sr_ix (ed_var (pv 2)) (ed_callK K rfl (k := 1) ((ok__law_take h).mono (by decide)) hr rfl h.g__law_take h.F__law_take.kp (b__law_take h) pass0 (ad_cons (ed_var (pv 0)) (ad_cons (ed_cb (k_len K rfl) sc_len rfl h.b_len rfl (ad_cons (ed_var (pv 2)) (ad_nil))) (ad_nil))))))
    (bd_frz 3 (bd_cons (sd_setOwn (i := 3) sc__law_near.nd rfl (Or.inl rfl) (fd_cat (ed_var (pv 3)) (ed_lst (ad_cons (ed_bin (k_add K rfl) sr_add (ed_var (pv 1)) (ed_tup (ad_cons (ed_var (pv 4)) (ad_nil)))) (ad_cons (ed_bin (k_add K rfl) sr_add (ed_tup (ad_cons (ed_var (pv 4)) (ad_nil))) (ed_var (pv 1))) (ad_cons (ed_ct (k_tup K rfl) sc_tup rfl h.b_tuple rfl (ad_cons (ed_cb (k_sorted K rfl) sc_sorted rfl h.b_sorted rfl (ad_cons (ed_bin (k_add K rfl) sr_add (ed_var (pv 1)) (ed_tup (ad_cons (ed_var (pv 4)) (ad_nil)))) (ad_nil))) (ad_nil))) (ad_nil)))))))
    (bd_cons (sd_if (td_cmp (k_eq K rfl hr.units) sr_eq (ed_var (pv 1)) (ed_tup (ad_nil)) (nomark _)) (bd_frz 3 (bd_one (sd_ret (ed_var (pv 3))))) (bd_nil))
    (bd_cons (sd_set (i := 5) sc__law_near.nd rfl (Or.inl rfl) (ed_callK K rfl (k := 1) ((ok__law_take h).mono (by decide)) hr rfl h.g__law_take h.F__law_take.kp (b__law_take h) pass0 (ad_cons (ed_var (pv 0)) (ad_cons (ed_cb (k_len K rfl) sc_len rfl h.b_len rfl (ad_cons (ed_var (pv 1)) (ad_nil))) (ad_nil)))))
    (bd_cons (sd_asg (ed_ix (k_ix K rfl) sr_ix (ed_var (pv 1)) (ed_var (pv 5))) (gd_tupK K rfl rfl (gsd_cons (gd_name (i := 8) sc__law_near.nd rfl (Or.inl rfl)) (gsd_cons (gd_name (i := 9) sc__law_near.nd rfl (Or.inl rfl)) (gsd_cons (gd_name (i := 10) sc__law_near.nd rfl (Or.inl rfl)) (gsd_nil))))))
    (bd_cons (sd_set (i := 6) sc__law_near.nd rfl (Or.inl rfl) (ed_lst (ad_cons (ed_var (pv 4)) (ad_cons (ed_tup (ad_cons (ed_cmp (k_eq K rfl hr.units) sr_eq (ed_var (pv 8)) (ed_int) (nomark _)) (ad_cons (ed_var (pv 9)) (ad_cons (ed_var (pv 10)) (ad_nil))))) (ad_cons (ed_tup (ad_cons (ed_var (pv 8)) (ad_cons (ed_cmp (k_eq K rfl hr.units) sr_eq (ed_var (pv 9)) (ed_int) (nomark _)) (ad_cons (ed_var (pv 10)) (ad_nil))))) (ad_cons (ed_tup (ad_cons (ed_var (pv 9)) (ad_cons (ed_var (pv 8)) (ad_cons (ed_revA (K := K) rfl (ed_var (pv 10))) (ad_nil))))) (ad_cons (ed_tup (ad_cons (ed_var (pv 8)) (ad_cons (ed_var (pv 9)) (ad_nil)))) (ad_cons (ed_lst (ad_cons (ed_var (pv 8)) (ad_cons (ed_var (pv 9)) (ad_cons (ed_var (pv 10)) (ad_nil))))) (ad_cons (ed_tup (ad_cons (ed_var (pv 8)) (ad_cons (ed_var (pv 9)) (ad_cons (ed_bin (k_add K rfl) sr_add (ed_var (pv 10)) (ed_str)) (ad_nil))))) (ad_nil))))))))))
    (bd_cons (sd_for PassesOwn.never rfl (id_listK K rfl (ed_bin (k_add K rfl) sr_add (ed_var (pv 6)) (ed_lst (ad_cons (ed_tup (ad_cons (ed_var (pv 8)) (ad_cons (ed_var (pv 9)) (ad_cons (ed_non) (ad_nil))))) (ad_cons (ed_tup (ad_cons (ed_bin op_sub sr_sub (ed_var (pv 8)) (ed_int)) (ad_cons (ed_var (pv 9)) (ad_cons (ed_var (pv 10)) (ad_nil))))) (ad_cons (ed_non) (ad_cons (ed_tup (ad_cons (ed_var (pv 8)) (ad_cons (ed_var (pv 9)) (ad_cons (ed_var (pv 10)) (ad_cons (ed_var (pv 10)) (ad_nil)))))) (ad_cons (ed_var (pv 10)) (ad_nil))))))))) (gd_name (i := 7) sc__law_near.nd rfl (Or.inl rfl)) (bd_one (sd_app (pv 3) (ed_bin (k_add K rfl) sr_add (ed_bin (k_add K rfl) sr_add (ed_slice (k_sl K rfl) ss_all (ed_var (pv 1)) (od_none) (od_some (ed_var (pv 5)))) (ed_tup (ad_cons (ed_var (pv 7)) (ad_nil)))) (ed_slice (k_sl K rfl) ss_all (ed_var (pv 1)) (od_some (ed_bin (k_add K rfl) sr_add (ed_var (pv 5)) (ed_int))) (od_none))))))
    (bd_frz 3 (bd_one (sd_ret (ed_bin (k_add K rfl) sr_add (ed_var (pv 3)) (ed_lst (ad_cons (ed_bin (k_add K rfl) sr_add (ed_slice (k_sl K rfl) ss_all (ed_var (pv 1)) (od_none) (od_some (ed_var (pv 5)))) (ed_slice (k_sl K rfl) ss_all (ed_var (pv 1)) (od_some (ed_bin (k_add K rfl) sr_add (ed_var (pv 5)) (ed_int))) (od_none))) (ad_cons (ed_bin (k_add K rfl) sr_add (ed_bin (k_add K rfl) sr_add (ed_slice (k_sl K rfl) ss_all (ed_var (pv 1)) (od_none) (od_some (ed_var (pv 5)))) (ed_revA (K := K) rfl (ed_slice (k_sl K rfl) ss_all (ed_var (pv 1)) (od_some (ed_var (pv 5))) (od_some (ed_bin (k_add K rfl) sr_add (ed_var (pv 5)) (ed_int)))))) (ed_slice (k_sl K rfl) ss_all (ed_var (pv 1)) (od_some (ed_bin (k_add K rfl) sr_add (ed_var (pv 5)) (ed_int))) (od_none))) (ad_nil))))))))))))))))), body__law_near⟩
def N__law_lines : List Str := ["_law_purse_here", "_law_rows", "_law_faults_here", "_law_found", "_law_turn", "_law_line", "_law_at"]
theorem sc__law_lines : FnScope N__law_lines ["_law_purse_here", "_law_rows", "_law_faults_here"] (defScope (top 47)) := ⟨rfl, rfl, rfl, by decide +kernel, rfl, by decide +kernel, by decide +kernel⟩
theorem b__law_lines (h : Hd K w mg) : Binds K h.fd__law_lines ["_law_purse_here", "_law_rows", "_law_faults_here"] [] := h.F__law_lines.bindsN fun _ _ _ _ _ _ us hl => match us, hl with | [_, _, _], _ => rfl
theorem ok__law_lines (h : Hd K w mg) : FnOk P w K mg base CX0 3 h.f__law_lines h.fd__law_lines ["_law_purse_here", "_law_rows", "_law_faults_here"] (spOf K sp_law_lines) :=
  fn_ok (N := N__law_lines) h.F__law_lines sc__law_lines len__law_lines fun cdv A outer s H E hr => ⟨_, T__law_lines, bd_cons (sd_setOwn (i := 3) sc__law_lines.nd rfl (Or.inl rfl) (fd_lst (ad_cons (ed_callK K rfl (k := 2) ((ok__law_row h).mono (by decide)) hr rfl h.g__law_row h.F__law_row.kp (b__law_row h) pass0 (ad_cons (ed_var (pv 0)) (ad_cons (ed_cb (k_len K rfl) sc_len rfl h.b_len rfl (ad_cons (ed_var (pv 1)) (ad_nil))) (ad_nil)))) (ad_nil))))
    (bd_cons (sd_for PassesOwn.never rfl (id_range1 rfl h.b_range (ad_cons (ed_if (td_cmp (k_ne K rfl hr.units) sr_ne (ed_var (pv 2)) (ed_lst (ad_nil)) (nomark _)) (ed_int) (ed_int)) (ad_nil))) (gd_name (i := 4) sc__law_lines.nd rfl (Or.inl rfl)) (bd_one (sd_app (pv 3) (ed_callK K rfl (k := 2) ((ok__law_results h).mono (by decide)) hr rfl h.g__law_results h.F__law_results.kp (b__law_results h) pass0 (ad_cons (ed_var (pv 1)) (ad_cons (ed_ix (k_ix K rfl) sr_ix (ed_var (pv 2)) (ed_callK K rfl (k := 2) ((ok__law_take h).mono (by decide)) hr rfl h.g__law_take h.F__law_take.kp (b__law_take h) pass0 (ad_cons (ed_var (pv 0)) (ad_cons (ed_cb (k_len K rfl) sc_len rfl h.b_len rfl (ad_cons (ed_var (pv 2)) (ad_nil))) (ad_nil))))) (ad_nil)))))))
    (bd_frz 3 (bd_cons (sd_par (i := 5) (j := 6) rfl sc__law_lines.nd rfl rfl (by decide) rfl rfl (ad_cons (ed_ix (k_ix K rfl) sr_ix (ed_var (pv 3)) (ed_neg (ed_int))) (ad_cons (ed_callK K rfl (k := 2) ((ok__law_take h).mono (by decide)) hr rfl h.g__law_take h.F__law_take.kp (b__law_take h) pass0 (ad_cons (ed_var (pv 0)) (ad_cons (ed_bin (k_add K rfl) sr_add (ed_cb (k_len K rfl) sc_len rfl h.b_len rfl (ad_cons (ed_var (pv 1)) (ad_nil))) (ed_int)) (ad_nil)))) (ad_nil))) rfl)
    (bd_one (sd_ret (ed_bin (k_add K rfl) sr_add (ed_var (pv 3)) (ed_lst (ad_cons (ed_bin (k_add K rfl) sr_add (ed_bin (k_add K rfl) sr_add (ed_slice (k_sl K rfl) ss_all (ed_var (pv 5)) (od_none) (od_some (ed_var (pv 6)))) (ed_str)) (ed_slice (k_sl K rfl) ss_all (ed_var (pv 5)) (od_some (ed_var (pv 6))) (od_none))) (ad_cons (ed_bin (k_add K rfl) sr_add (ed_slice (k_sl K rfl) ss_all (ed_var (pv 5)) (od_none) (od_some (ed_var (pv 6)))) (ed_slice (k_sl K rfl) ss_all (ed_var (pv 5)) (od_some (ed_bin (k_add K rfl) sr_add (ed_var (pv 6)) (ed_int))) (od_none))) (ad_cons (ed_bin (k_add K rfl) sr_add (ed_bin (k_add K rfl) sr_add (ed_slice (k_sl K rfl) ss_all (ed_var (pv 5)) (od_none) (od_some (ed_var (pv 6)))) (ed_str)) (ed_slice (k_sl K rfl) ss_all (ed_var (pv 5)) (od_some (ed_bin (k_add K rfl) sr_add (ed_var (pv 6)) (ed_int))) (od_none))) (ad_nil))))))))))), body__law_lines⟩
def N__law_right : List Str := ["_law_purse_here", "_law_table", "_law_lines_here", "_law_line", "_law_told", "_law_near_here", "_law_other", "_law_value", "_law_many", "_law_rows", "_law_faults_here", "_law_text", "_law_fault", "_law_made"]
theorem sc__law_right : FnScope N__law_right ["_law_purse_here"] (defScope (top 48)) := ⟨rfl, rfl, rfl, by decide +kernel, rfl, by decide +kernel, by decide +kernel⟩
theorem b__law_right (h : Hd K w mg) : Binds K h.fd__law_right ["_law_purse_here"] [] := h.F__law_right.bindsN fun _ _ _ _ _ _ us hl => match us, hl with | [_], _ => rfl
theorem ok__law_right (h : Hd K w mg) : FnOk P w K mg base CX0 7 h.f__law_right h.fd__law_right ["_law_purse_here"] (spOf K sp_law_right) :=
  fn_ok (N := N__law_right) h.F__law_right sc__law_right len__law_right fun cdv A outer s H E hr => ⟨_, T__law_right, bd_cons (sd_asg (ed_callK K rfl (k := 6) ((ok__law_some_plan h).mono (by decide)) hr rfl h.g__law_some_plan h.F__law_some_plan.kp (b__law_some_plan h) pass0 (ad_cons (ed_var (pv 0)) (ad_nil))) (gd_tupK K rfl rfl (gsd_cons (gd_name (i := 8) sc__law_right.nd rfl (Or.inl rfl)) (gsd_cons (gd_name (i := 9) sc__law_right.nd rfl (Or.inr rfl)) (gsd_nil)))))
    (bd_cons (sd_par (i := 10) (j := 11) rfl sc__law_right.nd rfl rfl (by decide) rfl rfl (ad_cons (ed_callK K rfl (k := 6) ((ok__law_faults h).mono (by decide)) hr rfl h.g__law_faults h.F__law_faults.kp (b__law_faults h) pass0 (ad_cons (ed_var (pv 8)) (ad_nil))) (ad_cons (ed_callK K rfl (k := 6) ((ok__law_plan_line h).mono (by decide)) hr rfl h.g__law_plan_line h.F__law_plan_line.kp (b__law_plan_line h) pass0 (ad_cons (ed_var (pv 8)) (ad_cons (ed_var (pv 9)) (ad_nil)))) (ad_nil))) rfl)
    (bd_cons (sd_setLc (i := 1) (own := [("_law_fault", 12)]) (g := gName 12)  rfl sc__law_right.nd rfl rfl (sw_true rfl rfl rfl (by decide +kernel)) (id_listK K rfl (ed_var (pv 10))) (blkOk_by (N := N__law_right) (sc := defScope (top 48)) (by decide +kernel)) (go_name) (fun _ _ _ _ _ => gd_name (i := 12) sc__law_right.nd rfl (Or.inl rfl)) (fun _ _ _ _ _ => ptd_nil) (fun _ _ _ _ _ => ed_tup (ad_cons (ed_var (pv 12)) (ad_cons (ed_callK K rfl (k := 6) ((ok__law_results h).mono (by decide)) hr rfl h.g__law_results h.F__law_results.kp (b__law_results h) pass0 (ad_cons (ed_var (pv 9)) (ad_cons (ed_var (pv 12)) (ad_nil)))) (ad_nil)))))
    (bd_cons (sd_set (i := 2) sc__law_right.nd rfl (Or.inl rfl) (ed_callK K rfl (k := 6) ((ok__law_lines h).mono (by decide)) hr rfl h.g__law_lines h.F__law_lines.kp (b__law_lines h) pass0 (ad_cons (ed_var (pv 0)) (ad_cons (ed_var (pv 9)) (ad_cons (ed_var (pv 10)) (ad_nil))))))
    (bd_cons (sd_for PassesOwn.never rfl (id_listK K rfl (ed_bin (k_add K rfl) sr_add (ed_if (td_cmp op_le sr_le (ed_var (pv 8)) (ed_int) (nomark _)) (ed_var (pv 2)) (ed_slice (k_sl K rfl) ss_all (ed_var (pv 2)) (od_none) (od_some (ed_int)))) (ed_lst (ad_cons (ed_non) (ad_cons (ed_int) (ad_cons (ed_bl) (ad_cons (ed_tup (ad_nil)) (ad_cons (ed_bin op_mulAll sr_mulAll (ed_lst (ad_cons (ed_str) (ad_nil))) (ed_cb (k_len K rfl) sc_len rfl h.b_len rfl (ad_cons (ed_var (pv 9)) (ad_nil)))) (ad_nil))))))))) (gd_name (i := 3) sc__law_right.nd rfl (Or.inr rfl)) (bd_cons (sd_set (i := 4) sc__law_right.nd rfl (Or.inl rfl) (ed_ct (k_tup K rfl) sc_tup rfl h.b_tuple rfl (ad_cons (ed_lc (own := [("_law_fault", 12), ("_law_made", 13)]) (g := gTup K 2 (gCons (gName 12) (gCons (gName 13) (gNil))))  rfl sc__law_right.nd (id_listK K rfl (ed_var (pv 1))) (blkOk_by (N := N__law_right) (sc := defScope (top 48)) (by decide +kernel)) (go_tup (gso_cons (go_name) (gso_cons (go_name) (gso_nil)))) (fun _ _ _ _ _ => gd_tupK K rfl rfl (gsd_cons (gd_name (i := 12) sc__law_right.nd rfl (Or.inl rfl)) (gsd_cons (gd_name (i := 13) sc__law_right.nd rfl (Or.inl rfl)) (gsd_nil)))) (fun _ _ _ _ _ => ptd_one (td_cmp (k_eq K rfl hr.units) sr_eq (ed_var (pv 13)) (ed_var (pv 3)) (nomark _))) (fun _ _ _ _ _ => ed_var (pv 12))) (ad_nil))))
    (bd_one (sd_if (td_not (td_val (ed_callK K rfl (k := 6) ((ok__law_judged h).mono (by decide)) hr rfl h.g__law_judged h.F__law_judged.kp (b__law_judged h) pass0 (ad_cons (ed_tup (ad_cons (ed_str) (ad_cons (ed_var (pv 11)) (ad_cons (ed_var (pv 3)) (ad_cons (ed_var (pv 4)) (ad_nil)))))) (ad_cons (ed_non) (ad_cons (ed_callK K rfl (k := 6) ((ok__law_is_right h).mono (by decide)) hr rfl h.g__law_is_right h.F__law_is_right.kp (b__law_is_right h) pass0 (ad_cons (ed_var (pv 9)) (ad_cons (ed_var (pv 1)) (ad_cons (ed_var (pv 3)) (ad_cons (ed_var (pv 4)) (ad_nil)))))) (ad_nil))))))) (bd_one (sd_ret (ed_bl))) (bd_nil)))))
    (bd_cons (sd_set (i := 3) sc__law_right.nd rfl (Or.inr rfl) (ed_if (td_cmp (k_ne K rfl hr.units) sr_ne (ed_var (pv 10)) (ed_lst (ad_nil)) (nomark _)) (ed_ix (k_ix K rfl) sr_ix (ed_var (pv 2)) (ed_int)) (ed_ix (k_ix K rfl) sr_ix (ed_var (pv 2)) (ed_int))))
    (bd_cons (sd_set (i := 4) sc__law_right.nd rfl (Or.inl rfl) (ed_ct (k_tup K rfl) sc_tup rfl h.b_tuple rfl (ad_cons (ed_lc (own := [("_law_fault", 12), ("_law_made", 13)]) (g := gTup K 2 (gCons (gName 12) (gCons (gName 13) (gNil))))  rfl sc__law_right.nd (id_listK K rfl (ed_var (pv 1))) (blkOk_by (N := N__law_right) (sc := defScope (top 48)) (by decide +kernel)) (go_tup (gso_cons (go_name) (gso_cons (go_name) (gso_nil)))) (fun _ _ _ _ _ => gd_tupK K rfl rfl (gsd_cons (gd_name (i := 12) sc__law_right.nd rfl (Or.inl rfl)) (gsd_cons (gd_name (i := 13) sc__law_right.nd rfl (Or.inl rfl)) (gsd_nil)))) (fun _ _ _ _ _ => ptd_one (td_cmp (k_eq K rfl hr.units) sr_eq (ed_var (pv 13)) (ed_var (pv 3)) (nomark _))) (fun _ _ _ _ _ => ed_var (pv 12))) (ad_nil))))
    (bd_cons (sd_set (i := 5) sc__law_right.nd rfl (Or.inl rfl) (ed_callK K rfl (k := 6) ((ok__law_near h).mono (by decide)) hr rfl h.g__law_near h.F__law_near.kp (b__law_near h) pass0 (ad_cons (ed_var (pv 0)) (ad_cons (ed_var (pv 4)) (ad_cons (ed_var (pv 10)) (ad_nil))))))
    (bd_cons (sd_for PassesOwn.never rfl (id_listK K rfl (ed_if (td_cmp op_le sr_le (ed_var (pv 8)) (ed_int) (nomark _)) (ed_var (pv 5)) (ed_slice (k_sl K rfl) ss_all (ed_var (pv 5)) (od_some (ed_neg (ed_int))) (od_none)))) (gd_name (i := 6) sc__law_right.nd rfl (Or.inl rfl)) (bd_one (sd_if (td_not (td_val (ed_callK K rfl (k := 6) ((ok__law_judged h).mono (by decide)) hr rfl h.g__law_judged h.F__law_judged.kp (b__law_judged h) pass0 (ad_cons (ed_tup (ad_cons (ed_str) (ad_cons (ed_var (pv 11)) (ad_cons (ed_var (pv 3)) (ad_cons (ed_var (pv 6)) (ad_nil)))))) (ad_cons (ed_non) (ad_cons (ed_callK K rfl (k := 6) ((ok__law_is_right h).mono (by decide)) hr rfl h.g__law_is_right h.F__law_is_right.kp (b__law_is_right h) pass0 (ad_cons (ed_var (pv 9)) (ad_cons (ed_var (pv 1)) (ad_cons (ed_var (pv 3)) (ad_cons (ed_var (pv 6)) (ad_nil)))))) (ad_nil))))))) (bd_one (sd_ret (ed_bl))) (bd_nil))))
    (bd_cons (sd_for PassesOwn.never rfl (id_listK K rfl (ed_lst (ad_cons (ed_tup (ad_nil)) (ad_cons (ed_int) (ad_cons (ed_bl) (ad_cons (ed_bl) (ad_cons (ed_str) (ad_cons (ed_var (pv 3)) (ad_cons (ed_var (pv 4)) (ad_cons (ed_lst (ad_cons (ed_non) (ad_nil))) (ad_cons (ed_str) (ad_nil)))))))))))) (gd_name (i := 7) sc__law_right.nd rfl (Or.inl rfl)) (bd_one (sd_if (td_not (td_val (ed_callK K rfl (k := 6) ((ok__law_judged h).mono (by decide)) hr rfl h.g__law_judged h.F__law_judged.kp (b__law_judged h) pass0 (ad_cons (ed_tup (ad_cons (ed_str) (ad_cons (ed_var (pv 11)) (ad_cons (ed_var (pv 3)) (ad_cons (ed_var (pv 4)) (ad_nil)))))) (ad_cons (ed_var (pv 7)) (ad_cons (ed_bl) (ad_nil))))))) (bd_one (sd_ret (ed_bl))) (bd_nil))))
    (bd_one (sd_ret (ed_bl)))))))))))), body__law_right⟩
def N_law : List Str := ["_law_script", "_law_k"]
theorem sc_law : FnScope N_law ["_law_script"] (defScope (top 49)) := ⟨rfl, rfl, rfl, by decide +kernel, rfl, by decide +kernel, by decide +kernel⟩
theorem b_law (h : Hd K w mg) : Binds K h.fd_law ["_law_script"] [] := h.F_law.bindsN fun _ _ _ _ _ _ us hl => match us, hl with | [_], _ => rfl
theorem ok_law (h : Hd K w mg) : FnOk P w K mg base CX0 8 h.f_law h.fd_law ["_law_script"] (spOf K sp_law) :=
  fn_ok (N := N_law) h.F_law sc_law len_law fun cdv A outer s H E hr => ⟨_, T_law, bd_cons (sd_for PassesOwn.never rfl (id_range1 rfl h.b_range (ad_cons (ed_cb (call_maxI rfl) sc_max rfl h.b_max rfl (ad_cons (ed_int) (ad_cons (ed_cb (call_minI rfl) sc_min rfl h.b_min rfl (ad_cons (ed_cb (k_len K rfl) sc_len rfl h.b_len rfl (ad_cons (ed_var (pv 0)) (ad_nil))) (ad_cons (ed_int) (ad_nil)))) (ad_nil)))) (ad_nil))) (gd_name (i := 1) sc_law.nd rfl (Or.inl rfl)) (bd_one (sd_if (td_not (td_val (ed_callK K rfl (k := 7) ((ok__law_right h).mono (by decide)) hr rfl h.g__law_right h.F__law_right.kp (b__law_right h) pass0 (ad_cons (ed_callK K rfl (k := 7) ((ok__law_purse h).mono (by decide)) hr rfl h.g__law_purse h.F__law_purse.kp (b__law_purse h) pass0 (ad_cons (ed_var (pv 0)) (ad_cons (ed_var (pv 1)) (ad_nil)))) (ad_nil))))) (bd_one (sd_ret (ed_bl))) (bd_nil))))
    (bd_one (sd_ret (ed_bl))), body_law⟩
end
theorem mkHd {w : World} {K : PySem.W.Frag} {h h' : Heap} {mg : Str → Option Value} (X : K.In h) (G : h.Ns mainGlobals mg) (c : He.SaysX fa fn ts [] ex w h' K) : ∃ _ : Hd K w mg, True := by
  obtain ⟨fd_is_integer, F_is_integer⟩ := c.t.d.def_ 0 (d := dd "is_integer" 7) rfl
  obtain ⟨fd_is_number, F_is_number⟩ := c.t.d.def_ 1 (d := dd "is_number" 8) rfl
  obtain ⟨fd_is_signs, F_is_signs⟩ := c.t.d.def_ 2 (d := dd "is_signs" 9) rfl
  obtain ⟨fd_plan_in, F_plan_in⟩ := c.t.d.def_ 3 (d := dd "plan_in" 12) rfl
  obtain ⟨fd_pairs_of, F_pairs_of⟩ := c.t.d.def_ 4 (d := dd "pairs_of" 13) rfl
  obtain ⟨fd_is_fault, F_is_fault⟩ := c.t.d.def_ 5 (d := dd "is_fault" 16) rfl
  obtain ⟨fd_shows_faults, F_shows_faults⟩ := c.t.d.def_ 6 (d := dd "shows_faults" 31) rfl
  obtain ⟨fd_accepts, F_accepts⟩ := c.t.d.def_ 7 (d := dd "accepts" 34) rfl
  obtain ⟨fd__law_take, F__law_take⟩ := c.t.d.def_ 8 (d := dd "_law_take" 37) rfl
  obtain ⟨fd__law_purse, F__law_purse⟩ := c.t.d.def_ 9 (d := dd "_law_purse" 36) rfl
  obtain ⟨fd__law_plan_line, F__law_plan_line⟩ := c.t.d.def_ 10 (d := dd "_law_plan_line" 38) rfl
  obtain ⟨fd__law_pairs, F__law_pairs⟩ := c.t.d.def_ 11 (d := dd "_law_pairs" 39) rfl
  obtain ⟨fd__law_row, F__law_row⟩ := c.t.d.def_ 12 (d := dd "_law_row" 40) rfl
  obtain ⟨fd__law_some_plan, F__law_some_plan⟩ := c.t.d.def_ 13 (d := dd "_law_some_plan" 41) rfl
  obtain ⟨fd__law_judged, F__law_judged⟩ := c.t.d.def_ 14 (d := dd "_law_judged" 42) rfl
  obtain ⟨fd__law_results, F__law_results⟩ := c.t.d.def_ 15 (d := dd "_law_results" 43) rfl
  obtain ⟨fd__law_faults, F__law_faults⟩ := c.t.d.def_ 16 (d := dd "_law_faults" 44) rfl
  obtain ⟨fd__law_is_right, F__law_is_right⟩ := c.t.d.def_ 17 (d := dd "_law_is_right" 45) rfl
  obtain ⟨fd__law_near, F__law_near⟩ := c.t.d.def_ 18 (d := dd "_law_near" 46) rfl
  obtain ⟨fd__law_lines, F__law_lines⟩ := c.t.d.def_ 19 (d := dd "_law_lines" 47) rfl
  obtain ⟨fd__law_right, F__law_right⟩ := c.t.d.def_ 20 (d := dd "_law_right" 48) rfl
  obtain ⟨fd_law, F_law⟩ := c.t.d.def_ 21 (d := dd "law" 49) rfl
  obtain ⟨m1, m2⟩ := He.ba c.more
  have tw := fun H => rep_strs (xs := WAYSZ) (He.tupB_ok m1 H) (by decide) (by decide +kernel)
  have ts1 := wdic_of SIZESV (tab_at c.t 0 (t := ((fun K => He.ga K "SIZES"), SIZESV.map (·.1))) rfl) m2
  exact ⟨{ f_is_integer := He.ga K "is_integer", fd_is_integer := fd_is_integer, F_is_integer := F_is_integer, g_is_integer := He.glo_ok X G (c.t.d.fact 0 (f := .glo "is_integer") rfl), f_is_number := He.ga K "is_number", fd_is_number := fd_is_number, F_is_number := F_is_number, g_is_number := He.glo_ok X G (c.t.d.fact 1 (f := .glo "is_number") rfl), f_is_signs := He.ga K "is_signs", fd_is_signs := fd_is_signs, F_is_signs := F_is_signs, g_is_signs := He.glo_ok X G (c.t.d.fact 2 (f := .glo "is_signs") rfl), f_plan_in := He.ga K "plan_in", fd_plan_in := fd_plan_in, F_plan_in := F_plan_in, g_plan_in := He.glo_ok X G (c.t.d.fact 3 (f := .glo "plan_in") rfl), f_pairs_of := He.ga K "pairs_of", fd_pairs_of := fd_pairs_of, F_pairs_of := F_pairs_of, g_pairs_of := He.glo_ok X G (c.t.d.fact 4 (f := .glo "pairs_of") rfl), f_is_fault := He.ga K "is_fault", fd_is_fault := fd_is_fault, F_is_fault := F_is_fault, g_is_fault := He.glo_ok X G (c.t.d.fact 5 (f := .glo "is_fault") rfl), f_shows_faults := He.ga K "shows_faults", fd_shows_faults := fd_shows_faults, F_shows_faults := F_shows_faults, g_shows_faults := He.glo_ok X G (c.t.d.fact 6 (f := .glo "shows_faults") rfl), f_accepts := He.ga K "accepts", fd_accepts := fd_accepts, F_accepts := F_accepts, g_accepts := He.glo_ok X G (c.t.d.fact 7 (f := .glo "accepts") rfl), f__law_take := He.ga K "_law_take", fd__law_take := fd__law_take, F__law_take := F__law_take, g__law_take := He.glo_ok X G (c.t.d.fact 8 (f := .glo "_law_take") rfl), f__law_purse := He.ga K "_law_purse", fd__law_purse := fd__law_purse, F__law_purse := F__law_purse, g__law_purse := He.glo_ok X G (c.t.d.fact 9 (f := .glo "_law_purse") rfl), f__law_plan_line := He.ga K "_law_plan_line", fd__law_plan_line := fd__law_plan_line, F__law_plan_line := F__law_plan_line, g__law_plan_line := He.glo_ok X G (c.t.d.fact 10 (f := .glo "_law_plan_line") rfl), f__law_pairs := He.ga K "_law_pairs", fd__law_pairs := fd__law_pairs, F__law_pairs := F__law_pairs, g__law_pairs := He.glo_ok X G (c.t.d.fact 11 (f := .glo "_law_pairs") rfl), f__law_row := He.ga K "_law_row", fd__law_row := fd__law_row, F__law_row := F__law_row, g__law_row := He.glo_ok X G (c.t.d.fact 12 (f := .glo "_law_row") rfl), f__law_some_plan := He.ga K "_law_some_plan", fd__law_some_plan := fd__law_some_plan, F__law_some_plan := F__law_some_plan, g__law_some_plan := He.glo_ok X G (c.t.d.fact 13 (f := .glo "_law_some_plan") rfl), f__law_judged := He.ga K "_law_judged", fd__law_judged := fd__law_judged, F__law_judged := F__law_judged, g__law_judged := He.glo_ok X G (c.t.d.fact 14 (f := .glo "_law_judged") rfl), f__law_results := He.ga K "_law_results", fd__law_results := fd__law_results, F__law_results := F__law_results, g__law_results := He.glo_ok X G (c.t.d.fact 15 (f := .glo "_law_results") rfl), f__law_faults := He.ga K "_law_faults", fd__law_faults := fd__law_faults, F__law_faults := F__law_faults, g__law_faults := He.glo_ok X G (c.t.d.fact 16 (f := .glo "_law_faults") rfl), f__law_is_right := He.ga K "_law_is_right", fd__law_is_right := fd__law_is_right, F__law_is_right := F__law_is_right, g__law_is_right := He.glo_ok X G (c.t.d.fact 17 (f := .glo "_law_is_right") rfl), f__law_near := He.ga K "_law_near", fd__law_near := fd__law_near, F__law_near := F__law_near, g__law_near := He.glo_ok X G (c.t.d.fact 18 (f := .glo "_law_near") rfl), f__law_lines := He.ga K "_law_lines", fd__law_lines := fd__law_lines, F__law_lines := F__law_lines, g__law_lines := He.glo_ok X G (c.t.d.fact 19 (f := .glo "_law_lines") rfl), f__law_right := He.ga K "_law_right", fd__law_right := fd__law_right, F__law_right := F__law_right, g__law_right := He.glo_ok X G (c.t.d.fact 20 (f := .glo "_law_right") rfl), f_law := He.ga K "law", fd_law := fd_law, F_law := F_law, g_law := He.glo_ok X G (c.t.d.fact 21 (f := .glo "law") rfl), b_abs := He.free_ok X G (c.t.d.fact 22 (f := .free "abs") rfl), b_all := He.free_ok X G (c.t.d.fact 23 (f := .free "all") rfl), b_any := He.free_ok X G (c.t.d.fact 24 (f := .free "any") rfl), b_bool := He.free_ok X G (c.t.d.fact 25 (f := .free "bool") rfl), b_int := He.free_ok X G (c.t.d.fact 26 (f := .free "int") rfl), b_isinstance := He.free_ok X G (c.t.d.fact 27 (f := .free "isinstance") rfl), b_len := He.free_ok X G (c.t.d.fact 28 (f := .free "len") rfl), b_list := He.free_ok X G (c.t.d.fact 29 (f := .free "list") rfl), b_max := He.free_ok X G (c.t.d.fact 30 (f := .free "max") rfl), b_min := He.free_ok X G (c.t.d.fact 31 (f := .free "min") rfl), b_range := He.free_ok X G (c.t.d.fact 32 (f := .free "range") rfl), b_sorted := He.free_ok X G (c.t.d.fact 33 (f := .free "sorted") rfl), b_str := He.free_ok X G (c.t.d.fact 34 (f := .free "str") rfl), b_tuple := He.free_ok X G (c.t.d.fact 35 (f := .free "tuple") rfl), b_zip := He.free_ok X G (c.t.d.fact 36 (f := .free "zip") rfl), c_MOST_SWITCHES := He.int_ok X G (c.t.d.fact 37 (f := .int "MOST_SWITCHES" 64) rfl), c_MOST_TRIALS := He.int_ok X G (c.t.d.fact 38 (f := .int "MOST_TRIALS" 64) rfl), t_WAYS := He.ga K "WAYS", c_WAYS := ⟨He.glo_ok X G (c.t.d.fact 39 (f := .glo "WAYS") rfl), tw⟩, t_SIZES := He.ga K "SIZES", a_SIZES := He.glo_ok X G (c.t.d.fact 40 (f := .glo "SIZES") rfl), c_SIZES := ts1 }, trivial⟩
end DL
open PySem PySem.W PySem.Calls PyProof.Rows in
theorem PySem.Challenge.cw_fourways_k56_faults_judged_holds : PySem.Challenge.rw_fourways_k56_faults_judged.Holds := by
  w_on; o_law
  refine HandSHeadRun.head_any (r := OpenLaw.row PySem.Challenge.rw_fourways_k56_faults_judged) (q := view (OpenLaw.row PySem.Challenge.rw_fourways_k56_faults_judged).prog [49]) (H := DL.hk) (ob := DL.ob) (M := 1500) (loose := DL.loose) (d := HandSHeadRun.topDef (OpenLaw.row PySem.Challenge.rw_fourways_k56_faults_judged).prog 49) (kwd := []) DL.ob_eq
    (by kernel_rfl) (fun s => by kernel_rfl) DL.run (by kernel_rfl) (by kernel_rfl) (by kernel_rfl) (by rfl) (by first | assumption | decide +kernel) (by decide +kernel) ⟨rfl, rfl, rfl, rfl, rfl, by decide +kernel⟩ ?hw ?hc
  case hw => w_witness2
  case hc =>
    refine DL.walk_ofEB (l := PySem.Challenge.rw_fourways_k56_faults_judged) (n := 63) (k := 8) (x := "_law_script") (CX := L2.CX0) rfl (by decide) (by kernel_rfl) ⟨rfl, by decide, by decide⟩ ?F (fun _ _ _ _ z => z)
    intro w mg fa h Y G hmg0
    obtain ⟨K, KX, c⟩ := Y
    have hmg : mg ("law" : PySem.Str) = some (.ref fa) := by
      have e : (HandSHeadRun.topDef (OpenLaw.row PySem.Challenge.rw_fourways_k56_faults_judged).prog 49).name = ("law" : PySem.Str) := by kernel_rfl
      rw [← e]
      exact hmg0
    obtain ⟨hd, _⟩ := DL.mkHd KX G c
    have e := hmg.symm.trans hd.g_law
    cases e
    refine ⟨K, hd.fd_law, DL.spOf K DL.sp_law, KX, ?_, fun H a ns hl hb hO hS => DL.law_sp hS hl ⟨ns, rfl, hl, hb, fun _ => rfl⟩, fun base _ _ => DL.ok_law hd⟩
    have b := L2.FunD.bindsA (ps := ["_law_script"]) hd.F_law fun _ _ _ _ _ _ us hl => match us, hl with | [_], _ => rfl
    exact fun s v => b s [v] rfl
