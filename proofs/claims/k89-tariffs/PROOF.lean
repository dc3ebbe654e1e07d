import PyProof.Rows.All
import Wide.All
import OpenK.AllK
import Wide.FinOn
import HandS.ForMost
import HandS.ForExc
import HandS.Walk
import KE.DataEq
import KE.DataCmp
import HandS.TupAny
import HandS.IsInst
import HandS.SortInts
import HandS.TupLen
import HandS.Dict
import HandS.Small
import HandS.Deep
import HandS.WordsDict
import HandS.More
import HandS.Conv
import HandS.Flow
import HandS.Text
import HandS.Iter
import HandS.SetFor
import HandS.Zip
import PyProof.Rows.SortShellAny
import HandS.Style
import HandS.Gcd
import PyProof.ReprRoads
import KE.KxText
import PyProof.Rows.RegFStrParts
import PySem.Challenge.RW_piecesturned_k89_whole_tariffs_and_guara
set_option Elab.async false
set_option linter.all false
set_option maxRecDepth 100000
/-! values as trees, and how they lie in the abstract heap -/
namespace Py
open PySem PySem.Spec L2

/-- what a container is -/
inductive Tg where
  | tup | lst | dK (ks : List Key) | dT (ks : List (List Key))
/-- plain data; a node says whether it is owned here, and may be changed -/
inductive D where
  | non | bl (b : Bool) | int (i : Int) | str (x : Str) | ty (n : String)
  | node (o : Bool) (t : Tg) (xs : List D)
def ho : Tg → List V → HO
  | .tup, vs => .tup vs
  | .lst, vs => .lst vs
  | .dK ks, vs => .dK (ks.zip vs)
  | .dT ks, vs => .dT (ks.zip vs)
def Tg.wf : Tg → Nat → Prop
  | .dK ks, n => ks.length = n ∧ ks.Nodup
  | .dT ks, n => ks.length = n ∧ ks.Nodup
  | _, _ => True
def Tg.isT : Tg → Bool
  | .tup => true
  | _ => false
mutual
def frz : D → D
  | .node _ t xs => .node false t (frzL xs)
  | .non => .non
  | .bl b => .bl b
  | .int i => .int i
  | .str x => .str x
  | .ty n => .ty n
def frzL : List D → List D
  | [] => []
  | d :: ds => frz d :: frzL ds
end
mutual
/-- nothing in it that is owned elsewhere -/
def noShr : D → Bool
  | .node o t xs => (o || t.isT) && noShrL xs
  | _ => true
def noShrL : List D → Bool
  | [] => true
  | d :: ds => noShr d && noShrL ds
end
theorem frzL_eq : ∀ ds : List D, frzL ds = ds.map frz
  | [] => rfl
  | d :: ds => by rw [frzL, frzL_eq ds]; rfl
theorem noShrL_eq : ∀ ds : List D, noShrL ds = ds.all noShr
  | [] => rfl
  | d :: ds => by rw [noShrL, noShrL_eq ds]; rfl

def TupAt (K : PySem.W.Frag) (H : Hp) (a : Addr) (vs : List V) : Prop := H a = some (.tup vs)
theorem TupAt.sq {K : PySem.W.Frag} {H : Hp} {a : Addr} {vs : List V} (h : TupAt K H a vs) : SqT K H a vs := .inl (.inl h)

/-- a list of the written part -/
def KLst (K : PySem.W.Frag) (a : Addr) (xs : List V) : Prop :=
  ∃ (o : Obj) (its : Array Value) (n : Nat), K.lookup a = some o ∧ o.cls = .type "list" ∧ o.dict = none ∧ o.data = .seq its n ∧ its.size ≤ sizeLine ∧ Vals xs its.toList
mutual
/-- v stands for d in H: what is not owned lies within R, what is owned at fp -/
inductive Rep (K : PySem.W.Frag) (H : Hp) (R : Addr → Prop) : V → D → List Addr → Prop
  | non : Rep K H R .non .non []
  | bl (b : Bool) : Rep K H R (.bl b) (.bl b) []
  | int (i : Int) : Rep K H R (.int i) (.int i) []
  | str (x : Str) : Rep K H R (.str x) (.str x) []
  | ty (n : String) : Rep K H R (.ty n) (.ty n) []
  | tup {a : Addr} {vs : List V} {ds : List D} {fp : List Addr} : TupAt K H a vs → RepL K H R vs ds fp → Rep K H R (.ref a) (.node false .tup ds) fp
  | own {a : Addr} {t : Tg} {vs : List V} {ds : List D} {fp : List Addr} : t.isT = false → t.wf vs.length → H a = some (ho t vs) → RepL K H R vs ds fp → Rep K H R (.ref a) (.node true t ds) (a :: fp)
  | shr {a : Addr} {t : Tg} {vs : List V} {ds : List D} : t.isT = false → t.wf vs.length → R a → Rd H a (ho t vs) → RepL K H R vs ds [] → Rep K H R (.ref a) (.node false t ds) []
  | kst {a : Addr} {vs : List V} {ds : List D} : KLst K a vs → RepL K H R vs ds [] → Rep K H R (.ref a) (.node false .lst ds) []
inductive RepL (K : PySem.W.Frag) (H : Hp) (R : Addr → Prop) : List V → List D → List Addr → Prop
  | nil : RepL K H R [] [] []
  | cons {v : V} {vs : List V} {d : D} {ds : List D} {f g : List Addr} : Rep K H R v d f → RepL K H R vs ds g → RepL K H R (v :: vs) (d :: ds) (f ++ g)
end
section
variable {K : PySem.W.Frag} {H H' : Hp} {R R' : Addr → Prop}
mutual
theorem Rep.mono : ∀ {v : V} {d : D} {fp : List Addr}, Rep K H R v d fp → (∀ a, R a → R' a) → (∀ a, R a ∨ a ∈ fp → ∀ o, H a = some o → H' a = some o) → (∀ a vs, H a = some (.tup vs) → H' a = some (.tup vs)) → Rep K H' R' v d fp
  | _, _, _, .non, _, _, _ => .non
  | _, _, _, .bl b, _, _, _ => .bl b
  | _, _, _, .int i, _, _, _ => .int i
  | _, _, _, .str x, _, _, _ => .str x
  | _, _, _, .ty x, _, _, _ => .ty x
  | _, _, _, .tup h l, hR, hH, hT => .tup (hT _ _ h) (l.mono hR hH hT)
  | _, _, _, .own h1 h2 h3 l, hR, hH, hT => .own h1 h2 (hH _ (.inr List.mem_cons_self) _ h3) (l.mono hR (fun a ha => hH a (ha.imp id (List.mem_cons_of_mem _))) hT)
  | _, _, _, .kst h l, hR, hH, hT => .kst h (l.mono hR hH hT)
  | _, _, _, .shr h1 h2 h3 h4 l, hR, hH, hT => .shr h1 h2 (hR _ h3) (h4.elim (fun q => .inl (hH _ (.inl h3) _ q)) fun ⟨o, q⟩ => .inr ⟨o, hH _ (.inl h3) _ q⟩) (l.mono hR hH hT)
theorem RepL.mono : ∀ {vs : List V} {ds : List D} {fp : List Addr}, RepL K H R vs ds fp → (∀ a, R a → R' a) → (∀ a, R a ∨ a ∈ fp → ∀ o, H a = some o → H' a = some o) → (∀ a vs, H a = some (.tup vs) → H' a = some (.tup vs)) → RepL K H' R' vs ds fp
  | _, _, _, .nil, _, _, _ => .nil
  | _, _, _, .cons h l, hR, hH, hT => .cons (h.mono hR (fun a ha => hH a (ha.imp id (List.mem_append_left _))) hT) (l.mono hR (fun a ha => hH a (ha.imp id (List.mem_append_right _))) hT)
end
theorem Rep.same {v : V} {d : D} {fp : List Addr} (h : Rep K H R v d fp) (hR : ∀ a, R a → R' a) (e : Same H H') : Rep K H' R' v d fp := h.mono hR (fun a _ o q => e a o q) fun a vs q => e a _ q
theorem RepL.same {v : List V} {d : List D} {fp : List Addr} (h : RepL K H R v d fp) (hR : ∀ a, R a → R' a) (e : Same H H') : RepL K H' R' v d fp := h.mono hR (fun a _ o q => e a o q) fun a vs q => e a _ q
mutual
theorem Rep.frz : ∀ {v : V} {d : D} {fp : List Addr}, Rep K H R v d fp → (∀ a, R a → R' a) → (∀ a ∈ fp, R' a) → Rep K H R' v (Py.frz d) []
  | _, _, _, .non, _, _ => .non
  | _, _, _, .bl b, _, _ => .bl b
  | _, _, _, .int i, _, _ => .int i
  | _, _, _, .str x, _, _ => .str x
  | _, _, _, .ty x, _, _ => .ty x
  | _, _, _, .tup h l, hR, hf => by rw [Py.frz]; exact .tup h (l.frz hR hf)
  | _, _, _, .own h1 h2 h3 l, hR, hf => by rw [Py.frz]; exact .shr h1 h2 (hf _ List.mem_cons_self) (.inl h3) (l.frz hR fun a ha => hf a (List.mem_cons_of_mem _ ha))
  | _, _, _, .kst h l, hR, hf => by rw [Py.frz]; exact .kst h (l.frz hR hf)
  | _, _, _, .shr h1 h2 h3 h4 l, hR, hf => by rw [Py.frz]; exact .shr h1 h2 (hR _ h3) h4 (l.frz hR hf)
theorem RepL.frz : ∀ {v : List V} {d : List D} {fp : List Addr}, RepL K H R v d fp → (∀ a, R a → R' a) → (∀ a ∈ fp, R' a) → RepL K H R' v (Py.frzL d) []
  | _, _, _, .nil, _, _ => .nil
  | _, _, _, .cons h l, hR, hf => by
    rw [Py.frzL]
    exact RepL.cons (f := []) (g := []) (h.frz hR fun a ha => hf a (List.mem_append_left _ ha)) (l.frz hR fun a ha => hf a (List.mem_append_right _ ha))
end
mutual
/-- what leans on nothing else -/
theorem Rep.alone : ∀ {v : V} {d : D} {fp : List Addr}, Rep K H R v d fp → Py.noShr d = true → (∀ a ∈ fp, R' a → R' a) → Rep K H R' v d fp
  | _, _, _, .non, _, _ => .non
  | _, _, _, .bl b, _, _ => .bl b
  | _, _, _, .int i, _, _ => .int i
  | _, _, _, .str x, _, _ => .str x
  | _, _, _, .ty x, _, _ => .ty x
  | _, _, _, .tup h l, hn, _ => .tup h (l.alone (by rw [Py.noShr] at hn; exact (Bool.and_eq_true_iff.mp hn).2) fun _ _ z => z)
  | _, _, _, .own h1 h2 h3 l, hn, _ => .own h1 h2 h3 (l.alone (by rw [Py.noShr] at hn; exact (Bool.and_eq_true_iff.mp hn).2) fun _ _ z => z)
  | _, _, _, .kst h l, hn, _ => by rw [Py.noShr] at hn; cases hn
  | _, _, _, .shr h1 h2 h3 h4 l, hn, _ => by rw [Py.noShr, h1] at hn; cases hn
theorem RepL.alone : ∀ {v : List V} {d : List D} {fp : List Addr}, RepL K H R v d fp → Py.noShrL d = true → (∀ a ∈ fp, R' a → R' a) → RepL K H R' v d fp
  | _, _, _, .nil, _, _ => .nil
  | _, _, _, .cons h l, hn, _ => by
    rw [Py.noShrL] at hn
    exact .cons (h.alone (Bool.and_eq_true_iff.mp hn).1 fun _ _ z => z) (l.alone (Bool.and_eq_true_iff.mp hn).2 fun _ _ z => z)
end
mutual
/-- what is owned is there, and is no tuple -/
theorem Rep.there : ∀ {v : V} {d : D} {fp : List Addr}, Rep K H R v d fp → ∀ a ∈ fp, ∃ t vs, Tg.isT t = false ∧ H a = some (ho t vs)
  | _, _, _, .non, _, h => by cases h
  | _, _, _, .bl b, _, h => by cases h
  | _, _, _, .int i, _, h => by cases h
  | _, _, _, .str x, _, h => by cases h
  | _, _, _, .ty x, _, h => by cases h
  | _, _, _, .tup h l, a, ha => l.there a ha
  | _, _, _, .own h1 h2 h3 l, a, ha => by
    rcases List.mem_cons.mp ha with rfl | ha
    · exact ⟨_, _, h1, h3⟩
    · exact l.there a ha
  | _, _, _, .kst h1 l, _, h => by cases h
  | _, _, _, .shr h1 h2 h3 h4 l, _, h => by cases h
theorem RepL.there : ∀ {v : List V} {d : List D} {fp : List Addr}, RepL K H R v d fp → ∀ a ∈ fp, ∃ t vs, Tg.isT t = false ∧ H a = some (ho t vs)
  | _, _, _, .nil, _, h => by cases h
  | _, _, _, .cons h l, a, ha => by
    rcases List.mem_append.mp ha with ha | ha
    · exact h.there a ha
    · exact l.there a ha
end
theorem RepL.length : ∀ {vs : List V} {ds : List D} {fp : List Addr}, RepL K H R vs ds fp → vs.length = ds.length
  | _, _, _, .nil => rfl
  | _, _, _, .cons _ l => by rw [List.length_cons, List.length_cons, l.length]
theorem RepL.get : ∀ {vs : List V} {ds : List D} {fp : List Addr} {i : Nat} {d : D}, RepL K H R vs ds fp → ds[i]? = some d → ∃ v f, vs[i]? = some v ∧ Rep K H R v d f ∧ f.Sublist fp
  | _, _, _, _, _, .nil, e => by simp at e
  | _, _, _, 0, _, .cons (f := f) (g := g) h l, e => by
    simp at e; subst e
    exact ⟨_, f, rfl, h, List.sublist_append_left f g⟩
  | _, _, _, i + 1, _, .cons (f := f) (g := g) h l, e => by
    obtain ⟨v, f', e1, r, s⟩ := l.get (i := i) (by simpa using e)
    exact ⟨v, f', by simpa using e1, r, s.trans (List.sublist_append_right f g)⟩
theorem RepL.append : ∀ {vs : List V} {ds : List D} {fp : List Addr} {ws : List V} {es : List D} {g : List Addr}, RepL K H R vs ds fp → RepL K H R ws es g → RepL K H R (vs ++ ws) (ds ++ es) (fp ++ g)
  | _, _, _, _, _, _, .nil, s => s
  | _, _, _, _, _, _, .cons h l, s => by
    rw [List.append_assoc]
    exact .cons h (l.append s)
theorem RepL.take : ∀ {vs : List V} {ds : List D} {fp : List Addr} (n : Nat), RepL K H R vs ds fp → ∃ f, RepL K H R (vs.take n) (ds.take n) f ∧ f.Sublist fp
  | _, _, _, 0, _ => ⟨[], .nil, List.nil_sublist _⟩
  | _, _, _, _ + 1, .nil => ⟨[], .nil, List.nil_sublist _⟩
  | _, _, _, n + 1, .cons h l => by
    obtain ⟨f, r, s⟩ := l.take n
    exact ⟨_, .cons h r, List.Sublist.append (List.Sublist.refl _) s⟩
theorem RepL.drop : ∀ {vs : List V} {ds : List D} {fp : List Addr} (n : Nat), RepL K H R vs ds fp → ∃ f, RepL K H R (vs.drop n) (ds.drop n) f ∧ f.Sublist fp
  | _, _, fp, 0, h => ⟨fp, h, List.Sublist.refl _⟩
  | _, _, _, _ + 1, .nil => ⟨[], .nil, List.nil_sublist _⟩
  | _, _, _, n + 1, .cons h l => by
    obtain ⟨f, r, s⟩ := l.drop n
    exact ⟨f, r, s.trans (List.sublist_append_right _ _)⟩
theorem RepL.one {v : V} {d : D} {f : List Addr} (h : Rep K H R v d f) : RepL K H R [v] [d] f := by
  have q := RepL.cons h (RepL.nil (K := K) (H := H) (R := R))
  rwa [List.append_nil] at q
theorem RepL.ints : ∀ {ns : List Int}, RepL K H R (ns.map V.int) (ns.map D.int) []
  | [] => .nil
  | n :: ns => RepL.cons (f := []) (g := []) (.int n) RepL.ints
/-- the ints of a list of ints -/
theorem RepL.ints_inv : ∀ {ns : List Int} {vs : List V} {fp : List Addr}, RepL K H R vs (ns.map D.int) fp → vs = ns.map V.int ∧ fp = []
  | [], _, _, .nil => ⟨rfl, rfl⟩
  | n :: ns, _, _, .cons h l => by
    obtain ⟨rfl, rfl⟩ := RepL.ints_inv l
    cases h
    exact ⟨rfl, rfl⟩
end

/-! ### the frame's names -/
structure Slot where
  d : D
  dp : List Nat
abbrev Ev := List (Option Slot)
inductive Res (α : Type) where
  | ok (a : α) | rs (c : Str) | stuck
@[simp] def Res.bind {α β : Type} : Res α → (α → Res β) → Res β
  | .ok a, f => f a
  | .rs c, _ => .rs c
  | .stuck, _ => .stuck
inductive Out where
  | nx (ρ : Ev) | bk (ρ : Ev) | ct (ρ : Ev) | rt (d : D) | rs (c : Str) (ρ : Ev) | stuck
/-- what may be read: what stands still, and what the named slots own -/
def Reg (S : Addr → Prop) (fps : Nat → List Addr) (dp : List Nat) : Addr → Prop := fun a => S a ∨ ∃ r ∈ dp, a ∈ fps r
structure Ok (K : PySem.W.Frag) (S : Addr → Prop) (fps : Nat → List Addr) (ρ : Ev) (σ : L2.St) (H : Hp) : Prop where
  len : σ.length = ρ.length
  rep : ∀ i s, ρ[i]? = some (some s) → ∃ v, σ[i]? = some (some v) ∧ Rep K H (Reg S fps s.dp) v s.d (fps i)
  nd : ∀ i, (fps i).Nodup
  dj : ∀ i j a, a ∈ fps i → a ∈ fps j → i = j
  ns : ∀ i a, a ∈ fps i → ¬ S a
  own : ∀ i a, a ∈ fps i → ∃ t vs, Tg.isT t = false ∧ H a = some (ho t vs)
  st : ∀ a, S a → ∃ o, H a = some o
/-- nothing that was there is changed, and more may stand still -/
structure Grow (S : Addr → Prop) (H : Hp) (S' : Addr → Prop) (H' : Hp) : Prop where
  same : Same H H'
  sub : ∀ a, S a → S' a
  new : ∀ a, S' a → S a ∨ (H a = none ∧ ∃ o, H' a = some o)
theorem Grow.refl {S : Addr → Prop} {H : Hp} : Grow S H S H := ⟨Same.refl H, fun _ h => h, fun _ h => .inl h⟩
theorem Same.none {H H' : Hp} (e : Same H H') {a : Addr} (h : H' a = none) : H a = none := e.free h
theorem Same.dom {H H' : Hp} (e : Same H H') {a : Addr} (h : ∃ o, H a = some o) : ∃ o, H' a = some o := let ⟨o, q⟩ := h; ⟨o, e a o q⟩
theorem Grow.trans {S S1 S2 : Addr → Prop} {H H1 H2 : Hp} (a : Grow S H S1 H1) (b : Grow S1 H1 S2 H2) : Grow S H S2 H2 :=
  ⟨a.same.trans b.same, fun x h => b.sub x (a.sub x h), fun x h => by
    rcases b.new x h with h | ⟨h, o⟩
    · rcases a.new x h with h | ⟨h, o⟩
      · exact .inl h
      · exact .inr ⟨h, Same.dom b.same o⟩
    · exact .inr ⟨a.same.free h, o⟩⟩
theorem Reg.mono {S S' : Addr → Prop} {fps : Nat → List Addr} {dp dp' : List Nat} (h : ∀ a, S a → S' a) (hd : ∀ r ∈ dp, r ∈ dp') (a : Addr) (q : Reg S fps dp a) : Reg S' fps dp' a :=
  q.imp (h a) fun ⟨r, h1, h2⟩ => ⟨r, hd r h1, h2⟩
theorem same_upd {H : Hp} {p : Addr} {o : HO} (h : H p = none) : Same H (upd H p o) := fun b x e => by
  rw [upd_ne (ne_of_none e h)]; exact e
section
variable {K : PySem.W.Frag} {S S' : Addr → Prop} {fps : Nat → List Addr} {ρ : Ev} {σ : L2.St} {H H' : Hp}
theorem Ok.grow (o : Ok K S fps ρ σ H) (g : Grow S H S' H') : Ok K S' fps ρ σ H' := by
  refine ⟨o.len, fun i s e => ?_, o.nd, o.dj, fun i a ha hs => ?_, fun i a ha => ?_, fun a ha => ?_⟩
  · obtain ⟨v, e1, r⟩ := o.rep i s e
    exact ⟨v, e1, r.same (Reg.mono g.sub fun _ h => h) g.same⟩
  · rcases g.new a hs with h | ⟨h, _⟩
    · exact o.ns i a ha h
    · obtain ⟨t, vs, _, q⟩ := o.own i a ha
      rw [h] at q; cases q
  · obtain ⟨t, vs, h1, q⟩ := o.own i a ha
    exact ⟨t, vs, h1, g.same a _ q⟩
  · rcases g.new a ha with h | ⟨_, h⟩
    · exact Same.dom g.same (o.st a h)
    · exact h
theorem Ok.reg (o : Ok K S fps ρ σ H) {dp : List Nat} {a : Addr} (h : Reg S fps dp a) : ∃ x, H a = some x := by
  rcases h with h | ⟨r, _, h⟩
  · exact o.st a h
  · obtain ⟨t, vs, _, q⟩ := o.own r a h
    exact ⟨_, q⟩
end
end Py

set_option Elab.async false
set_option linter.all false
set_option maxRecDepth 100000
namespace Py
open PySem PySem.Spec L2

@[simp] def mk (d : D) (p : List Nat) : D × List Nat := (d, if noShr d = true then [] else p)
def Val (K : PySem.W.Frag) (S : Addr → Prop) (fps : Nat → List Addr) (H : Hp) (r : D × List Nat) (Q : VK) : Prop :=
  ∀ v fp S' H', Grow S H S' H' → Rep K H' (Reg S' fps r.2) v r.1 fp → fp.Nodup → (∀ a ∈ fp, H a = none ∧ ¬ S' a) → Q v H'
def EPost (K : PySem.W.Frag) (mg : Str → Option Value) (W : WX) (S : Addr → Prop) (fps : Nat → List Addr) (σ : L2.St) (H : Hp) (r : Res (D × List Nat)) (Q : VK) : Prop :=
  match r with
  | .ok r => Val K S fps H r Q
  | .rs c => ∀ C H', mg c = some (.ref C) → Same H H' → W (.ref C) none σ H'
  | .stuck => False
def VE (K : PySem.W.Frag) (mg : Str → Option Value) {ι : Type} (X : ι → Cx) (e : Expr) (f : Ev → Res (D × List Nat)) : Prop :=
  ∀ W, (∀ i, Takes (X i) W) → ∃ t, (∀ i, PE (X i) e t) ∧ ∀ S fps ρ σ H Q, Ok K S fps ρ σ H → EPost K mg W S fps σ H (f ρ) Q → t σ H Q
def APost (K : PySem.W.Frag) (mg : Str → Option Value) (W : WX) (S : Addr → Prop) (fps : Nat → List Addr) (σ : L2.St) (H : Hp) (r : Res (List D × List Nat)) (Q : List V → Hp → Prop) : Prop :=
  match r with
  | .ok r => ∀ vs fp S' H', Grow S H S' H' → RepL K H' (Reg S' fps r.2) vs r.1 fp → fp.Nodup → (∀ a ∈ fp, H a = none ∧ ¬ S' a) → Q vs H'
  | .rs c => ∀ C H', mg c = some (.ref C) → Same H H' → W (.ref C) none σ H'
  | .stuck => False
def VA (K : PySem.W.Frag) (mg : Str → Option Value) {ι : Type} (X : ι → Cx) (es : List Expr) (f : Ev → Res (List D × List Nat)) : Prop :=
  ∀ W, (∀ i, Takes (X i) W) → ∃ t, (∀ i, PA (X i) es t) ∧ ∀ S fps ρ σ H Q, Ok K S fps ρ σ H → APost K mg W S fps σ H (f ρ) Q → t σ H Q
def TPost (mg : Str → Option Value) (W : WX) (S : Addr → Prop) (σ : L2.St) (H : Hp) (r : Res Bool) (Q : Bool → Hp → Prop) : Prop :=
  match r with
  | .ok b => ∀ S' H', Grow S H S' H' → Q b H'
  | .rs c => ∀ C H', mg c = some (.ref C) → Same H H' → W (.ref C) none σ H'
  | .stuck => False
def VT (K : PySem.W.Frag) (mg : Str → Option Value) {ι : Type} (X : ι → Cx) (e : Expr) (f : Ev → Res Bool) : Prop :=
  ∀ W, (∀ i, Takes (X i) W) → ∃ t, (∀ i, PT (X i) e t) ∧ ∀ S fps ρ σ H Q, Ok K S fps ρ σ H → TPost mg W S σ H (f ρ) Q → t σ H Q
/-- a value of two -/
def Prim2 (K : PySem.W.Frag) (r : R2) (g : D → D → Option D) : Prop :=
  ∀ H R x y d1 d2 f1 f2 d Q, Rep K H R x d1 f1 → Rep K H R y d2 f2 → (f1 ++ f2).Nodup → g d1 d2 = some d →
    (∀ v fp H', Same H H' → Rep K H' R v d fp → fp.Nodup → (∀ a ∈ fp, a ∈ f1 ++ f2 ∨ H a = none) → Q v H') → r x y H Q
def Prim1 (K : PySem.W.Frag) (r : V → Hp → VK → Prop) (g : D → Option D) : Prop :=
  ∀ H R x d1 f1 d Q, Rep K H R x d1 f1 → f1.Nodup → g d1 = some d →
    (∀ v fp H', Same H H' → Rep K H' R v d fp → fp.Nodup → (∀ a ∈ fp, a ∈ f1 ∨ H a = none) → Q v H') → r x H Q
def PrimL (K : PySem.W.Frag) (r : List V → Hp → VK → Prop) (g : List D → Option D) : Prop :=
  ∀ H R xs ds f d Q, RepL K H R xs ds f → f.Nodup → g ds = some d →
    (∀ v fp H', Same H H' → Rep K H' R v d fp → fp.Nodup → (∀ a ∈ fp, a ∈ f ∨ H a = none) → Q v H') → r xs H Q
structure Fam (P : Program) (w : World) (K : PySem.W.Frag) (mg : Str → Option Value) (base : Heap) (N : List Str) (k : Nat) {ι : Type} (X : ι → Cx) : Prop where
  prog : ∀ i, (X i).prog = P
  wd : ∀ i, (X i).w = w
  kk : ∀ i, (X i).K = K
  mm : ∀ i, (X i).mg = mg
  bb : ∀ i, (X i).base = base
  nn : ∀ i, (X i).N = N
  nd : N.Nodup
  calm : ∀ i, (X i).calm = true
  room : ∀ i, Room k (X i).A
section
variable {ι : Type} {X : ι → Cx} {P : Program} {w : World} {K : PySem.W.Frag} {mg : Str → Option Value} {base : Heap} {N : List Str} {k : Nat} {W : WX} {S S1 S' : Addr → Prop} {fps : Nat → List Addr} {ρ : Ev} {σ : L2.St} {H H1 H' : Hp} {Q : VK}
theorem Val.fin {d : D} {p : List Nat} (h : Val K S fps H (mk d p) Q) {v : V} {fp : List Addr} (g : Grow S H S' H') (r : Rep K H' (Reg S' fps p) v d fp) (n : fp.Nodup) (z : ∀ a ∈ fp, H a = none ∧ ¬ S' a) : Q v H' := by
  refine h v fp S' H' g ?_ n z
  show Rep K H' (Reg S' fps (if noShr d = true then [] else p)) v d fp
  by_cases q : noShr d = true
  · rw [if_pos q]; exact r.alone q fun _ _ z => z
  · rw [if_neg q]; exact r
theorem EPost.rs (h : ∀ C H', mg c = some (.ref C) → Same H H' → W (.ref C) none σ H') (e : Same H H1) : ∀ C H', mg c = some (.ref C) → Same H1 H' → W (.ref C) none σ H' :=
  fun C H' hm q => h C H' hm (e.trans q)

/-! ### names and constants -/
def eVar (i : Nat) : Ev → Res (D × List Nat) := fun ρ => match ρ[i]? with
  | some (some s) => .ok (mk (frz s.d) (i :: s.dp))
  | _ => .stuck
def eK (d : D) : Ev → Res (D × List Nat) := fun _ => .ok (d, [])
theorem ve_var {i : Nat} {x : Str} {pos : Pos} (hN : ∀ i', (X i').N[i]? = some x := by intro _; rfl) (hv : ∀ i, Vis (X i).env.scope x := by intro _; first | exact Or.inl rfl | exact Or.inr (Or.inl rfl) | exact Or.inr (Or.inr rfl)) (hd : (x == ("__debug__" : Str)) = false := by decide)
    (hcd : (x == ("__classdict__" : Str)) = false := by decide) : VE K mg X (.Name x pos) (eVar i) := by
  intro W tk
  refine ⟨_, fun i' => pe_var (hN i') (hv i') hd hcd, fun S fps ρ σ H Q ok h => ?_⟩
  unfold eVar at h
  revert h
  split
  · intro h
    rename_i s e
    obtain ⟨v, e1, r⟩ := ok.rep i s e
    refine ⟨v, e1, Val.fin (K := K) h Grow.refl (r.frz (Reg.mono (fun _ z => z) fun _ z => List.mem_cons_of_mem _ z) fun a ha => .inr ⟨i, List.mem_cons_self, ha⟩) List.nodup_nil fun a ha => ?_⟩
    cases ha
  · intro h; exact h.elim
theorem ve_k {e : Expr} {v : V} {d : D} (h : ∀ i, PE (X i) e (tC v)) (hr : ∀ H, Rep K H (fun _ => False) v d []) : VE K mg X e (eK d) := by
  intro W tk
  refine ⟨_, h, fun S fps ρ σ H Q ok q => ?_⟩
  exact q v [] S H Grow.refl ((hr H).same (fun _ z => z.elim) (Same.refl _)) List.nodup_nil fun a ha => by cases ha
theorem ve_int {i j pos} : VE K mg X (.Constant (.int i) j pos) (eK (.int i)) := ve_k (fun _ => pe_int) fun _ => .int i
theorem ve_bl {b j pos} : VE K mg X (.Constant (.bool b) j pos) (eK (.bl b)) := ve_k (fun _ => pe_bl) fun _ => .bl b
theorem ve_non {j pos} : VE K mg X (.Constant .none j pos) (eK .non) := ve_k (fun _ => pe_non) fun _ => .non
theorem ve_str {x j pos} : VE K mg X (.Constant (.str x) j pos) (eK (.str x)) := ve_k (fun _ => pe_str) fun _ => .str x
/-- a module's constant -/
theorem ve_glob {x : Str} {v : V} {d : D} {u : Value} {pos : Pos} (hF : Fam P w K mg base N k X) (hg : ∀ i, Gl (X i) x) (hm : mg x = some u) (r : RelV v u) (hr : ∀ H, Rep K H (fun _ => False) v d []) (hd : (x == ("__debug__" : Str)) = false := by decide) : VE K mg X (.Name x pos) (eK d) := ve_k (fun i => pe_glob (hg i) (by rw [hF.mm i]; exact hm) r hd) hr
/-- a built-in type as a value -/
theorem ve_ty {x : Str} {n : String} {pos : Pos} (hF : Fam P w K mg base N k X) (hg : ∀ i, Gl (X i) x) (hm : mg x = none) (hv : bootBuiltins x = some (.type n)) (hn : x ≠ "__name__" := by decide) (hd : (x == ("__debug__" : Str)) = false := by decide) : VE K mg X (.Name x pos) (eK (.ty n)) :=
  ve_k (v := .ty n) (fun i => pe_bltn (hg i) (by rw [hF.mm i]; exact hm) hv rfl hn hd) fun _ => .ty n

/-! ### two operands -/
def eBin (g : D → D → Option D) (f1 f2 : Ev → Res (D × List Nat)) : Ev → Res (D × List Nat) := fun ρ =>
  (f1 ρ).bind fun a => (f2 ρ).bind fun b => match g a.1 b.1 with
    | some d => .ok (mk d (a.2 ++ b.2))
    | none => .stuck
theorem ap_nodup {f1 f2 : List Addr} (n1 : f1.Nodup) (n2 : f2.Nodup) (z : ∀ a ∈ f1, a ∉ f2) : (f1 ++ f2).Nodup :=
  List.nodup_append.mpr ⟨n1, n2, fun a ha b hb e => z a ha (e ▸ hb)⟩
theorem bin_sem {f1 f2 : Ev → Res (D × List Nat)} {g : D → D → Option D} {r : R2} {ta tb : TE} (hp : Prim2 K r g)
    (qa : ∀ S fps ρ σ H Q, Ok K S fps ρ σ H → EPost K mg W S fps σ H (f1 ρ) Q → ta σ H Q) (qb : ∀ S fps ρ σ H Q, Ok K S fps ρ σ H → EPost K mg W S fps σ H (f2 ρ) Q → tb σ H Q)
    (ok : Ok K S fps ρ σ H) (h : EPost K mg W S fps σ H (eBin g f1 f2 ρ) Q) : tOp r ta tb σ H Q := by
  unfold eBin at h
  refine qa S fps ρ σ H _ ok ?_
  cases e1 : f1 ρ with
  | stuck => rw [e1] at h; exact h
  | rs c => rw [e1] at h; exact h
  | ok a =>
    obtain ⟨d1, p1⟩ := a
    rw [e1] at h
    intro v1 fp1 S1 H1 g1 r1 n1 z1
    refine qb S1 fps ρ σ H1 _ (ok.grow g1) ?_
    cases e2 : f2 ρ with
    | stuck => rw [e2] at h; exact h
    | rs c =>
      rw [e2] at h
      exact EPost.rs h g1.same
    | ok b =>
      obtain ⟨d2, p2⟩ := b
      rw [e2] at h
      intro v2 fp2 S2 H2 g2 r2 n2 z2
      dsimp only [Res.bind] at h
      cases e3 : g d1 d2 with
      | none => rw [e3] at h; exact h.elim
      | some d =>
        rw [e3] at h
        have there1 : ∀ a ∈ fp1, ∃ o, H1 a = some o := fun a ha => let ⟨_, _, _, q⟩ := r1.there a ha; ⟨_, q⟩
        have notS : ∀ a ∈ fp1, ¬ S2 a := fun a ha hs => by
          rcases g2.new a hs with q | ⟨q, _⟩
          · exact (z1 a ha).2 q
          · obtain ⟨o, e⟩ := there1 a ha
            rw [q] at e; cases e
        refine hp H2 (Reg S2 fps (p1 ++ p2)) v1 v2 d1 d2 fp1 fp2 d Q (r1.same (Reg.mono g2.sub fun _ => List.mem_append_left _) g2.same) (r2.same (Reg.mono (fun _ z => z) fun _ => List.mem_append_right _) (Same.refl _))
          (ap_nodup n1 n2 fun a ha hb => ?_) e3 fun v fp H3 s3 r3 n3 z3 => ?_
        · obtain ⟨o, e⟩ := there1 a ha
          rw [(z2 a hb).1] at e; cases e
        · have none2 : ∀ a ∈ fp, H a = none ∧ ¬ S2 a := fun a ha => by
            rcases z3 a ha with q | q
            · rcases List.mem_append.mp q with q | q
              · exact ⟨(z1 a q).1, notS a q⟩
              · exact ⟨g1.same.free (z2 a q).1, (z2 a q).2⟩
            · refine ⟨g1.same.free (g2.same.free q), fun hs => ?_⟩
              obtain ⟨o, e⟩ := (ok.grow (g1.trans g2)).st a hs
              rw [q] at e; cases e
          have gg := g1.trans g2
          exact Val.fin (K := K) h ⟨gg.same.trans s3, gg.sub, fun a hs => (gg.new a hs).imp id fun ⟨q, o⟩ => ⟨q, Same.dom s3 o⟩⟩ r3 n3 none2
theorem ve_op {op : Operator} {r : R2} {g : D → D → Option D} {a b : Expr} {f1 f2 : Ev → Res (D × List Nat)} {pos : Pos} (ho : ∀ i, OpR (X i) (binaryOp op) r) (hp : Prim2 K r g) (ha : VE K mg X a f1) (hb : VE K mg X b f2) : VE K mg X (.BinOp a op b pos) (eBin g f1 f2) := by
  intro W tk
  obtain ⟨ta, pa, qa⟩ := ha W tk
  obtain ⟨tb, pb, qb⟩ := hb W tk
  exact ⟨_, fun i => pe_op (ho i) (pa i) (pb i), fun S fps ρ σ H Q ok h => bin_sem hp qa qb ok h⟩
theorem ve_cmp {op : CmpOp} {r : R2} {g : D → D → Option D} {a b : Expr} {f1 f2 : Ev → Res (D × List Nat)} {pos : Pos} (ho : ∀ i, OpR (X i) (compareOp op) r) (hp : Prim2 K r g) (ha : VE K mg X a f1) (hb : VE K mg X b f2) (hm : behindInMarks op b = false := by with_unfolding_all rfl) :
    VE K mg X (.Compare a [op] [b] pos) (eBin g f1 f2) := by
  intro W tk
  obtain ⟨ta, pa, qa⟩ := ha W tk
  obtain ⟨tb, pb, qb⟩ := hb W tk
  exact ⟨_, fun i => pe_cmpR (ho i) (pa i) (pb i) hm, fun S fps ρ σ H Q ok h => bin_sem hp qa qb ok h⟩
theorem ve_ix {r : R2} {g : D → D → Option D} {a b : Expr} {f1 f2 : Ev → Res (D × List Nat)} {pos : Pos} (ho : ∀ i, IxR (X i) r) (hp : Prim2 K r g) (ha : VE K mg X a f1) (hb : VE K mg X b f2) (hs : PlainIx b := by exact fun _ _ => rfl) :
    VE K mg X (.Subscript a b pos) (eBin g f1 f2) := by
  intro W tk
  obtain ⟨ta, pa, qa⟩ := ha W tk
  obtain ⟨tb, pb, qb⟩ := hb W tk
  exact ⟨_, fun i => pe_ix (ho i) (pa i) (pb i) hs, fun S fps ρ σ H Q ok h => bin_sem hp qa qb ok h⟩
def eUn (g : D → Option D) (f1 : Ev → Res (D × List Nat)) : Ev → Res (D × List Nat) := fun ρ =>
  (f1 ρ).bind fun a => match g a.1 with
    | some d => .ok (mk d a.2)
    | none => .stuck
theorem un_sem {f1 : Ev → Res (D × List Nat)} {g : D → Option D} {r : V → Hp → VK → Prop} {ta : TE} (hp : Prim1 K r g)
    (qa : ∀ S fps ρ σ H Q, Ok K S fps ρ σ H → EPost K mg W S fps σ H (f1 ρ) Q → ta σ H Q)
    (ok : Ok K S fps ρ σ H) (h : EPost K mg W S fps σ H (eUn g f1 ρ) Q) : tUn r ta σ H Q := by
  unfold eUn at h
  refine qa S fps ρ σ H _ ok ?_
  cases e1 : f1 ρ with
  | stuck => rw [e1] at h; exact h
  | rs c => rw [e1] at h; exact h
  | ok a =>
    obtain ⟨d1, p1⟩ := a
    rw [e1] at h
    intro v1 fp1 S1 H1 g1 r1 n1 z1
    dsimp only [Res.bind] at h
    cases e3 : g d1 with
    | none => rw [e3] at h; exact h.elim
    | some d =>
      rw [e3] at h
      refine hp H1 (Reg S1 fps p1) v1 d1 fp1 d Q r1 n1 e3 fun v fp H3 s3 r3 n3 z3 => ?_
      have none2 : ∀ a ∈ fp, H a = none ∧ ¬ S1 a := fun a ha => by
        rcases z3 a ha with q | q
        · exact z1 a q
        · refine ⟨g1.same.free q, fun hs => ?_⟩
          obtain ⟨o, e⟩ := (ok.grow g1).st a hs
          rw [q] at e; cases e
      exact Val.fin (K := K) h ⟨g1.same.trans s3, g1.sub, fun a hs => (g1.new a hs).imp id fun ⟨q, o⟩ => ⟨q, Same.dom s3 o⟩⟩ r3 n3 none2
theorem ve_un {op : UnaryOp} {r : V → Hp → VK → Prop} {g : D → Option D} {a : Expr} {f1 : Ev → Res (D × List Nat)} {pos : Pos} (ho : ∀ i, UnR (X i) (unaryOp op) r) (hp : Prim1 K r g) (ha : VE K mg X a f1) : VE K mg X (.UnaryOp op a pos) (eUn g f1) := by
  intro W tk
  obtain ⟨ta, pa, qa⟩ := ha W tk
  exact ⟨_, fun i => pe_un (ho i) (pa i), fun S fps ρ σ H Q ok h => un_sem hp qa ok h⟩

/-! ### lists of arguments -/
def aNil : Ev → Res (List D × List Nat) := fun _ => .ok ([], [])
def aCons (f : Ev → Res (D × List Nat)) (g : Ev → Res (List D × List Nat)) : Ev → Res (List D × List Nat) := fun ρ =>
  (f ρ).bind fun a => (g ρ).bind fun b => .ok (a.1 :: b.1, a.2 ++ b.2)
theorem va_nil : VA K mg X [] aNil := by
  intro W tk
  refine ⟨_, fun _ => pa_nil, fun S fps ρ σ H Q ok h => ?_⟩
  exact h [] [] S H Grow.refl .nil List.nodup_nil fun a ha => by cases ha
theorem va_cons {e : Expr} {es : List Expr} {f : Ev → Res (D × List Nat)} {g : Ev → Res (List D × List Nat)} (ha : VE K mg X e f) (hb : VA K mg X es g) (hs : ∀ i, starEach (e :: es) (X i).env = (false, eval e (X i).env) :: starEach es (X i).env := by intro _; rfl) : VA K mg X (e :: es) (aCons f g) := by
  intro W tk
  obtain ⟨ta, pa, qa⟩ := ha W tk
  obtain ⟨tb, pb, qb⟩ := hb W tk
  refine ⟨_, fun i => pa_cons (pa i) (pb i) (hs i), fun S fps ρ σ H Q ok h => ?_⟩
  unfold aCons at h
  refine qa S fps ρ σ H _ ok ?_
  cases e1 : f ρ with
  | stuck => rw [e1] at h; exact h
  | rs c => rw [e1] at h; exact h
  | ok a =>
    obtain ⟨d1, p1⟩ := a
    rw [e1] at h
    intro v1 fp1 S1 H1 g1 r1 n1 z1
    refine qb S1 fps ρ σ H1 _ (ok.grow g1) ?_
    cases e2 : g ρ with
    | stuck => rw [e2] at h; exact h
    | rs c =>
      rw [e2] at h
      exact EPost.rs h g1.same
    | ok b =>
      obtain ⟨d2, p2⟩ := b
      rw [e2] at h
      intro vs fp2 S2 H2 g2 r2 n2 z2
      have there1 : ∀ a ∈ fp1, ∃ o, H1 a = some o := fun a ha => let ⟨_, _, _, q⟩ := r1.there a ha; ⟨_, q⟩
      refine h (v1 :: vs) (fp1 ++ fp2) S2 H2 (g1.trans g2) (.cons (r1.same (Reg.mono g2.sub fun _ => List.mem_append_left _) g2.same) (r2.same (Reg.mono (fun _ z => z) fun _ => List.mem_append_right _) (Same.refl _)))
        (ap_nodup n1 n2 fun a ha hb => ?_) fun a ha => ?_
      · obtain ⟨o, e⟩ := there1 a ha
        rw [(z2 a hb).1] at e; cases e
      · rcases List.mem_append.mp ha with q | q
        · refine ⟨(z1 a q).1, fun hs => ?_⟩
          rcases g2.new a hs with w | ⟨w, _⟩
          · exact (z1 a q).2 w
          · obtain ⟨o, e⟩ := there1 a q
            rw [w] at e; cases e
        · exact ⟨g1.same.free (z2 a q).1, (z2 a q).2⟩
theorem args_sem {f : Ev → Res (List D × List Nat)} {g : List D → Option D} {r : List V → Hp → VK → Prop} {ta : TA} (hp : PrimL K r g)
    (qa : ∀ S fps ρ σ H Q, Ok K S fps ρ σ H → APost K mg W S fps σ H (f ρ) Q → ta σ H Q)
    (ok : Ok K S fps ρ σ H) (h : EPost K mg W S fps σ H ((f ρ).bind fun a => match g a.1 with | some d => .ok (mk d a.2) | none => .stuck) Q) : ta σ H fun vs H1 => r vs H1 Q := by
  refine qa S fps ρ σ H _ ok ?_
  cases e1 : f ρ with
  | stuck => rw [e1] at h; exact h
  | rs c => rw [e1] at h; exact h
  | ok a =>
    obtain ⟨d1, p1⟩ := a
    rw [e1] at h
    intro v1 fp1 S1 H1 g1 r1 n1 z1
    dsimp only [Res.bind] at h
    cases e3 : g d1 with
    | none => rw [e3] at h; exact h.elim
    | some d =>
      rw [e3] at h
      refine hp H1 (Reg S1 fps p1) v1 d1 fp1 d Q r1 n1 e3 fun v fp H3 s3 r3 n3 z3 => ?_
      have none2 : ∀ a ∈ fp, H a = none ∧ ¬ S1 a := fun a ha => by
        rcases z3 a ha with q | q
        · exact z1 a q
        · refine ⟨g1.same.free q, fun hs => ?_⟩
          obtain ⟨o, e⟩ := (ok.grow g1).st a hs
          rw [q] at e; cases e
      exact Val.fin (K := K) h ⟨g1.same.trans s3, g1.sub, fun a hs => (g1.new a hs).imp id fun ⟨q, o⟩ => ⟨q, Same.dom s3 o⟩⟩ r3 n3 none2
def eArgs (g : List D → Option D) (f : Ev → Res (List D × List Nat)) : Ev → Res (D × List Nat) := fun ρ =>
  (f ρ).bind fun a => match g a.1 with | some d => .ok (mk d a.2) | none => .stuck
/-- a built-in function -/
theorem ve_callB {x : Str} {p pos : Pos} {e : Expr} {es : List Expr} {id : String} {r : List V → Hp → VK → Prop} {g : List D → Option D} {f : Ev → Res (List D × List Nat)} (hF : Fam P w K mg base N k X) (hc : ∀ i, CallR (X i) (.builtin id) r) (hp : PrimL K r g) (hg : ∀ i, Gl (X i) x) (hm : mg x = none) (hv : bootBuiltins x = some (.builtin id)) (ha : VA K mg X (e :: es) f)
    (hn : x ≠ "__name__" := by decide) (hdb : (x == ("__debug__" : Str)) = false := by decide) (he : ∀ i, starEach (e :: es) (X i).env = (false, eval e (X i).env) :: starEach es (X i).env := by intro _; rfl) (hpl : ∀ i, (backTo pos (starEach es (X i).env)).any (·.1) = false := by intro _; rfl) :
    VE K mg X (.Call (.Name x p) (e :: es) [] pos) (eArgs g f) := by
  intro W tk
  obtain ⟨ta, pa, qa⟩ := ha W tk
  exact ⟨_, fun i => pe_callB (hc i) (hg i) (by rw [hF.mm i]; exact hm) hv (pa i) hn hdb (he i) (hpl i), fun S fps ρ σ H Q ok h => args_sem hp qa ok h⟩
theorem ve_callTy {x : Str} {p pos : Pos} {e : Expr} {es : List Expr} {T : String} {r : List V → Hp → VK → Prop} {g : List D → Option D} {f : Ev → Res (List D × List Nat)} (hF : Fam P w K mg base N k X) (hc : ∀ i, CallR (X i) (.type T) r) (hp : PrimL K r g) (hg : ∀ i, Gl (X i) x) (hm : mg x = none) (hv : bootBuiltins x = some (.type T)) (ha : VA K mg X (e :: es) f)
    (hn : x ≠ "__name__" := by decide) (hdb : (x == ("__debug__" : Str)) = false := by decide) (he : ∀ i, starEach (e :: es) (X i).env = (false, eval e (X i).env) :: starEach es (X i).env := by intro _; rfl) (hpl : ∀ i, (backTo pos (starEach es (X i).env)).any (·.1) = false := by intro _; rfl) :
    VE K mg X (.Call (.Name x p) (e :: es) [] pos) (eArgs g f) := by
  intro W tk
  obtain ⟨ta, pa, qa⟩ := ha W tk
  exact ⟨_, fun i => pe_callTy (hc i) (hg i) (by rw [hF.mm i]; exact hm) hv (pa i) hn hdb (he i) (hpl i), fun S fps ρ σ H Q ok h => args_sem hp qa ok h⟩
/-- displays -/
def gTupD (ds : List D) : Option D := if ds.length ≤ sizeLine then some (.node false .tup ds) else none
def gLstD (ds : List D) : Option D := if ds.length ≤ sizeLine then some (.node true .lst ds) else none
theorem prim_tup {K : PySem.W.Frag} : PrimL K (fun xs H1 Q => xs.length ≤ sizeLine ∧ ∀ p, H1 p = none → Q (.ref p) (upd H1 p (.tup xs))) gTupD := by
  intro H R xs ds f d Q r n e h
  unfold gTupD at e
  split at e
  · cases e
    refine ⟨by rw [r.length]; assumption, fun p hp => ?_⟩
    exact h _ f _ (same_upd hp) (.tup upd_same (r.same (fun _ z => z) (same_upd hp))) n fun a ha => .inl ha
  · cases e
theorem prim_lst {K : PySem.W.Frag} : PrimL K (fun xs H1 Q => xs.length ≤ sizeLine ∧ ∀ p, H1 p = none → Q (.ref p) (upd H1 p (.lst xs))) gLstD := by
  intro H R xs ds f d Q r n e h
  unfold gLstD at e
  split at e
  · cases e
    refine ⟨by rw [r.length]; assumption, fun p hp => ?_⟩
    refine h _ (p :: f) _ (same_upd hp) (.own rfl trivial upd_same (r.same (fun _ z => z) (same_upd hp))) (List.nodup_cons.mpr ⟨fun hm => ?_, n⟩) fun a ha => ?_
    · obtain ⟨_, _, _, q⟩ := r.there p hm
      rw [hp] at q; cases q
    · rcases List.mem_cons.mp ha with rfl | ha
      · exact .inr hp
      · exact .inl ha
  · cases e
theorem ve_tup {es : List Expr} {k : Nat} {pos : Pos} {f : Ev → Res (List D × List Nat)} (ha : VA K mg X es f) : VE K mg X (.Tuple es k pos) (eArgs gTupD f) := by
  intro W tk
  obtain ⟨ta, pa, qa⟩ := ha W tk
  exact ⟨_, fun i => pe_tup (pa i), fun S fps ρ σ H Q ok h => args_sem prim_tup qa ok h⟩
theorem ve_lst {es : List Expr} {pos : Pos} {f : Ev → Res (List D × List Nat)} (ha : VA K mg X es f) : VE K mg X (.List es pos) (eArgs gLstD f) := by
  intro W tk
  obtain ⟨ta, pa, qa⟩ := ha W tk
  exact ⟨_, fun i => pe_lst (pa i), fun S fps ρ σ H Q ok h => args_sem prim_lst qa ok h⟩

/-! ### tests -/
def tVal (f : Ev → Res (D × List Nat)) : Ev → Res Bool := fun ρ => (f ρ).bind fun a => match a.1 with
  | .bl b => .ok b
  | _ => .stuck
theorem tval_sem {f : Ev → Res (D × List Nat)} {t : TE} {Q : Bool → Hp → Prop} (qa : ∀ S fps ρ σ H Q, Ok K S fps ρ σ H → EPost K mg W S fps σ H (f ρ) Q → t σ H Q) (ok : Ok K S fps ρ σ H) (h : TPost mg W S σ H (tVal f ρ) Q) :
    t σ H fun x H1 => ∃ c, x = .bl c ∧ Q c H1 := by
  unfold tVal at h
  refine qa S fps ρ σ H _ ok ?_
  cases e1 : f ρ with
  | stuck => rw [e1] at h; exact h
  | rs c => rw [e1] at h; exact h
  | ok a =>
    obtain ⟨d1, p1⟩ := a
    rw [e1] at h
    intro v1 fp1 S1 H1 g1 r1 n1 z1
    dsimp only [Res.bind] at h
    cases d1 with
    | bl b =>
      cases r1
      exact ⟨b, rfl, h S1 H1 g1⟩
    | _ => exact h.elim
theorem vt_cmp {op : CmpOp} {r : R2} {g : D → D → Option D} {a b : Expr} {f1 f2 : Ev → Res (D × List Nat)} {pos : Pos} (ho : ∀ i, OpR (X i) (compareOp op) r) (hp : Prim2 K r g) (ha : VE K mg X a f1) (hb : VE K mg X b f2) (hm : behindInMarks op b = false := by with_unfolding_all rfl) :
    VT K mg X (.Compare a [op] [b] pos) (tVal (eBin g f1 f2)) := by
  intro W tk
  obtain ⟨ta, pa, qa⟩ := ha W tk
  obtain ⟨tb, pb, qb⟩ := hb W tk
  exact ⟨_, fun i => pt_cmpR (ho i) (pa i) (pb i) hm, fun S fps ρ σ H Q ok h => tval_sem (fun S fps ρ σ H Q ok h => bin_sem hp qa qb ok h) ok h⟩
theorem vt_val {e : Expr} {f : Ev → Res (D × List Nat)} (h : VE K mg X e f) (he : ∀ i whole, isTrue e (X i).env whole = (do let v ← whole; standAt e.pos; holding [v] (truthy v)) := by intro _ _; rfl) : VT K mg X e (tVal f) := by
  intro W tk
  obtain ⟨t, p, q⟩ := h W tk
  exact ⟨_, fun i => pt_val (p i) (he i), fun S fps ρ σ H Q ok h => tval_sem q ok h⟩
def tNotB (f : Ev → Res Bool) : Ev → Res Bool := fun ρ => (f ρ).bind fun b => .ok (!b)
def tAndB (f g : Ev → Res Bool) : Ev → Res Bool := fun ρ => (f ρ).bind fun b => if b = true then g ρ else .ok false
def tOrB (f g : Ev → Res Bool) : Ev → Res Bool := fun ρ => (f ρ).bind fun b => if b = true then .ok true else g ρ
theorem vt_not {a : Expr} {f : Ev → Res Bool} {pos : Pos} (h : VT K mg X a f) : VT K mg X (.UnaryOp .Not a pos) (tNotB f) := by
  intro W tk
  obtain ⟨t, p, q⟩ := h W tk
  refine ⟨_, fun i => pt_not (p i), fun S fps ρ σ H Q ok h => ?_⟩
  unfold tNotB at h
  refine q S fps ρ σ H _ ok ?_
  cases e1 : f ρ with
  | stuck => rw [e1] at h; exact h
  | rs c => rw [e1] at h; exact h
  | ok b => rw [e1] at h; exact fun S' H' g => h S' H' g
/-- a test within and, or -/
def VW (K : PySem.W.Frag) (mg : Str → Option Value) {ι : Type} (X : ι → Cx) (e : Expr) (f : Ev → Res Bool) : Prop :=
  ∀ W, (∀ i, Takes (X i) W) → ∃ t, (∀ i, PW (X i) e t) ∧ ∀ S fps ρ σ H Q, Ok K S fps ρ σ H → TPost mg W S σ H (f ρ) Q → t σ H Q
theorem VW.vt {e : Expr} {f : Ev → Res Bool} (h : VW K mg X e f) : VT K mg X e f := fun W tk => let ⟨t, p, q⟩ := h W tk; ⟨t, fun i => (p i).pt, q⟩
theorem vw_and1 {a : Expr} {f : Ev → Res Bool} {pos : Pos} (h : VT K mg X a f) : VW K mg X (.BoolOp .And [a] pos) f := fun W tk => let ⟨t, p, q⟩ := h W tk; ⟨t, fun i => pw_and1 (p i), q⟩
theorem vw_or1 {a : Expr} {f : Ev → Res Bool} {pos : Pos} (h : VT K mg X a f) : VW K mg X (.BoolOp .Or [a] pos) f := fun W tk => let ⟨t, p, q⟩ := h W tk; ⟨t, fun i => pw_or1 (p i), q⟩
theorem vw_and {a b : Expr} {rest : List Expr} {f g : Ev → Res Bool} {pos : Pos} (ha : VT K mg X a f) (hb : VW K mg X (.BoolOp .And (b :: rest) pos) g) : VW K mg X (.BoolOp .And (a :: b :: rest) pos) (tAndB f g) := by
  intro W tk
  obtain ⟨ta, pa, qa⟩ := ha W tk
  obtain ⟨tb, pb, qb⟩ := hb W tk
  refine ⟨_, fun i => pw_and (pa i) (pb i), fun S fps ρ σ H Q ok h => ?_⟩
  unfold tAndB at h
  refine qa S fps ρ σ H _ ok ?_
  cases e1 : f ρ with
  | stuck => rw [e1] at h; exact h
  | rs c => rw [e1] at h; exact h
  | ok b =>
    rw [e1] at h
    intro S1 H1 g1
    cases b with
    | false => exact h S1 H1 g1
    | true =>
      refine qb S1 fps ρ σ H1 Q (ok.grow g1) ?_
      have h : TPost mg W S σ H (g ρ) Q := h
      cases e2 : g ρ with
      | stuck => rw [e2] at h; exact h
      | rs c => rw [e2] at h; exact EPost.rs h g1.same
      | ok b => rw [e2] at h; exact fun S' H' g => h S' H' (g1.trans g)
theorem vw_or {a b : Expr} {rest : List Expr} {f g : Ev → Res Bool} {pos : Pos} (ha : VT K mg X a f) (hb : VW K mg X (.BoolOp .Or (b :: rest) pos) g) : VW K mg X (.BoolOp .Or (a :: b :: rest) pos) (tOrB f g) := by
  intro W tk
  obtain ⟨ta, pa, qa⟩ := ha W tk
  obtain ⟨tb, pb, qb⟩ := hb W tk
  refine ⟨_, fun i => pw_or (pa i) (pb i), fun S fps ρ σ H Q ok h => ?_⟩
  unfold tOrB at h
  refine qa S fps ρ σ H _ ok ?_
  cases e1 : f ρ with
  | stuck => rw [e1] at h; exact h
  | rs c => rw [e1] at h; exact h
  | ok b =>
    rw [e1] at h
    intro S1 H1 g1
    cases b with
    | true => exact h S1 H1 g1
    | false =>
      refine qb S1 fps ρ σ H1 Q (ok.grow g1) ?_
      have h : TPost mg W S σ H (g ρ) Q := h
      cases e2 : g ρ with
      | stuck => rw [e2] at h; exact h
      | rs c => rw [e2] at h; exact EPost.rs h g1.same
      | ok b => rw [e2] at h; exact fun S' H' g => h S' H' (g1.trans g)
end
end Py

set_option Elab.async false
set_option linter.all false
set_option maxRecDepth 100000
namespace Py
open PySem PySem.Spec L2

/-- from a statement's start to its end -/
structure Step (S : Addr → Prop) (fps : Nat → List Addr) (lk : List Nat) (H : Hp) (S' : Addr → Prop) (fps' : Nat → List Addr) (H' : Hp) : Prop where
  keep : ∀ a o, H a = some o → (∀ i, a ∉ fps i) → H' a = some o
  lock : ∀ r ∈ lk, ∀ a ∈ fps r, H' a = H a ∧ (S' a ∨ a ∈ fps' r)
  sub : ∀ a, S a → S' a
  new : ∀ a, (S' a ∨ ∃ i, a ∈ fps' i) → S a ∨ (∃ i, a ∈ fps i) ∨ H a = none
structure Fin (S : Addr → Prop) (fps : Nat → List Addr) (H : Hp) (S' : Addr → Prop) (H' : Hp) (fp : List Addr) : Prop where
  keep : ∀ a o, H a = some o → (∀ i, a ∉ fps i) → H' a = some o
  sub : ∀ a, S a → S' a
  new : ∀ a, (S' a ∨ a ∈ fp) → S a ∨ (∃ i, a ∈ fps i) ∨ H a = none
  nd : fp.Nodup
  ns : ∀ a ∈ fp, ¬ S' a
  dom : ∀ a, S' a → ∃ o, H' a = some o
def SPost (K : PySem.W.Frag) (mg : Str → Option Value) (W : WX) (S : Addr → Prop) (fps : Nat → List Addr) (lk : List Nat) (H : Hp) (E : Ends) (o : Out) : Prop :=
  match o with
  | .nx ρ' => ∀ S' fps' σ' H', Step S fps lk H S' fps' H' → Ok K S' fps' ρ' σ' H' → E.nx σ' H'
  | .bk ρ' => ∀ S' fps' σ' H', Step S fps lk H S' fps' H' → Ok K S' fps' ρ' σ' H' → E.bk σ' H'
  | .ct ρ' => ∀ S' fps' σ' H', Step S fps lk H S' fps' H' → Ok K S' fps' ρ' σ' H' → E.ct σ' H'
  | .rt d => ∀ v fp S' H', Fin S fps H S' H' fp → Rep K H' S' v d fp → E.rt v H'
  | .rs c ρ' => ∀ C S' fps' σ' H', mg c = some (.ref C) → Step S fps lk H S' fps' H' → Ok K S' fps' ρ' σ' H' → W (.ref C) none σ' H'
  | .stuck => False
def VS (K : PySem.W.Frag) (mg : Str → Option Value) {ι : Type} (X : ι → Cx) (st : Stmt) (F : List Nat → Ev → Out) : Prop :=
  ∀ W, (∀ i, Takes (X i) W) → ∃ t, (∀ i, PS (X i) st t) ∧ ∀ lk S fps ρ σ H E, Ok K S fps ρ σ H → SPost K mg W S fps lk H E (F lk ρ) → t E σ H
def VSs (K : PySem.W.Frag) (mg : Str → Option Value) {ι : Type} (X : ι → Cx) (st : List Stmt) (F : List Nat → Ev → Out) : Prop :=
  ∀ W, (∀ i, Takes (X i) W) → ∃ t, (∀ i, PSs (X i) st t) ∧ ∀ lk S fps ρ σ H E, Ok K S fps ρ σ H → SPost K mg W S fps lk H E (F lk ρ) → t E σ H
theorem ho_tup {t : Tg} {vs ws : List V} (h : t.isT = false) : HO.tup vs ≠ ho t ws := by
  intro e
  cases t with
  | tup => cases h
  | lst => exact HO.noConfusion e
  | dK ks => exact HO.noConfusion e
  | dT ks => exact HO.noConfusion e
section
variable {K : PySem.W.Frag} {S S1 S' : Addr → Prop} {fps fps1 fps' : Nat → List Addr} {lk : List Nat} {ρ ρ1 : Ev} {σ σ1 : L2.St} {H H1 H' : Hp}
theorem Step.refl : Step S fps lk H S fps H := ⟨fun _ _ h _ => h, fun _ _ _ h => ⟨rfl, .inr h⟩, fun _ h => h, fun _ h => h.imp id .inl⟩
theorem Step.out (a : Step S fps lk H S1 fps1 H1) (ok1 : Ok K S1 fps1 ρ1 σ1 H1) {b : Addr} {o : HO} (h : H b = some o) (hn : ∀ i, b ∉ fps i) : ∀ i, b ∉ fps1 i := fun i hi => by
  rcases a.new b (.inr ⟨i, hi⟩) with q | ⟨j, q⟩ | q
  · exact ok1.ns i b hi (a.sub b q)
  · exact hn j q
  · rw [h] at q; cases q
theorem Step.trans (a : Step S fps lk H S1 fps1 H1) (ok1 : Ok K S1 fps1 ρ1 σ1 H1) (b : Step S1 fps1 lk H1 S' fps' H') : Step S fps lk H S' fps' H' := by
  refine ⟨fun x o h hn => b.keep x o (a.keep x o h hn) (a.out ok1 h hn), fun r hr x hx => ?_, fun x h => b.sub x (a.sub x h), fun x h => ?_⟩
  · obtain ⟨e1, q⟩ := a.lock r hr x hx
    rcases q with q | q
    · obtain ⟨o, eo⟩ := ok1.st x q
      refine ⟨?_, .inl (b.sub x q)⟩
      rw [b.keep x o eo fun i hi => ok1.ns i x hi q, ← eo, e1]
    · obtain ⟨e2, q⟩ := b.lock r hr x q
      exact ⟨e2.trans e1, q⟩
  · rcases b.new x h with q | ⟨i, q⟩ | q
    · exact a.new x (.inl q)
    · exact a.new x (.inr ⟨i, q⟩)
    · by_cases hn : ∃ i, x ∈ fps i
      · exact .inr (.inl hn)
      · cases e : H x with
        | none => exact .inr (.inr rfl)
        | some o =>
          have := a.keep x o e fun i hi => hn ⟨i, hi⟩
          rw [q] at this; cases this
theorem Step.fin {fp : List Addr} (a : Step S fps lk H S1 fps1 H1) (ok1 : Ok K S1 fps1 ρ1 σ1 H1) (b : Fin S1 fps1 H1 S' H' fp) : Fin S fps H S' H' fp := by
  refine ⟨fun x o h hn => b.keep x o (a.keep x o h hn) (a.out ok1 h hn), fun x h => b.sub x (a.sub x h), fun x h => ?_, b.nd, b.ns, b.dom⟩
  rcases b.new x h with q | ⟨i, q⟩ | q
  · exact a.new x (.inl q)
  · exact a.new x (.inr ⟨i, q⟩)
  · by_cases hn : ∃ i, x ∈ fps i
    · exact .inr (.inl hn)
    · cases e : H x with
      | none => exact .inr (.inr rfl)
      | some o =>
        have := a.keep x o e fun i hi => hn ⟨i, hi⟩
        rw [q] at this; cases this
theorem Step.weak {lk' : List Nat} (a : Step S fps lk' H S1 fps1 H1) (h : ∀ r ∈ lk, r ∈ lk') : Step S fps lk H S1 fps1 H1 := ⟨a.keep, fun r hr => a.lock r (h r hr), a.sub, a.new⟩
theorem Step.tup (a : Step S fps lk H S1 fps1 H1) (ok : Ok K S fps ρ σ H) {x : Addr} {vs : List V} (h : H x = some (.tup vs)) : H1 x = some (.tup vs) :=
  a.keep x _ h fun i hi => by
    obtain ⟨t, ws, ht, q⟩ := ok.own i x hi
    rw [h] at q
    exact ho_tup ht (Option.some.inj q)
theorem SPost.step {mg : Str → Option Value} {W : WX} {E : Ends} {o : Out} (h : SPost K mg W S fps lk H E o) (a : Step S fps lk H S1 fps1 H1) (ok1 : Ok K S1 fps1 ρ1 σ1 H1) : SPost K mg W S1 fps1 lk H1 E o := by
  cases o with
  | nx ρ' => exact fun S' fps' σ' H' st ok => h S' fps' σ' H' (a.trans ok1 st) ok
  | bk ρ' => exact fun S' fps' σ' H' st ok => h S' fps' σ' H' (a.trans ok1 st) ok
  | ct ρ' => exact fun S' fps' σ' H' st ok => h S' fps' σ' H' (a.trans ok1 st) ok
  | rt d => exact fun v fp S' H' st r => h v fp S' H' (a.fin ok1 st) r
  | rs c ρ' => exact fun C S' fps' σ' H' hm st ok => h C S' fps' σ' H' hm (a.trans ok1 st) ok
  | stuck => exact h
theorem SPost.lkm {mg : Str → Option Value} {W : WX} {E : Ends} {o : Out} {lk' : List Nat} (h : SPost K mg W S fps lk H E o) (hl : ∀ r ∈ lk, r ∈ lk') : SPost K mg W S fps lk' H E o := by
  cases o with
  | nx ρ' => exact fun S' fps' σ' H' st ok => h S' fps' σ' H' (st.weak hl) ok
  | bk ρ' => exact fun S' fps' σ' H' st ok => h S' fps' σ' H' (st.weak hl) ok
  | ct ρ' => exact fun S' fps' σ' H' st ok => h S' fps' σ' H' (st.weak hl) ok
  | rt d => exact h
  | rs c ρ' => exact fun C S' fps' σ' H' hm st ok => h C S' fps' σ' H' hm (st.weak hl) ok
  | stuck => exact h
theorem Grow.step (g : Grow S H S1 H1) (ok : Ok K S fps ρ σ H) : Step S fps lk H S1 fps H1 := by
  refine ⟨fun a o h _ => g.same a o h, fun r hr a ha => ⟨?_, .inr ha⟩, g.sub, fun a h => ?_⟩
  · obtain ⟨t, vs, _, e⟩ := ok.own r a ha
    rw [g.same a _ e, e]
  · rcases h with h | h
    · exact (g.new a h).imp id fun q => .inr q.1
    · exact .inr (.inl h)
end

/-! ### blocks -/
section
variable {ι : Type} {X : ι → Cx} {P : Program} {w : World} {K : PySem.W.Frag} {mg : Str → Option Value} {base : Heap} {N : List Str} {k : Nat} {st : Stmt} {rest : List Stmt} {F G : List Nat → Ev → Out} {pos : Pos}
def sNil : List Nat → Ev → Out := fun _ ρ => .nx ρ
def sSeq (F G : List Nat → Ev → Out) : List Nat → Ev → Out := fun lk ρ => match F lk ρ with
  | .nx ρ' => G lk ρ'
  | .bk ρ' => .bk ρ'
  | .ct ρ' => .ct ρ'
  | .rt d => .rt d
  | .rs c ρ' => .rs c ρ'
  | .stuck => .stuck
theorem vss_nil : VSs K mg X [] sNil := fun W tk => ⟨_, fun _ => pss_nil, fun lk S fps ρ σ H E ok h => h S fps σ H Step.refl ok⟩
theorem vss_one (h : VS K mg X st F) : VSs K mg X [st] F := fun W tk => let ⟨t, p, q⟩ := h W tk; ⟨t, fun i => pss_one (p i), q⟩
theorem vss_cons (h1 : VS K mg X st F) (h2 : VSs K mg X rest G) : VSs K mg X (st :: rest) (sSeq F G) := by
  intro W tk
  obtain ⟨t1, p1, q1⟩ := h1 W tk
  obtain ⟨t2, p2, q2⟩ := h2 W tk
  refine ⟨_, fun i => pss_cons (p1 i) (p2 i), fun lk S fps ρ σ H E ok h => ?_⟩
  unfold sSeq at h
  refine q1 lk S fps ρ σ H _ ok ?_
  cases e : F lk ρ with
  | nx ρ1 =>
    rw [e] at h
    exact fun S1 fps1 σ1 H1 st1 ok1 => q2 lk S1 fps1 ρ1 σ1 H1 E ok1 (SPost.step h st1 ok1)
  | bk ρ1 => rw [e] at h; exact h
  | ct ρ1 => rw [e] at h; exact h
  | rt d => rw [e] at h; exact h
  | rs c ρ1 => rw [e] at h; exact h
  | stuck => rw [e] at h; exact h
theorem vs_pass : VS K mg X (.Pass pos) sNil := fun W tk => ⟨_, fun _ => ps_pass, fun lk S fps ρ σ H E ok h => h S fps σ H Step.refl ok⟩
def sBk : List Nat → Ev → Out := fun _ ρ => .bk ρ
def sCt : List Nat → Ev → Out := fun _ ρ => .ct ρ
theorem vs_break : VS K mg X (.Break pos) sBk := fun W tk => ⟨_, fun _ => ps_break, fun lk S fps ρ σ H E ok h => h S fps σ H Step.refl ok⟩
theorem vs_continue : VS K mg X (.Continue pos) sCt := fun W tk => ⟨_, fun _ => ps_continue, fun lk S fps ρ σ H E ok h => h S fps σ H Step.refl ok⟩
def sIf (c : Ev → Res Bool) (F G : List Nat → Ev → Out) : List Nat → Ev → Out := fun lk ρ => match c ρ with
  | .ok b => if b = true then F lk ρ else G lk ρ
  | .rs c => .rs c ρ
  | .stuck => .stuck
theorem rs_grow {W : WX} {S : Addr → Prop} {fps : Nat → List Addr} {lk : List Nat} {ρ : Ev} {σ : L2.St} {H : Hp} {E : Ends} {c : Str} (ok : Ok K S fps ρ σ H) (h : SPost K mg W S fps lk H E (.rs c ρ)) :
    ∀ C H', mg c = some (.ref C) → Same H H' → W (.ref C) none σ H' := fun C H' hm e =>
  h C S fps σ H' hm (Grow.step (K := K) ⟨e, fun _ z => z, fun _ z => .inl z⟩ ok) (ok.grow ⟨e, fun _ z => z, fun _ z => .inl z⟩)
theorem vs_if {c : Expr} {a b : List Stmt} {f : Ev → Res Bool} (hc : VT K mg X c f) (ha : VSs K mg X a F) (hb : VSs K mg X b G) : VS K mg X (.If c a b pos) (sIf f F G) := by
  intro W tk
  obtain ⟨tc, pc, qc⟩ := hc W tk
  obtain ⟨ta, pa, qa⟩ := ha W tk
  obtain ⟨tb, pb, qb⟩ := hb W tk
  refine ⟨_, fun i => ps_if (pc i) (pa i) (pb i), fun lk S fps ρ σ H E ok h => ?_⟩
  unfold sIf at h
  refine qc S fps ρ σ H _ ok ?_
  cases e : f ρ with
  | stuck => rw [e] at h; exact h
  | rs c => rw [e] at h; exact rs_grow ok h
  | ok b =>
    rw [e] at h
    intro S1 H1 g
    cases b with
    | true => exact qa lk S1 fps ρ σ H1 E (ok.grow g) (SPost.step h (g.step ok) (ok.grow g))
    | false => exact qb lk S1 fps ρ σ H1 E (ok.grow g) (SPost.step h (g.step ok) (ok.grow g))

/-! ### return, and expressions alone -/
def sRet (f : Ev → Res (D × List Nat)) : List Nat → Ev → Out := fun _ ρ => match f ρ with
  | .ok r => .rt r.1
  | .rs c => .rs c ρ
  | .stuck => .stuck
theorem vs_ret {e : Expr} {f : Ev → Res (D × List Nat)} (he : VE K mg X e f) : VS K mg X (.Return (some e) pos) (sRet f) := by
  intro W tk
  obtain ⟨t, p, q⟩ := he W tk
  refine ⟨_, fun i => ps_ret (p i), fun lk S fps ρ σ H E ok h => ?_⟩
  unfold sRet at h
  refine q S fps ρ σ H _ ok ?_
  cases e1 : f ρ with
  | stuck => rw [e1] at h; exact h
  | rs c => rw [e1] at h; exact rs_grow ok h
  | ok r =>
    rw [e1] at h
    intro v fp S1 H1 g r1 n1 z1
    refine h v fp (fun a => S1 a ∨ ∃ i, a ∈ fps i) H1 ⟨fun a o h _ => g.same a o h, fun a h => .inl (g.sub a h), fun a h => ?_, n1, fun a ha hs => ?_, fun a hs => ?_⟩ (r1.same (fun a q => q.imp id fun ⟨i, _, q⟩ => ⟨i, q⟩) (Same.refl _))
    · rcases h with (h | h) | h
      · exact (g.new a h).imp id fun q => .inr q.1
      · exact .inr (.inl h)
      · exact .inr (.inr (z1 a h).1)
    · rcases hs with hs | ⟨i, hs⟩
      · exact (z1 a ha).2 hs
      · obtain ⟨t, vs, _, e⟩ := ok.own i a hs
        rw [(z1 a ha).1] at e; cases e
    · rcases hs with hs | ⟨i, hs⟩
      · exact (ok.grow g).st a hs
      · obtain ⟨t, vs, _, e⟩ := (ok.grow g).own i a hs
        exact ⟨_, e⟩
def sRetN : List Nat → Ev → Out := fun _ _ => .rt .non
theorem vs_retN : VS K mg X (.Return none pos) sRetN := fun W tk => ⟨_, fun _ => ps_retN, fun lk S fps ρ σ H E ok h =>
  h .non [] S H ⟨fun _ _ q _ => q, fun _ q => q, fun a q => q.elim .inl (fun z => by cases z), List.nodup_nil, (fun a z => by cases z), ok.st⟩ .non⟩
/-- return x: what x owns goes out -/
def sRetV (i : Nat) : List Nat → Ev → Out := fun _ ρ => match ρ[i]? with
  | some (some s) => if s.dp.contains i then .stuck else .rt s.d
  | _ => .stuck
theorem vs_retV {i : Nat} {x : Str} {p : Pos} (hN : ∀ i', (X i').N[i]? = some x := by intro _; rfl) (hv : ∀ i, Vis (X i).env.scope x := by intro _; first | exact Or.inl rfl | exact Or.inr (Or.inl rfl) | exact Or.inr (Or.inr rfl)) (hd : (x == ("__debug__" : Str)) = false := by decide)
    (hcd : (x == ("__classdict__" : Str)) = false := by decide) : VS K mg X (.Return (some (.Name x p)) pos) (sRetV i) := by
  intro W tk
  refine ⟨_, fun i' => ps_ret (pe_var (hN i') (hv i') hd hcd), fun lk S fps ρ σ H E ok h => ?_⟩
  unfold sRetV at h
  revert h
  split
  · rename_i s e
    split
    · intro h; exact h.elim
    · rename_i hc
      intro h
      have hc : i ∉ s.dp := by simpa using hc
      obtain ⟨v, e1, r⟩ := ok.rep i s e
      refine ⟨v, e1, h v (fps i) (fun a => S a ∨ ∃ j, j ≠ i ∧ a ∈ fps j) H ⟨fun a o h _ => h, fun a h => .inl h, fun a h => ?_, ok.nd i, fun a ha hs => ?_, fun a hs => ?_⟩ (r.same (fun a q => ?_) (Same.refl _))⟩
      · rcases h with (h | ⟨j, _, h⟩) | h
        · exact .inl h
        · exact .inr (.inl ⟨j, h⟩)
        · exact .inr (.inl ⟨i, h⟩)
      · rcases hs with hs | ⟨j, hj, hs⟩
        · exact ok.ns i a ha hs
        · exact hj (ok.dj j i a hs ha)
      · rcases hs with hs | ⟨j, _, hs⟩
        · exact ok.st a hs
        · obtain ⟨t, vs, _, q⟩ := ok.own j a hs
          exact ⟨_, q⟩
      · rcases q with q | ⟨j, hj, q⟩
        · exact .inl q
        · exact .inr ⟨j, fun e => hc (e ▸ hj), q⟩
  · intro h; exact h.elim
def sExp (f : Ev → Res (D × List Nat)) : List Nat → Ev → Out := fun _ ρ => match f ρ with
  | .ok _ => .nx ρ
  | .rs c => .rs c ρ
  | .stuck => .stuck
theorem vs_expr {e : Expr} {f : Ev → Res (D × List Nat)} (he : VE K mg X e f) (hs : ∀ i, swapsWith e none pos.line (X i).env = pure false := by intro _; rfl) : VS K mg X (.Expr e pos) (sExp f) := by
  intro W tk
  obtain ⟨t, p, q⟩ := he W tk
  refine ⟨_, fun i => ps_expr (p i) (hs i), fun lk S fps ρ σ H E ok h => ?_⟩
  unfold sExp at h
  refine q S fps ρ σ H _ ok ?_
  cases e1 : f ρ with
  | stuck => rw [e1] at h; exact h
  | rs c => rw [e1] at h; exact rs_grow ok h
  | ok r =>
    rw [e1] at h
    intro v fp S1 H1 g r1 n1 z1
    exact h S1 fps σ H1 (g.step ok) (ok.grow g)

/-! ### names are stored -/
def er (i : Nat) (s : Option Slot) : Option Slot := s.map fun s => ⟨s.d, s.dp.filter fun r => r != i⟩
def asg (i : Nat) (r : D × List Nat) (ρ : Ev) : Ev := (ρ.map (er i)).set i (some ⟨r.1, r.2.filter fun r => r != i⟩)
theorem asg_ok {K : PySem.W.Frag} {S S1 : Addr → Prop} {fps : Nat → List Addr} {lk : List Nat} {ρ : Ev} {σ : L2.St} {H H1 : Hp} {i : Nat} {r : D × List Nat} {v : V} {fp : List Addr} (ok : Ok K S fps ρ σ H) (g : Grow S H S1 H1)
    (rp : Rep K H1 (Reg S1 fps r.2) v r.1 fp) (n : fp.Nodup) (z : ∀ a ∈ fp, H a = none ∧ ¬ S1 a) :
    Ok K (fun a => S1 a ∨ a ∈ fps i) (fun j => if j = i then fp else fps j) (asg i r ρ) (σ.set i (some v)) H1 ∧ Step S fps lk H (fun a => S1 a ∨ a ∈ fps i) (fun j => if j = i then fp else fps j) H1 := by
  have ok1 := ok.grow g
  have reg : ∀ dp a, Reg S1 fps dp a → Reg (fun a => S1 a ∨ a ∈ fps i) (fun j => if j = i then fp else fps j) (dp.filter fun r => r != i) a := fun dp a h => by
    rcases h with h | ⟨q, hq, h⟩
    · exact .inl (.inl h)
    · by_cases e : q = i
      · subst e; exact .inl (.inr h)
      · exact .inr ⟨q, List.mem_filter.mpr ⟨hq, by simpa using e⟩, by show a ∈ if q = i then fp else fps q; rw [if_neg e]; exact h⟩
  refine ⟨⟨?_, fun j s e => ?_, fun j => ?_, fun j k a h1 h2 => ?_, fun j a h1 hs => ?_, fun j a h => ?_, fun a h => ?_⟩, ⟨fun a o h _ => g.same a o h, fun q hq a ha => ?_, fun a h => .inl (g.sub a h), fun a h => ?_⟩⟩
  · rw [asg, List.length_set, List.length_set, List.length_map, ok.len]
  · unfold asg at e
    by_cases hj : j = i
    · subst hj
      have hlt : j < ρ.length := by
        rw [List.getElem?_set] at e
        simp only [if_true, List.length_map] at e
        split at e
        · assumption
        · cases e
      rw [List.getElem?_set_self (by simpa using hlt)] at e
      cases e
      refine ⟨v, by rw [List.getElem?_set_self (by rw [ok.len]; exact hlt)], ?_⟩
      rw [if_pos rfl]
      exact rp.same (reg _) (Same.refl _)
    · rw [List.getElem?_set_ne (Ne.symm hj), List.getElem?_map] at e
      cases e2 : ρ[j]? with
      | none => rw [e2] at e; cases e
      | some o =>
        cases o with
        | none => rw [e2] at e; cases e
        | some s0 =>
          rw [e2] at e
          cases e
          obtain ⟨w, hw, r1⟩ := ok1.rep j s0 e2
          refine ⟨w, by rw [List.getElem?_set_ne (Ne.symm hj)]; exact hw, ?_⟩
          rw [if_neg hj]
          exact r1.same (reg _) (Same.refl _)
  · split
    · exact n
    · exact ok.nd j
  · split at h1 <;> split at h2
    · rw [‹j = i›, ‹k = i›]
    · obtain ⟨t, vs, _, q⟩ := ok.own k a h2
      rw [(z a h1).1] at q; cases q
    · obtain ⟨t, vs, _, q⟩ := ok.own j a h1
      rw [(z a h2).1] at q; cases q
    · exact ok.dj j k a h1 h2
  · split at h1
    · rcases hs with hs | hs
      · exact (z a h1).2 hs
      · obtain ⟨t, vs, _, q⟩ := ok.own i a hs
        rw [(z a h1).1] at q; cases q
    · rename_i hji
      rcases hs with hs | hs
      · exact ok1.ns j a h1 hs
      · exact hji (ok.dj j i a h1 hs)
  · split at h
    · exact rp.there a h
    · exact ok1.own j a h
  · rcases h with h | h
    · exact ok1.st a h
    · obtain ⟨t, vs, _, q⟩ := ok1.own i a h
      exact ⟨_, q⟩
  · obtain ⟨t, vs, _, e⟩ := ok.own q a ha
    refine ⟨by rw [g.same a _ e, e], ?_⟩
    by_cases hqi : q = i
    · subst hqi; exact .inl (.inr ha)
    · exact .inr (by show a ∈ if q = i then fp else fps q; rw [if_neg hqi]; exact ha)
  · rcases h with (h | h) | ⟨j, h⟩
    · exact (g.new a h).imp id fun q => .inr q.1
    · exact .inr (.inl ⟨i, h⟩)
    · split at h
      · exact .inr (.inr (z a h).1)
      · exact .inr (.inl ⟨j, h⟩)
def sSet (i : Nat) (f : Ev → Res (D × List Nat)) : List Nat → Ev → Out := fun _ ρ => match f ρ with
  | .ok r => .nx (asg i r ρ)
  | .rs c => .rs c ρ
  | .stuck => .stuck
theorem set_sem {W : WX} {i : Nat} {f : Ev → Res (D × List Nat)} {t : TE} {S : Addr → Prop} {fps : Nat → List Addr} {lk : List Nat} {ρ : Ev} {σ : L2.St} {H : Hp} {E : Ends}
    (q : ∀ S fps ρ σ H Q, Ok K S fps ρ σ H → EPost K mg W S fps σ H (f ρ) Q → t σ H Q) (ok : Ok K S fps ρ σ H) (h : SPost K mg W S fps lk H E (sSet i f lk ρ)) : t σ H fun x H1 => E.nx (σ.set i (some x)) H1 := by
  unfold sSet at h
  refine q S fps ρ σ H _ ok ?_
  cases e1 : f ρ with
  | stuck => rw [e1] at h; exact h
  | rs c => rw [e1] at h; exact rs_grow ok h
  | ok r =>
    rw [e1] at h
    intro v fp S1 H1 g r1 n1 z1
    obtain ⟨ok2, st2⟩ := asg_ok (i := i) (lk := lk) ok g r1 n1 z1
    exact h _ _ _ H1 st2 ok2
theorem vs_set {i : Nat} {x : Str} {e : Expr} {f : Ev → Res (D × List Nat)} {pos' : Pos} (hF : Fam P w K mg base N k X) (he : VE K mg X e f) (hi : ∀ i', (X i').N[i]? = some x := by intro _; rfl) (hx : ∀ i, Loc (X i).env.scope x := by intro _; first | exact .inl rfl | exact .inr rfl)
    (hs : ∀ i, swapsWith e (some (.Name x pos')) pos.line (X i).env = pure false := by intro _; rfl) (hf : ∀ i, (X i).fn x = true ∨ (X i).env.scope.names.lookup x = some .local := by intro _; first | exact .inl rfl | exact .inr rfl) :
    VS K mg X (.Assign [.Name x pos'] e pos) (sSet i f) := by
  intro W tk
  obtain ⟨t, p, q⟩ := he W tk
  exact ⟨_, fun i' => ps_set (by rw [hF.nn i']; exact hF.nd) (hi i') (hx i') (p i') (hs i') (hf i'), fun lk S fps ρ σ H E ok h => set_sem q ok h⟩
theorem vs_aug {i : Nat} {x : Str} {e : Expr} {op : Operator} {r : R2} {g : D → D → Option D} {f : Ev → Res (D × List Nat)} {pos' : Pos} (hF : Fam P w K mg base N k X) (ho : ∀ i, PIp (X i) op r) (hp : Prim2 K r g) (he : VE K mg X e f) (hi : ∀ i', (X i').N[i]? = some x := by intro _; rfl)
    (hx : ∀ i, Loc (X i).env.scope x := by intro _; first | exact .inl rfl | exact .inr rfl) (hf : ∀ i, (X i).fn x = true ∨ (X i).env.scope.names.lookup x = some .local := by intro _; first | exact .inl rfl | exact .inr rfl) :
    VS K mg X (.AugAssign (.Name x pos') op e pos) (sSet i (eBin g (eVar i) f)) := by
  intro W tk
  obtain ⟨t, p, q⟩ := he W tk
  refine ⟨_, fun i' => ps_aug (by rw [hF.nn i']; exact hF.nd) (hi i') (hx i') (p i') (ho i') (hf i'), fun lk S fps ρ σ H E ok h => ?_⟩
  refine set_sem (t := tOp r (tVar i) t) (fun S fps ρ σ H Q ok h => bin_sem hp (fun S fps ρ σ H Q ok h => ?_) q ok h) ok h
  unfold eVar at h
  revert h
  split
  · intro h
    rename_i s e
    obtain ⟨v, e1, r⟩ := ok.rep i s e
    refine ⟨v, e1, Val.fin (K := K) h Grow.refl (r.frz (Reg.mono (fun _ z => z) fun _ z => List.mem_cons_of_mem _ z) fun a ha => .inr ⟨i, List.mem_cons_self, ha⟩) List.nodup_nil fun a ha => ?_⟩
    cases ha
  · intro h; exact h.elim
end
end Py

set_option Elab.async false
set_option linter.all false
set_option maxRecDepth 100000
namespace Py
open PySem PySem.Spec L2

/-! ### what is forgotten -/
def kept (ρ0 : Ev) (r : Nat) : Bool := match ρ0[r]? with
  | some (some _) => true
  | _ => false
def cleanA (ρ0 : Ev) : Ev → Ev → Ev
  | _, [] => []
  | [], _ :: ss => none :: cleanA ρ0 [] ss
  | none :: as, _ :: ss => none :: cleanA ρ0 as ss
  | some _ :: as, s :: ss => (s.map fun s => ⟨s.d, s.dp.filter (kept ρ0)⟩) :: cleanA ρ0 as ss
def clean (ρ0 ρ : Ev) : Ev := cleanA ρ0 ρ0 ρ
theorem cleanA_length (ρ0 : Ev) : ∀ as ss : Ev, (cleanA ρ0 as ss).length = ss.length
  | as, [] => by cases as with | nil => rfl | cons a as => cases a <;> rfl
  | [], s :: ss => by rw [cleanA, List.length_cons, cleanA_length ρ0 [] ss, List.length_cons]
  | none :: as, s :: ss => by rw [cleanA, List.length_cons, cleanA_length ρ0 as ss, List.length_cons]
  | some _ :: as, s :: ss => by rw [cleanA, List.length_cons, cleanA_length ρ0 as ss, List.length_cons]
theorem cleanA_get (ρ0 : Ev) : ∀ (as ss : Ev) (j : Nat) (s : Slot), (cleanA ρ0 as ss)[j]? = some (some s) → (∃ a, as[j]? = some (some a)) ∧ ∃ s0, ss[j]? = some (some s0) ∧ s = ⟨s0.d, s0.dp.filter (kept ρ0)⟩
  | as, [], j, s, h => by
    have e : cleanA ρ0 as [] = [] := by cases as with | nil => rfl | cons a as => cases a <;> rfl
    rw [e] at h; cases h
  | [], s' :: ss, j, s, h => by
    rw [cleanA] at h
    cases j with
    | zero => cases h
    | succ j =>
      obtain ⟨⟨a, ha⟩, _⟩ := cleanA_get ρ0 [] ss j s (by simpa using h)
      cases ha
  | none :: as, s' :: ss, j, s, h => by
    rw [cleanA] at h
    cases j with
    | zero => cases h
    | succ j => simpa using cleanA_get ρ0 as ss j s (by simpa using h)
  | some b :: as, s' :: ss, j, s, h => by
    rw [cleanA] at h
    cases j with
    | zero =>
      cases s' with
      | none => cases h
      | some s0 => cases h; exact ⟨⟨b, rfl⟩, s0, rfl, rfl⟩
    | succ j => simpa using cleanA_get ρ0 as ss j s (by simpa using h)
theorem clean_get {ρ0 ρ : Ev} {j : Nat} {s : Slot} (h : (clean ρ0 ρ)[j]? = some (some s)) : kept ρ0 j = true ∧ ∃ s0, ρ[j]? = some (some s0) ∧ s = ⟨s0.d, s0.dp.filter (kept ρ0)⟩ := by
  obtain ⟨⟨a, ha⟩, q⟩ := cleanA_get ρ0 ρ0 ρ j s h
  exact ⟨by unfold kept; rw [ha], q⟩
section
variable {K : PySem.W.Frag} {S S1 S' : Addr → Prop} {fps fps1 fps' : Nat → List Addr} {lk : List Nat} {ρ ρ1 : Ev} {σ σ1 : L2.St} {H H1 H' : Hp}
theorem clean_ok {ρ0 : Ev} (ok : Ok K S fps ρ σ H) : ∃ S' fps', Ok K S' fps' (clean ρ0 ρ) σ H ∧ Step S fps lk H S' fps' H := by
  have reg : ∀ dp a, Reg S fps dp a → Reg (fun a => S a ∨ ∃ j, kept ρ0 j = false ∧ a ∈ fps j) (fun j => if kept ρ0 j = true then fps j else []) (dp.filter (kept ρ0)) a := fun dp a h => by
    rcases h with h | ⟨q, hq, h⟩
    · exact .inl (.inl h)
    · cases e : kept ρ0 q with
      | false => exact .inl (.inr ⟨q, e, h⟩)
      | true => exact .inr ⟨q, List.mem_filter.mpr ⟨hq, e⟩, by show a ∈ if kept ρ0 q = true then fps q else []; rw [if_pos e]; exact h⟩
  have sub : ∀ j a, a ∈ (if kept ρ0 j = true then fps j else []) → kept ρ0 j = true ∧ a ∈ fps j := fun j a h => by
    split at h
    · exact ⟨‹_›, h⟩
    · cases h
  refine ⟨fun a => S a ∨ ∃ j, kept ρ0 j = false ∧ a ∈ fps j, fun j => if kept ρ0 j = true then fps j else [], ⟨?_, fun j s e => ?_, fun j => ?_, fun j k a h1 h2 => ?_, fun j a h1 hs => ?_, fun j a h => ?_, fun a h => ?_⟩, ⟨fun _ _ h _ => h, fun r hr a ha => ⟨rfl, ?_⟩, fun a h => .inl h, fun a h => ?_⟩⟩
  · rw [clean, cleanA_length, ok.len]
  · obtain ⟨hk, s0, e0, rfl⟩ := clean_get e
    obtain ⟨v, hv, r⟩ := ok.rep j s0 e0
    refine ⟨v, hv, ?_⟩
    rw [if_pos hk]
    exact r.same (reg _) (Same.refl _)
  · split
    · exact ok.nd j
    · exact List.nodup_nil
  · exact ok.dj j k a (sub j a h1).2 (sub k a h2).2
  · rcases hs with hs | ⟨k, hk, hs⟩
    · exact ok.ns j a (sub j a h1).2 hs
    · have := ok.dj j k a (sub j a h1).2 hs
      subst this
      rw [(sub _ a h1).1] at hk; cases hk
  · exact ok.own j a (sub j a h).2
  · rcases h with h | ⟨j, _, h⟩
    · exact ok.st a h
    · obtain ⟨t, vs, _, q⟩ := ok.own j a h
      exact ⟨_, q⟩
  · cases e : kept ρ0 r with
    | false => exact .inl (.inr ⟨r, e, ha⟩)
    | true => exact .inr (by show a ∈ if true = true then fps r else []; rw [if_pos rfl]; exact ha)
  · rcases h with (h | ⟨j, _, h⟩) | ⟨j, h⟩
    · exact .inl h
    · exact .inr (.inl ⟨j, h⟩)
    · exact .inr (.inl ⟨j, (sub j a h).2⟩)
end

/-! ### targets -/
theorem wipe_get (σ : L2.St) : ∀ (vs : List Nat) (j : Nat), (wipe σ vs)[j]? = if j ∈ vs ∧ j < σ.length then some none else σ[j]?
  | [], j => by rw [wipe, if_neg (by simp)]
  | v :: vs, j => by
    rw [wipe, List.getElem?_set, wipe_length, wipe_get σ vs j]
    by_cases hv : v = j
    · subst hv
      rw [if_pos rfl]
      by_cases hl : v < σ.length
      · rw [if_pos hl, if_pos ⟨List.mem_cons_self, hl⟩]
      · rw [if_neg hl, if_neg (fun z => hl z.2)]
        exact (List.getElem?_eq_none (by omega)).symm
    · rw [if_neg hv]
      by_cases hm : j ∈ vs ∧ j < σ.length
      · rw [if_pos hm, if_pos ⟨List.mem_cons_of_mem _ hm.1, hm.2⟩]
      · rw [if_neg hm, if_neg (fun z => hm ⟨(List.mem_cons.mp z.1).resolve_left (fun e => hv e.symm), z.2⟩)]
theorem wipe_set {σ : L2.St} {i : Nat} {x : Option V} {vs : List Nat} (h : i ∈ vs) : wipe (σ.set i x) vs = wipe σ vs := by
  refine List.ext_getElem? fun j => ?_
  rw [wipe_get, wipe_get, List.length_set]
  by_cases hm : j ∈ vs ∧ j < σ.length
  · rw [if_pos hm, if_pos hm]
  · rw [if_neg hm, if_neg hm, List.getElem?_set]
    by_cases hi : i = j
    · subst hi
      rw [if_pos rfl, if_neg (fun z => hm ⟨h, z⟩)]
      exact (List.getElem?_eq_none (by have : ¬ i < σ.length := fun z => hm ⟨h, z⟩; omega)).symm
    · rw [if_neg hi]
theorem wipe_wipe (σ : L2.St) (vs : List Nat) : wipe (wipe σ vs) vs = wipe σ vs := by
  refine List.ext_getElem? fun j => ?_
  rw [wipe_get, wipe_length, wipe_get]
  split <;> rfl
/-- what a target's store does: only ts are touched -/
structure Puts (ts : List Nat) (S : Addr → Prop) (fps : Nat → List Addr) (σ : L2.St) (S' : Addr → Prop) (fps' : Nat → List Addr) (σ' : L2.St) : Prop where
  fp : ∀ j a, a ∈ fps' j → a ∈ fps j
  st : ∀ a, S' a → S a ∨ ∃ i ∈ ts, a ∈ fps i
  wp : ∀ us : List Nat, (∀ i ∈ ts, i ∈ us) → wipe σ' us = wipe σ us
def VG (K : PySem.W.Frag) {ι : Type} (X : ι → Cx) (tg : Expr) (ts : List Nat) (G : D × List Nat → Ev → Option Ev) : Prop :=
  ∃ t, (∀ i, PG (X i) tg t) ∧ ∀ S fps lk ρ σ H v r ρ' Q, Ok K S fps ρ σ H → Rep K H (Reg S fps r.2) v r.1 [] → G r ρ = some ρ' →
    (∀ S' fps' σ', Ok K S' fps' ρ' σ' H → Step S fps lk H S' fps' H → Puts ts S fps σ S' fps' σ' → Q σ' H) → t v σ H Q
def gNm (i : Nat) : D × List Nat → Ev → Option Ev := fun r ρ => some (asg i r ρ)
def VGs (K : PySem.W.Frag) {ι : Type} (X : ι → Cx) (es : List Expr) (ts : List Nat) (G : List D → List Nat → Ev → Option Ev) : Prop :=
  ∃ t, (∀ i, PGs (X i) es t) ∧ ∀ S fps lk ρ σ H vs ds p ρ' Q, Ok K S fps ρ σ H → RepL K H (Reg S fps p) vs ds [] → G ds p ρ = some ρ' →
    (∀ S' fps' σ', Ok K S' fps' ρ' σ' H → Step S fps lk H S' fps' H → Puts ts S fps σ S' fps' σ' → Q σ' H) → t vs σ H Q
def gN0 : List D → List Nat → Ev → Option Ev := fun ds _ ρ => match ds with
  | [] => some ρ
  | _ => none
def gC (G : D × List Nat → Ev → Option Ev) (Gs : List D → List Nat → Ev → Option Ev) : List D → List Nat → Ev → Option Ev := fun ds p ρ => match ds with
  | d :: r => (G (mk d p) ρ).bind fun ρ' => Gs r p ρ'
  | [] => none
def gTp (Gs : List D → List Nat → Ev → Option Ev) : D × List Nat → Ev → Option Ev := fun r ρ => match r.1 with
  | .node _ .tup ds => Gs ds r.2 ρ
  | _ => none
section
variable {ι : Type} {X : ι → Cx} {P : Program} {w : World} {K : PySem.W.Frag} {mg : Str → Option Value} {base : Heap} {N : List Str} {k : Nat} {pos : Pos}
theorem vg_name {i : Nat} {x : Str} (hF : Fam P w K mg base N k X) (hi : ∀ i', (X i').N[i]? = some x := by intro _; rfl) (hx : ∀ i, Loc (X i).env.scope x := by intro _; first | exact .inl rfl | exact .inr rfl) (hf : ∀ i, (X i).fn x = true ∨ (X i).env.scope.names.lookup x = some .local := by intro _; first | exact .inl rfl | exact .inr rfl) : VG K X (.Name x pos) [i] (gNm i) := by
  refine ⟨_, fun i' => pg_name (by rw [hF.nn i']; exact hF.nd) (hi i') (hx i') (hf i'), fun S fps lk ρ σ H v r ρ' Q ok rp e h => ?_⟩
  cases e
  obtain ⟨ok2, st2⟩ := asg_ok (i := i) (lk := lk) ok Grow.refl rp List.nodup_nil (fun a z => by cases z)
  refine h _ _ _ ok2 st2 ⟨fun j a h => ?_, fun a h => h.imp id fun h => ⟨i, List.mem_cons_self, h⟩, fun us hu => wipe_set (hu i List.mem_cons_self)⟩
  split at h
  · cases h
  · exact h
theorem vgs_nil : VGs K X [] [] gN0 := by
  refine ⟨_, fun _ => pgs_nil, fun S fps lk ρ σ H vs ds p ρ' Q ok rp e h => ?_⟩
  generalize ef : ([] : List Addr) = fp at rp
  cases rp with
  | nil => cases e; exact ⟨rfl, h _ _ _ ok Step.refl ⟨fun _ _ z => z, fun _ z => .inl z, fun _ _ => rfl⟩⟩
  | cons => cases e
theorem nil_app {f g : List Addr} (h : f ++ g = []) : f = [] ∧ g = [] := List.append_eq_nil_iff.mp h
theorem RepL.head {K : PySem.W.Frag} {H : Hp} {R : Addr → Prop} {vs : List V} {d : D} {ds : List D} (h : RepL K H R vs (d :: ds) []) : ∃ v r, vs = v :: r ∧ Rep K H R v d [] ∧ RepL K H R r ds [] := by
  generalize e : ([] : List Addr) = fp at h
  cases h with
  | cons a b =>
    obtain ⟨rfl, rfl⟩ := nil_app e.symm
    exact ⟨_, _, rfl, a, b⟩
theorem Step.reg {S S' : Addr → Prop} {fps fps' : Nat → List Addr} {lk : List Nat} {H H' : Hp} (st : Step S fps lk H S' fps' H') {p : List Nat} (hp : ∀ r ∈ p, r ∈ lk) {a : Addr} (h : Reg S fps p a) : Reg S' fps' p a := by
  rcases h with h | ⟨r, hr, h⟩
  · exact .inl (st.sub a h)
  · exact (st.lock r (hp r hr) a h).2.imp id fun q => ⟨r, hr, q⟩
theorem Rep.mkd {K : PySem.W.Frag} {H : Hp} {S : Addr → Prop} {fps : Nat → List Addr} {v : V} {d : D} {p : List Nat} {f : List Addr} (r : Rep K H (Reg S fps p) v d f) : Rep K H (Reg S fps (mk d p).2) v (mk d p).1 f := by
  show Rep K H (Reg S fps (if noShr d = true then [] else p)) v d f
  by_cases q : noShr d = true
  · rw [if_pos q]; exact r.alone q fun _ _ z => z
  · rw [if_neg q]; exact r
theorem vgs_cons {e : Expr} {es : List Expr} {t1' t2' : List Nat} {G : D × List Nat → Ev → Option Ev} {Gs : List D → List Nat → Ev → Option Ev} (h1 : VG K X e t1' G) (h2 : VGs K X es t2' Gs) (hs : ∀ i, (assignEach (e :: es) (X i).env).map (·.2) = assign e (X i).env :: (assignEach es (X i).env).map (·.2) := by intro _; rfl) : VGs K X (e :: es) (t1' ++ t2') (gC G Gs) := by
  obtain ⟨t1, p1, q1⟩ := h1
  obtain ⟨t2, p2, q2⟩ := h2
  refine ⟨_, fun i => pgs_cons (p1 i) (p2 i) (hs i), fun S fps lk ρ σ H vs ds p ρ' Q ok rp e h => ?_⟩
  cases ds with
  | nil => cases e
  | cons d ds =>
    obtain ⟨v, r, rfl, r1, r2⟩ := rp.head
    refine ⟨v, r, rfl, ?_⟩
    unfold gC at e
    dsimp only at e
    cases e1 : G (mk d p) ρ with
    | none => rw [e1] at e; cases e
    | some ρ1 =>
      rw [e1] at e
      refine q1 S fps (p ++ lk) ρ σ H v (mk d p) ρ1 _ ok r1.mkd e1 fun S1 fps1 σ1 ok1 st1 u1 => ?_
      refine q2 S1 fps1 lk ρ1 σ1 H r ds p ρ' Q ok1 (r2.same (fun a z => st1.reg (fun r hr => List.mem_append_left _ hr) z) (Same.refl _)) e fun S2 fps2 σ2 ok2 st2 u2 => ?_
      refine h S2 fps2 σ2 ok2 ((st1.weak fun r hr => List.mem_append_right _ hr).trans ok1 st2) ⟨fun j a z => u1.fp j a (u2.fp j a z), fun a z => ?_, fun us hu => (u2.wp us fun i hi => hu i (List.mem_append_right _ hi)).trans (u1.wp us fun i hi => hu i (List.mem_append_left _ hi))⟩
      rcases u2.st a z with z | ⟨i, hi, z⟩
      · exact (u1.st a z).imp id fun ⟨i, hi, z⟩ => ⟨i, List.mem_append_left _ hi, z⟩
      · exact .inr ⟨i, List.mem_append_right _ hi, u1.fp i a z⟩
theorem RepL.len {K : PySem.W.Frag} {H : Hp} {R : Addr → Prop} {vs : List V} {ds : List D} {f : List Addr} (h : RepL K H R vs ds f) {n : Nat} (e : ds.length = n) : vs.length = n := h.length.trans e
/-- the number of targets -/
theorem vg_tup {es : List Expr} {k' n : Nat} {ts : List Nat} {Gs : List D → List Nat → Ev → Option Ev} (hF : Fam P w K mg base N k X) (h : VGs K X es ts Gs) (hG : ∀ ds p ρ, Gs ds p ρ ≠ none → ds.length = n)
    (hn : ∀ i, (assignEach es (X i).env).length = n := by intro _; rfl) (hst : ∀ i, (assignEach es (X i).env).findIdx? (·.1) = none := by intro _; rfl) : VG K X (.Tuple es k' pos) ts (gTp Gs) := by
  obtain ⟨t, p, q⟩ := h
  refine ⟨gTup K n t, fun i => by have q := pg_tup (k := k') (pos := pos) (hF.calm i) (p i) (hn i) (hst i); rw [hF.kk i] at q; exact q, fun S fps lk ρ σ H v r ρ' Q ok rp e h => ?_⟩
  obtain ⟨d, dp⟩ := r
  unfold gTp at e
  cases d with
  | node o tt ds =>
    cases tt with
    | tup =>
      generalize ef : ([] : List Addr) = fp at rp
      cases rp with
      | tup ht rl =>
        subst ef
        refine ⟨_, _, rfl, ht.sq, rl.len (hG ds dp ρ (fun z => by have e : Gs ds dp ρ = some ρ' := e; rw [z] at e; cases e)), ?_⟩
        exact q S fps lk ρ σ H _ ds dp ρ' Q ok rl e h
      | own h1 => cases h1
      | shr h1 => cases h1
    | lst => cases e
    | dK ks => cases e
    | dT ks => cases e
  | non => cases e
  | bl b => cases e
  | int i => cases e
  | str x => cases e
  | ty n => cases e
theorem gC_len {G : D × List Nat → Ev → Option Ev} {Gs : List D → List Nat → Ev → Option Ev} {n : Nat} (h : ∀ ds p ρ, Gs ds p ρ ≠ none → ds.length = n) : ∀ ds p ρ, gC G Gs ds p ρ ≠ none → ds.length = n + 1 := by
  intro ds p ρ e
  cases ds with
  | nil => exact absurd rfl e
  | cons d ds =>
    unfold gC at e
    dsimp only at e
    cases e1 : G (mk d p) ρ with
    | none => rw [e1] at e; exact absurd rfl e
    | some ρ1 =>
      rw [e1] at e
      rw [List.length_cons, h ds p ρ1 e]
theorem gN0_len : ∀ ds p ρ, gN0 ds p ρ ≠ none → ds.length = 0 := by
  intro ds p ρ e
  cases ds with
  | nil => rfl
  | cons => exact absurd rfl e
end

/-! ### what is walked -/
structure Stays (Rg : Addr → Prop) (H1 H2 : Hp) : Prop where
  reg : ∀ a o, Rg a → H1 a = some o → H2 a = some o
  tup : ∀ a vs, H1 a = some (.tup vs) → H2 a = some (.tup vs)
structure Walks (K : PySem.W.Frag) (J : It) (H1 : Hp) (Rg : Addr → Prop) (xs : List D) : Prop where
  go : ∀ i H2, Stays Rg H1 H2 → i < xs.length → J.go i H2
  yld : ∀ i H2 x H3 d, Stays Rg H1 H2 → J.yld i H2 x H3 → xs[i]? = some d → Same H2 H3 ∧ Rep K H3 Rg x d []
  stop : ∀ i H2, Stays Rg H1 H2 → xs.length ≤ i → J.stop i H2
def IPost (K : PySem.W.Frag) (mg : Str → Option Value) (W : WX) (S : Addr → Prop) (fps : Nat → List Addr) (σ : L2.St) (H : Hp) (r : Res (List D × List Nat)) (R : It → Hp → Prop) : Prop :=
  match r with
  | .ok r => ∀ J S' H', Grow S H S' H' → Walks K J H' (Reg S' fps r.2) r.1 → R J H'
  | .rs c => ∀ C H', mg c = some (.ref C) → Same H H' → W (.ref C) none σ H'
  | .stuck => False
def VI (K : PySem.W.Frag) (mg : Str → Option Value) {ι : Type} (X : ι → Cx) (tg iter : Expr) (f : Ev → Res (List D × List Nat)) : Prop :=
  ∀ W, (∀ i, Takes (X i) W) → ∃ wi, (∀ i, PI (X i) tg iter wi) ∧ ∀ S fps ρ σ H R, Ok K S fps ρ σ H → IPost K mg W S fps σ H (f ρ) R → wi σ H R

/-! ### for -/
def forL (G : D × List Nat → Ev → Option Ev) (B : Ev → Out) (ρ0 : Ev) (p : List Nat) : List D → Ev → Out
  | [], ρ => .nx ρ
  | x :: xs, ρ => match G (mk x p) ρ with
    | none => .stuck
    | some ρ1 => match B ρ1 with
      | .nx ρ2 => forL G B ρ0 p xs (clean ρ0 ρ2)
      | .ct ρ2 => forL G B ρ0 p xs (clean ρ0 ρ2)
      | .bk ρ2 => .nx (clean ρ0 ρ2)
      | .rt d => .rt d
      | .rs c ρ2 => .rs c ρ2
      | .stuck => .stuck
def sFor (f : Ev → Res (List D × List Nat)) (G : D × List Nat → Ev → Option Ev) (F : List Nat → Ev → Out) : List Nat → Ev → Out := fun lk ρ => match f ρ with
  | .ok r => forL G (F (r.2 ++ lk)) ρ r.2 r.1 ρ
  | .rs c => .rs c ρ
  | .stuck => .stuck
section
variable {ι : Type} {X : ι → Cx} {P : Program} {w : World} {K : PySem.W.Frag} {mg : Str → Option Value} {base : Heap} {N : List Str} {k : Nat} {pos : Pos}
theorem Step.stays {K : PySem.W.Frag} {S S' : Addr → Prop} {fps fps' : Nat → List Addr} {lk : List Nat} {ρ : Ev} {σ : L2.St} {H H' : Hp} (st : Step S fps lk H S' fps' H') (ok : Ok K S fps ρ σ H) {p : List Nat} (hp : ∀ r ∈ p, r ∈ lk) : Stays (Reg S fps p) H H' := by
  refine ⟨fun a o h e => ?_, fun a vs e => st.tup ok e⟩
  rcases h with h | ⟨r, hr, h⟩
  · exact st.keep a o e fun i hi => ok.ns i a hi h
  · rw [(st.lock r (hp r hr) a h).1]; exact e
theorem vs_for {tg iter : Expr} {body : List Stmt} {f : Ev → Res (List D × List Nat)} {G : D × List Nat → Ev → Option Ev} {F : List Nat → Ev → Out} (hF : Fam P w K mg base N k X) (hp : ∀ i, PassesOwn (model (X i).prog (X i).w) (X i).A (X i).env (X i).xe) (hi : VI K mg X tg iter f) {ts : List Nat} (hg : VG K X tg ts G) (hb : VSs K mg X body F)
    (hs : ∀ i x, foldedSetIterable iter (X i).env x = pure x := by intro _ _; rfl) : VS K mg X (.For tg iter body [] pos) (sFor f G F) := by
  intro W tk
  obtain ⟨wi, pi, qi⟩ := hi W tk
  obtain ⟨g, pg, qg⟩ := hg
  obtain ⟨tb, pb, qb⟩ := hb W tk
  refine ⟨_, fun i => ps_for (hp i) (hF.calm i) (pi i) (pg i) (pb i) (hs i), fun lk S fps ρ σ H E ok h => ?_⟩
  unfold sFor at h
  show wi σ H _
  refine qi S fps ρ σ H _ ok ?_
  cases e : f ρ with
  | stuck => rw [e] at h; exact h
  | rs c => rw [e] at h; exact rs_grow ok h
  | ok r =>
    obtain ⟨xs, p⟩ := r
    rw [e] at h
    intro J S0 H0 g0 wk
    have ok0 := ok.grow g0
    have h : SPost K mg W S0 fps lk H0 E (forL G (F (p ++ lk)) ρ p xs ρ) := SPost.step h (g0.step ok) ok0
    refine ⟨fun i m σ1 H1 => m = xs.length - i ∧ i ≤ xs.length ∧ ∃ S1 fps1 ρ1, Step S0 fps (p ++ lk) H0 S1 fps1 H1 ∧ Ok K S1 fps1 ρ1 σ1 H1 ∧ SPost K mg W S1 fps1 lk H1 E (forL G (F (p ++ lk)) ρ p (xs.drop i) ρ1),
      ⟨xs.length, rfl, Nat.zero_le _, S0, fps, ρ, Step.refl, ok0, h⟩, ?_⟩
    rintro i m σ1 H1 ⟨rfl, hi, S1, fps1, ρ1, st1, ok1, h1⟩
    have sy : Stays (Reg S0 fps p) H0 H1 := st1.stays ok0 fun r hr => List.mem_append_left _ hr
    by_cases hlt : i < xs.length
    · have edrop : xs.drop i = xs[i] :: xs.drop (i + 1) := List.drop_eq_getElem_cons hlt
      rw [edrop] at h1
      have ei : xs[i]? = some xs[i] := List.getElem?_eq_getElem hlt
      generalize xs[i] = d at h1 ei
      unfold forL at h1
      cases e1 : G (mk d p) ρ1 with
      | none => rw [e1] at h1; exact h1.elim
      | some ρ2 =>
        rw [e1] at h1
        refine .inr ⟨wk.go i H1 sy hlt, fun σ' H' => ∃ S1 fps1 ρ1, Step S0 fps (p ++ lk) H0 S1 fps1 H' ∧ Ok K S1 fps1 ρ1 σ' H' ∧ SPost K mg W S1 fps1 lk H' E (forL G (F (p ++ lk)) ρ p (xs.drop (i + 1)) ρ1), fun σ' H' hN => ⟨xs.length - (i + 1), by omega, rfl, hlt, hN⟩, fun x H2 y => ?_⟩
        obtain ⟨sm, rp⟩ := wk.yld i H1 x H2 d sy y ei
        have g2 : Grow S1 H1 S1 H2 := ⟨sm, fun _ z => z, fun _ z => .inl z⟩
        have ok2 := ok1.grow g2
        have st2 : Step S0 fps (p ++ lk) H0 S1 fps1 H2 := st1.trans ok1 (g2.step ok1)
        have rp' : Rep K H2 (Reg S1 fps1 (mk d p).2) x d [] := (rp.same (fun a z => st1.reg (fun r hr => List.mem_append_left _ hr) z) (Same.refl _)).mkd
        have h2 : SPost K mg W S1 fps1 lk H2 E _ := SPost.step h1 (g2.step ok1) ok2
        refine qg S1 fps1 (p ++ lk) ρ1 σ1 H2 x (mk d p) ρ2 _ ok2 rp' e1 fun S3 fps3 σ3 ok3 st3 _ => ?_
        have h3 := SPost.step h2 (st3.weak fun r hr => List.mem_append_right p hr) ok3
        dsimp only at h3
        have st03 := st2.trans ok2 st3
        refine qb (p ++ lk) S3 fps3 ρ2 σ3 H2 _ ok3 ?_
        cases eb : F (p ++ lk) ρ2 with
        | stuck => rw [eb] at h3; exact h3
        | rt d => rw [eb] at h3; exact h3
        | rs c ρ4 => rw [eb] at h3; exact SPost.lkm (lk := lk) h3 fun r hr => List.mem_append_right p hr
        | bk ρ4 =>
          rw [eb] at h3
          intro S4 fps4 σ4 H4 st4 ok4
          obtain ⟨S5, fps5, ok5, st5⟩ := clean_ok (ρ0 := ρ) (lk := lk) ok4
          exact h3 S5 fps5 σ4 H4 ((st4.weak fun r hr => List.mem_append_right p hr).trans ok4 st5) ok5
        | nx ρ4 =>
          rw [eb] at h3
          intro S4 fps4 σ4 H4 st4 ok4
          obtain ⟨S5, fps5, ok5, st5⟩ := clean_ok (ρ0 := ρ) (lk := p ++ lk) ok4
          exact ⟨S5, fps5, _, (st03.trans ok3 st4).trans ok4 st5, ok5, SPost.step h3 ((st4.trans ok4 st5).weak fun r hr => List.mem_append_right p hr) ok5⟩
        | ct ρ4 =>
          rw [eb] at h3
          intro S4 fps4 σ4 H4 st4 ok4
          obtain ⟨S5, fps5, ok5, st5⟩ := clean_ok (ρ0 := ρ) (lk := p ++ lk) ok4
          exact ⟨S5, fps5, _, (st03.trans ok3 st4).trans ok4 st5, ok5, SPost.step h3 ((st4.trans ok4 st5).weak fun r hr => List.mem_append_right p hr) ok5⟩
    · have ei : i = xs.length := by omega
      subst ei
      refine .inl ⟨wk.stop _ H1 sy (Nat.le_refl _), ?_⟩
      rw [List.drop_length] at h1
      exact h1 S1 fps1 σ1 H1 Step.refl ok1

/-! ### while -/
def whF (c : Ev → Res Bool) (B : Ev → Out) (ρ0 : Ev) : Nat → Ev → Option Out
  | 0, _ => none
  | n + 1, ρ => match c ρ with
    | .stuck => some .stuck
    | .rs e => some (.rs e ρ)
    | .ok false => some (.nx ρ)
    | .ok true => match B ρ with
      | .nx ρ2 => whF c B ρ0 n (clean ρ0 ρ2)
      | .ct ρ2 => whF c B ρ0 n (clean ρ0 ρ2)
      | .bk ρ2 => some (.nx (clean ρ0 ρ2))
      | .rt d => some (.rt d)
      | .rs e ρ2 => some (.rs e ρ2)
      | .stuck => some .stuck
open Classical in
noncomputable def sWhile (c : Ev → Res Bool) (F : List Nat → Ev → Out) : List Nat → Ev → Out := fun lk ρ =>
  if h : ∃ n o, whF c (F lk) ρ n ρ = some o then h.choose_spec.choose else .stuck
theorem whF_more {c : Ev → Res Bool} {B : Ev → Out} {ρ0 : Ev} : ∀ {n : Nat} {ρ : Ev} {o : Out}, whF c B ρ0 n ρ = some o → whF c B ρ0 (n + 1) ρ = some o
  | 0, _, _, h => by cases h
  | n + 1, ρ, o, h => by
    unfold whF at h ⊢
    split at h
    · exact h
    · exact h
    · exact h
    · split at h
      · exact whF_more h
      · exact whF_more h
      · exact h
      · exact h
      · exact h
      · exact h
theorem whF_le {c : Ev → Res Bool} {B : Ev → Out} {ρ0 ρ : Ev} {o : Out} {n m : Nat} (h : whF c B ρ0 n ρ = some o) (hl : n ≤ m) : whF c B ρ0 m ρ = some o := by
  obtain ⟨k, rfl⟩ := Nat.le.dest hl
  clear hl
  induction k with
  | zero => exact h
  | succ k ih => exact whF_more ih
theorem sWhile_eq {c : Ev → Res Bool} {F : List Nat → Ev → Out} {lk : List Nat} {ρ : Ev} {o : Out} {n : Nat} (h : whF c (F lk) ρ n ρ = some o) : sWhile c F lk ρ = o := by
  unfold sWhile
  have hx : ∃ n o, whF c (F lk) ρ n ρ = some o := ⟨n, o, h⟩
  rw [dif_pos hx]
  have e := hx.choose_spec.choose_spec
  have e1 := whF_le e (Nat.le_max_left _ n)
  have e2 := whF_le h (Nat.le_max_right hx.choose n)
  rw [e1] at e2
  exact Option.some.inj e2
theorem vs_while {c : Expr} {body : List Stmt} {f : Ev → Res Bool} {F : List Nat → Ev → Out} (hp : ∀ i, PassesOwn (model (X i).prog (X i).w) (X i).A (X i).env (X i).xe) (hc : VT K mg X c f) (hb : VSs K mg X body F) : VS K mg X (.While c body [] pos) (sWhile f F) := by
  intro W tk
  obtain ⟨tc, pc, qc⟩ := hc W tk
  obtain ⟨tb, pb, qb⟩ := hb W tk
  refine ⟨_, fun i => ps_while (hp i) (pc i) (pb i), fun lk S fps ρ σ H E ok h => ?_⟩
  by_cases hx : ∃ n o, whF f (F lk) ρ n ρ = some o
  · obtain ⟨n, o, hn⟩ := hx
    rw [sWhile_eq hn] at h
    refine ⟨fun m σ1 H1 => ∃ S1 fps1 ρ1, Ok K S1 fps1 ρ1 σ1 H1 ∧ whF f (F lk) ρ m ρ1 = some o ∧ SPost K mg W S1 fps1 lk H1 E o, ⟨n, S, fps, ρ, ok, hn, h⟩, ?_⟩
    rintro m σ1 H1 ⟨S1, fps1, ρ1, ok1, e1, h1⟩
    cases m with
    | zero => cases e1
    | succ m =>
      unfold whF at e1
      refine qc S1 fps1 ρ1 σ1 H1 _ ok1 ?_
      cases ec : f ρ1 with
      | stuck => rw [ec] at e1; cases e1; exact h1
      | rs e => rw [ec] at e1; cases e1; exact rs_grow ok1 h1
      | ok b =>
        rw [ec] at e1
        intro S2 H2 g2
        have ok2 := ok1.grow g2
        have h2 := SPost.step h1 (g2.step ok1) ok2
        cases b with
        | false =>
          cases e1
          exact h2 S2 fps1 σ1 H2 Step.refl ok2
        | true =>
          refine ⟨fun σ' H' => ∃ S1 fps1 ρ1, Ok K S1 fps1 ρ1 σ' H' ∧ whF f (F lk) ρ m ρ1 = some o ∧ SPost K mg W S1 fps1 lk H' E o, fun σ' H' hN => ⟨m, Nat.lt_succ_self m, hN⟩, ?_⟩
          refine qb lk S2 fps1 ρ1 σ1 H2 _ ok2 ?_
          dsimp only at e1
          cases eb : F lk ρ1 with
          | stuck => rw [eb] at e1; cases e1; exact h2
          | rt d => rw [eb] at e1; cases e1; exact h2
          | rs c ρ4 => rw [eb] at e1; cases e1; exact h2
          | bk ρ4 =>
            rw [eb] at e1; cases e1
            intro S4 fps4 σ4 H4 st4 ok4
            obtain ⟨S5, fps5, ok5, st5⟩ := clean_ok (ρ0 := ρ) (lk := lk) ok4
            exact h2 S5 fps5 σ4 H4 (st4.trans ok4 st5) ok5
          | nx ρ4 =>
            rw [eb] at e1
            intro S4 fps4 σ4 H4 st4 ok4
            obtain ⟨S5, fps5, ok5, st5⟩ := clean_ok (ρ0 := ρ) (lk := lk) ok4
            exact ⟨S5, fps5, _, ok5, e1, SPost.step h2 (st4.trans ok4 st5) ok5⟩
          | ct ρ4 =>
            rw [eb] at e1
            intro S4 fps4 σ4 H4 st4 ok4
            obtain ⟨S5, fps5, ok5, st5⟩ := clean_ok (ρ0 := ρ) (lk := lk) ok4
            exact ⟨S5, fps5, _, ok5, e1, SPost.step h2 (st4.trans ok4 st5) ok5⟩
  · unfold sWhile at h
    rw [dif_neg hx] at h
    exact h.elim
end
end Py

set_option Elab.async false
set_option linter.all false
set_option maxRecDepth 100000
namespace Py
open PySem PySem.Spec L2

/-! ### what is walked -/
theorem Walks.of {K : PySem.W.Frag} {J : It} {H1 : Hp} {Rg : Addr → Prop} {xs : List D} {G : Hp → Prop} {Y : Nat → Hp → V → Hp → Prop} (w : Walk J xs.length G Y) (hg : ∀ H2, Stays Rg H1 H2 → G H2)
    (hst : ∀ i H2, Stays Rg H1 H2 → xs.length ≤ i → J.stop i H2)
    (hy : ∀ i H2 x H3 d, Stays Rg H1 H2 → Y i H2 x H3 → xs[i]? = some d → Same H2 H3 ∧ Rep K H3 Rg x d []) : Walks K J H1 Rg xs :=
  ⟨fun i H2 s hi => w.goes i H2 hi (hg H2 s), fun i H2 x H3 d s y e => hy i H2 x H3 d s (w.yields i H2 x H3 (List.getElem?_eq_some_iff.mp e).1 (hg H2 s) y) e, hst⟩
section
variable {K : PySem.W.Frag} {H H1 H2 : Hp} {R Rg : Addr → Prop}
theorem Rep.stays {v : V} {d : D} (r : Rep K H1 Rg v d []) (s : Stays Rg H1 H2) : Rep K H2 Rg v d [] := r.mono (fun _ z => z) (fun a h o e => h.elim (fun h => s.reg a o h e) fun z => by cases z) fun a vs e => s.tup a vs e
theorem RepL.stays {v : List V} {d : List D} (r : RepL K H1 Rg v d []) (s : Stays Rg H1 H2) : RepL K H2 Rg v d [] := r.mono (fun _ z => z) (fun a h o e => h.elim (fun h => s.reg a o h e) fun z => by cases z) fun a vs e => s.tup a vs e
/-- a list that may be read -/
theorem Rep.lst {v : V} {o : Bool} {ds : List D} {fp : List Addr} (r : Rep K H R v (.node o .lst ds) fp) (hR : ∀ a, R a → Rg a) (hf : ∀ a ∈ fp, Rg a) :
    ∃ a vs, v = .ref a ∧ (∀ H2, Stays Rg H H2 → SqL K H2 a vs) ∧ RepL K H Rg vs (ds.map Py.frz) [] ∧ ∃ f, RepL K H R vs ds f ∧ f.Sublist fp := by
  cases r with
  | own h1 h2 h3 l =>
    refine ⟨_, _, rfl, fun H2 s => .inl (.inl (s.reg _ _ (hf _ List.mem_cons_self) h3)), ?_, _, l, List.sublist_cons_self _ _⟩
    rw [← frzL_eq]
    exact l.frz hR fun a ha => hf a (List.mem_cons_of_mem _ ha)
  | shr h1 h2 h3 h4 l =>
    refine ⟨_, _, rfl, fun H2 s => .inl (h4.elim (fun q => .inl (s.reg _ _ (hR _ h3) q)) fun ⟨o, q⟩ => .inr ⟨o, s.reg _ _ (hR _ h3) q⟩), ?_, _, l, List.Sublist.refl _⟩
    rw [← frzL_eq]
    exact l.frz hR hf
  | kst hk l =>
    refine ⟨_, _, rfl, fun H2 s => .inr hk, ?_, _, l, List.Sublist.refl _⟩
    rw [← frzL_eq]
    exact l.frz hR hf
theorem Rep.tupl {v : V} {o : Bool} {ds : List D} {fp : List Addr} (r : Rep K H R v (.node o .tup ds) fp) (hR : ∀ a, R a → Rg a) (hf : ∀ a ∈ fp, Rg a) :
    ∃ a vs, v = .ref a ∧ (∀ H2, Stays Rg H H2 → SqT K H2 a vs) ∧ RepL K H Rg vs (ds.map Py.frz) [] ∧ ∃ f, RepL K H R vs ds f ∧ f.Sublist fp := by
  cases r with
  | own h1 => cases h1
  | shr h1 => cases h1
  | tup h l =>
    refine ⟨_, _, rfl, fun H2 s => .inl (.inl (s.tup _ _ h)), ?_, _, l, List.Sublist.refl _⟩
    rw [← frzL_eq]
    exact l.frz hR hf
theorem Stays.refl : Stays Rg H H := ⟨fun _ _ _ h => h, fun _ _ h => h⟩
theorem Same.stays (e : Same H H1) : Stays Rg H H1 := ⟨fun a o _ h => e a o h, fun a vs h => e a _ h⟩
theorem Rep.sqL {v : V} {o : Bool} {ds : List D} {fp : List Addr} (r : Rep K H R v (.node o .lst ds) fp) : ∃ a vs f, v = .ref a ∧ SqL K H a vs ∧ RepL K H R vs ds f ∧ f.Sublist fp := by
  obtain ⟨a, vs, e, h, _, f, l, s⟩ := r.lst (Rg := fun _ => True) (fun _ _ => trivial) fun _ _ => trivial
  exact ⟨a, vs, f, e, h H Stays.refl, l, s⟩
/-- a list's own object, owned -/
theorem Rep.rdL {v : V} {ds : List D} {fp : List Addr} (r : Rep K H R v (.node true .lst ds) fp) : ∃ a vs f, v = .ref a ∧ Rd H a (.lst vs) ∧ RepL K H R vs ds f ∧ f.Sublist fp := by
  cases r with
  | own h1 h2 h3 l => exact ⟨_, _, _, rfl, .inl h3, l, List.sublist_cons_self _ _⟩
theorem Rep.sqT {v : V} {o : Bool} {ds : List D} {fp : List Addr} (r : Rep K H R v (.node o .tup ds) fp) : ∃ a vs f, v = .ref a ∧ SqT K H a vs ∧ RepL K H R vs ds f ∧ f.Sublist fp := by
  obtain ⟨a, vs, e, h, _, f, l, s⟩ := r.tupl (Rg := fun _ => True) (fun _ _ => trivial) fun _ _ => trivial
  exact ⟨a, vs, f, e, h H Stays.refl, l, s⟩
end
def signs (z : Str) : List D := z.cps.toList.map fun c => .str ⟨#[c]⟩
def items (d : D) : Option (List D) := match d with
  | .node _ .lst xs => some (xs.map frz)
  | .node _ .tup xs => some (xs.map frz)
  | .str z => some (signs z)
  | _ => none
def iSeq (f : Ev → Res (D × List Nat)) : Ev → Res (List D × List Nat) := fun ρ => (f ρ).bind fun a => match items a.1 with
  | some xs => .ok (xs, a.2)
  | none => .stuck
section
theorem piOr {X : Cx} {tg : Expr} {iter : Expr} {w1 w2 : TI} (h1 : PI X tg iter w1) (h2 : PI X tg iter w2) : PI X tg iter (fun σ H R => w1 σ H R ∨ w2 σ H R) :=
  ⟨fun pins s σ H R I h => h.elim (h1.run pins s σ H R I) (h2.run pins s σ H R I)⟩
theorem peOr {X : Cx} {e : Expr} {w1 w2 : TE} (h1 : PE X e w1) (h2 : PE X e w2) : PE X e (fun σ H R => w1 σ H R ∨ w2 σ H R) :=
  ⟨fun pins s σ H R I h => h.elim (h1.run pins s σ H R I) (h2.run pins s σ H R I)⟩
variable {ι : Type} {X : ι → Cx} {P : Program} {w : World} {K : PySem.W.Frag} {mg : Str → Option Value} {base : Heap} {N : List Str} {k : Nat} {tg : Expr} {pos : Pos}
theorem walks_list {K : PySem.W.Frag} {H1 : Hp} {Rg : Addr → Prop} {a : Addr} {vs : List V} {ds : List D} (h : ∀ H2, Stays Rg H1 H2 → SqL K H2 a vs) (l : RepL K H1 Rg vs (ds.map Py.frz) []) : Walks K (Itl K a) H1 Rg (ds.map Py.frz) := by
  have el := l.length
  refine Walks.of (G := fun H => SqL K H a vs) (by rw [← el]; exact walk_list) h (fun i H2 s hi => ⟨vs, h H2 s, by omega⟩) fun i H2 x H3 d s y e => ?_
  obtain ⟨rfl, ex⟩ := y
  obtain ⟨v, f, ev, r, sf⟩ := l.get e
  rw [ev] at ex; cases ex
  cases List.sublist_nil.mp sf
  exact ⟨Same.refl _, r.stays s⟩
theorem walks_tup {K : PySem.W.Frag} {H1 : Hp} {Rg : Addr → Prop} {a : Addr} {vs : List V} {ds : List D} (h : ∀ H2, Stays Rg H1 H2 → SqT K H2 a vs) (l : RepL K H1 Rg vs (ds.map Py.frz) []) : Walks K (Itt K a) H1 Rg (ds.map Py.frz) := by
  have el := l.length
  refine Walks.of (G := fun H => SqT K H a vs) (by rw [← el]; exact walk_tup) h (fun i H2 s hi => ⟨vs, h H2 s, by omega⟩) fun i H2 x H3 d s y e => ?_
  obtain ⟨rfl, ex⟩ := y
  obtain ⟨v, f, ev, r, sf⟩ := l.get e
  rw [ev] at ex; cases ex
  cases List.sublist_nil.mp sf
  exact ⟨Same.refl _, r.stays s⟩
/-- the region of a value that was just made, with what it owns -/
theorem region {K : PySem.W.Frag} {S S1 : Addr → Prop} {fps : Nat → List Addr} {ρ : Ev} {σ : L2.St} {H H1 : Hp} {p : List Nat} {fp : List Addr} (ok : Ok K S fps ρ σ H) (g : Grow S H S1 H1) (hz : ∀ a ∈ fp, H a = none ∧ ¬ S1 a) (ht : ∀ a ∈ fp, ∃ o, H1 a = some o) :
    Grow S H (fun a => S1 a ∨ a ∈ fp) H1 ∧ (∀ a, Reg S1 fps p a → Reg (fun a => S1 a ∨ a ∈ fp) fps p a) ∧ ∀ a ∈ fp, Reg (fun a => S1 a ∨ a ∈ fp) fps p a :=
  ⟨⟨g.same, fun a h => .inl (g.sub a h), fun a h => h.elim (g.new a) fun h => .inr ⟨(hz a h).1, ht a h⟩⟩, Reg.mono (fun _ => .inl) fun _ z => z, fun a h => .inl (.inr h)⟩
theorem Rep.dom {K : PySem.W.Frag} {H : Hp} {R : Addr → Prop} {v : V} {d : D} {fp : List Addr} (r : Rep K H R v d fp) : ∀ a ∈ fp, ∃ o, H a = some o := fun a ha => let ⟨_, _, _, q⟩ := r.there a ha; ⟨_, q⟩
theorem RepL.dom {K : PySem.W.Frag} {H : Hp} {R : Addr → Prop} {v : List V} {d : List D} {fp : List Addr} (r : RepL K H R v d fp) : ∀ a ∈ fp, ∃ o, H a = some o := fun a ha => let ⟨_, _, _, q⟩ := r.there a ha; ⟨_, q⟩
theorem vi_seq {e : Expr} {f : Ev → Res (D × List Nat)} (hF : Fam P w K mg base N k X) (h : VE K mg X e f) : VI K mg X tg e (iSeq f) := by
  intro W tk
  obtain ⟨t, p, q⟩ := h W tk
  refine ⟨fun σ H R => iList K t σ H R ∨ (iTup K t σ H R ∨ iStr t σ H R), fun i => by
    have q1 := pi_list (tg := tg) (p i)
    have q2 := pi_tup (tg := tg) (p i)
    rw [hF.kk i] at q1 q2
    exact piOr q1 (piOr q2 (pi_str (p i))), fun S fps ρ σ H R ok h => ?_⟩
  unfold iSeq at h
  cases e1 : f ρ with
  | stuck => rw [e1] at h; exact h.elim
  | rs c =>
    rw [e1] at h
    exact .inl (q S fps ρ σ H _ ok (by rw [e1]; exact h))
  | ok r =>
    obtain ⟨d, dp⟩ := r
    rw [e1] at h
    dsimp only [Res.bind] at h
    cases d with
    | node o tt ds =>
      cases tt with
      | lst =>
        refine .inl (q S fps ρ σ H _ ok ?_)
        rw [e1]
        intro v fp S1 H1 g r n z
        obtain ⟨g2, r1, r2⟩ := region (p := dp) ok g z r.dom
        obtain ⟨a, vs, rfl, hs, rl, _⟩ := r.lst r1 r2
        exact ⟨a, rfl, ⟨vs, hs H1 Stays.refl⟩, h _ _ _ g2 (walks_list hs rl)⟩
      | tup =>
        refine .inr (.inl (q S fps ρ σ H _ ok ?_))
        rw [e1]
        intro v fp S1 H1 g r n z
        obtain ⟨g2, r1, r2⟩ := region (p := dp) ok g z r.dom
        obtain ⟨a, vs, rfl, hs, rl, _⟩ := r.tupl r1 r2
        exact ⟨a, rfl, ⟨vs, hs H1 Stays.refl⟩, h _ _ _ g2 (walks_tup hs rl)⟩
      | dK ks => exact h.elim
      | dT ks => exact h.elim
    | str x =>
      refine .inr (.inr (q S fps ρ σ H _ ok ?_))
      rw [e1]
      intro v fp S1 H1 g r n z
      cases r
      refine ⟨x, rfl, h _ _ _ g ?_⟩
      have el : (signs x).length = x.cps.size := by simp [signs]
      refine Walks.of (G := fun _ => True) (by rw [el]; exact walk_str) (fun _ _ => trivial) (fun i H2 s hi => by rw [el] at hi; exact hi) fun i H2 x' H3 d s y e => ?_
      obtain ⟨rfl, c, ec, rfl⟩ := y
      have e : (signs x)[i]? = some d := e
      unfold signs at e
      rw [List.getElem?_map, Array.getElem?_toList, ec] at e
      cases e
      exact ⟨Same.refl _, .str _⟩
    | non => exact h.elim
    | bl b => exact h.elim
    | int i => exact h.elim
    | ty n => exact h.elim
/-! ranges -/
def rngI (lo : Int) (n : Nat) : List D := (List.range n).map fun k => .int (lo + (k : Nat))
def rngC (lo c : Int) (n : Nat) : List D := (List.range n).map fun k => .int (lo + (k : Nat) * c)
theorem rngI_length (lo : Int) (n : Nat) : (rngI lo n).length = n := by simp [rngI]
theorem rngI_get {lo : Int} {n i : Nat} {d : D} (h : (rngI lo n)[i]? = some d) : d = .int (lo + i) := by
  unfold rngI at h
  rw [List.getElem?_map] at h
  cases e : (List.range n)[i]? with
  | none => rw [e] at h; cases h
  | some k =>
    rw [e] at h
    obtain ⟨h1, h2⟩ := List.getElem?_eq_some_iff.mp e
    rw [List.getElem_range] at h2
    subst h2
    cases h; rfl
theorem rngC_length (lo c : Int) (n : Nat) : (rngC lo c n).length = n := by simp [rngC]
theorem rngC_get {lo c : Int} {n i : Nat} {d : D} (h : (rngC lo c n)[i]? = some d) : d = .int (lo + (i : Nat) * c) := by
  unfold rngC at h
  rw [List.getElem?_map] at h
  cases e : (List.range n)[i]? with
  | none => rw [e] at h; cases h
  | some k =>
    rw [e] at h
    obtain ⟨h1, h2⟩ := List.getElem?_eq_some_iff.mp e
    rw [List.getElem_range] at h2
    subst h2
    cases h; rfl
theorem opq_ex : ∃ h : Bool → Bool, ∀ b, h b = b := ⟨fun b => b, fun _ => rfl⟩
/-- a condition that the kernel does not look into -/
noncomputable def opq : Bool → Bool := Classical.choose opq_ex
theorem opq_eq (b : Bool) : opq b = b := Classical.choose_spec opq_ex b
theorem in62_ex : ∃ h : Int → Bool, ∀ i, h i = (decide (-(2 ^ 62) ≤ i) && decide (i < 2 ^ 62)) := ⟨_, fun _ => rfl⟩
/-- not to be unfolded by the kernel -/
noncomputable def in62 : Int → Bool := Classical.choose in62_ex
theorem in62_eq (i : Int) : in62 i = (decide (-(2 ^ 62) ≤ i) && decide (i < 2 ^ 62)) := Classical.choose_spec in62_ex i
noncomputable def rgItems : List D → Option (List D)
  | [.int j] => if in62 j = true then some (rngI 0 j.toNat) else none
  | [.int i, .int j] => if (in62 i && in62 j) = true then some (rngI i (j - i).toNat) else none
  | [.int i, .int j, .int (-1)] => if (in62 i && in62 j) = true then some (rngC i (-1) (i - j).toNat) else none
  | _ => none
noncomputable def iRg (fa : Ev → Res (List D × List Nat)) : Ev → Res (List D × List Nat) := fun ρ => (fa ρ).bind fun a => match rgItems a.1 with
  | some xs => .ok (xs, [])
  | none => .stuck
theorem walks_ints {K : PySem.W.Frag} {H1 : Hp} {Rg : Addr → Prop} {lo : Int} {n : Nat} : Walks K (Itr lo n) H1 Rg (rngI lo n) := by
  refine Walks.of (G := fun _ => True) (by rw [rngI_length]; exact walk_range) (fun _ _ => trivial) (fun i H2 s hi => by rw [rngI_length] at hi; exact hi) fun i H2 x H3 d s y e => ?_
  obtain ⟨rfl, rfl⟩ := y
  rw [rngI_get e]
  exact ⟨Same.refl _, .int _⟩
theorem walks_rngC {K : PySem.W.Frag} {H1 : Hp} {Rg : Addr → Prop} {lo c : Int} {n : Nat} : Walks K (Itc lo c n) H1 Rg (rngC lo c n) := by
  refine Walks.of (G := fun _ => True) (by rw [rngC_length]; exact walk_rangeC) (fun _ _ => trivial) (fun i H2 s hi => by rw [rngC_length] at hi; exact hi) fun i H2 x H3 d s y e => ?_
  obtain ⟨rfl, rfl⟩ := y
  rw [rngC_get e]
  exact ⟨Same.refl _, .int _⟩
theorem in62_iff {i : Int} : in62 i = true ↔ -(2 ^ 62) ≤ i ∧ i < 2 ^ 62 := by rw [in62_eq]; simp
theorem RepL.i1 {K : PySem.W.Frag} {H : Hp} {R : Addr → Prop} {vs : List V} {i : Int} {fp : List Addr} (h : RepL K H R vs [.int i] fp) : vs = [.int i] := (RepL.ints_inv (ns := [i]) h).1
theorem RepL.i2 {K : PySem.W.Frag} {H : Hp} {R : Addr → Prop} {vs : List V} {i j : Int} {fp : List Addr} (h : RepL K H R vs [.int i, .int j] fp) : vs = [.int i, .int j] := (RepL.ints_inv (ns := [i, j]) h).1
theorem RepL.i3 {K : PySem.W.Frag} {H : Hp} {R : Addr → Prop} {vs : List V} {i j k : Int} {fp : List Addr} (h : RepL K H R vs [.int i, .int j, .int k] fp) : vs = [.int i, .int j, .int k] := (RepL.ints_inv (ns := [i, j, k]) h).1
theorem rg_sem {W : WX} {f : Ev → Res (List D × List Nat)} {t : TA} {kk : List V → Hp → Prop} {S : Addr → Prop} {fps : Nat → List Addr} {ρ : Ev} {σ : L2.St} {H : Hp} {R : It → Hp → Prop}
    (q : ∀ S fps ρ σ H Q, Ok K S fps ρ σ H → APost K mg W S fps σ H (f ρ) Q → t σ H Q) (ok : Ok K S fps ρ σ H) (h : IPost K mg W S fps σ H (iRg f ρ) R)
    (hk : ∀ ds xs vs fp S1 H1 p, f ρ = .ok (ds, p) → rgItems ds = some xs → RepL K H1 (Reg S1 fps p) vs ds fp → (∀ J, Walks K J H1 (Reg S1 fps []) xs → R J H1) → kk vs H1) : t σ H kk := by
  unfold iRg at h
  refine q S fps ρ σ H _ ok ?_
  cases e1 : f ρ with
  | stuck => rw [e1] at h; exact h
  | rs c => rw [e1] at h; exact h
  | ok r =>
    obtain ⟨ds, p⟩ := r
    rw [e1] at h
    intro vs fp S1 H1 g r n z
    dsimp only [Res.bind] at h
    cases e2 : rgItems ds with
    | none => rw [e2] at h; exact h.elim
    | some xs =>
      rw [e2] at h
      exact hk ds xs vs fp S1 H1 p e1 e2 r fun J w => h J S1 H1 g w
theorem vi_range1 {a : Expr} {f : Ev → Res (D × List Nat)} {p : Pos} (hF : Fam P w K mg base N k X) (hg : ∀ i, Gl (X i) "range") (hm : mg "range" = none) (ha : VE K mg X a f) (hs : ∀ i, starEach [a] (X i).env = [(false, eval a (X i).env)] := by intro _; rfl) : VI K mg X tg (.Call (.Name "range" p) [a] [] pos) (iRg (aCons f aNil)) := by
  intro W tk
  obtain ⟨t, pa, q⟩ := va_cons ha va_nil hs W tk
  refine ⟨_, fun i => pi_range1 (hg i) (by rw [hF.mm i]; exact hm) (pa i) (hs i), fun S fps ρ σ H R ok h => rg_sem q ok h fun ds xs vs fp S1 H1 p ef e r kq => ?_⟩
  unfold aCons aNil at ef
  cases e1 : f ρ with
  | stuck => rw [e1] at ef; cases ef
  | rs c => rw [e1] at ef; cases ef
  | ok u =>
    rw [e1] at ef
    cases ef
    obtain ⟨d, dp⟩ := u
    cases d with
    | int j =>
      unfold rgItems at e
      dsimp only at e
      split at e
      · cases e
        rename_i hj
        rw [in62_iff] at hj
        exact ⟨j, r.i1, hj.1, hj.2, kq _ walks_ints⟩
      · cases e
    | _ => cases e
theorem vi_range2 {a b : Expr} {f g : Ev → Res (D × List Nat)} {p : Pos} (hF : Fam P w K mg base N k X) (hg : ∀ i, Gl (X i) "range") (hm : mg "range" = none) (ha : VE K mg X a f) (hb : VE K mg X b g) (hs : ∀ i, starEach [a, b] (X i).env = [(false, eval a (X i).env), (false, eval b (X i).env)] := by intro _; rfl) (hs2 : ∀ i, starEach [b] (X i).env = [(false, eval b (X i).env)] := by intro _; rfl) :
    VI K mg X tg (.Call (.Name "range" p) [a, b] [] pos) (iRg (aCons f (aCons g aNil))) := by
  intro W tk
  obtain ⟨t, pa, q⟩ := va_cons ha (va_cons hb va_nil hs2) (fun i => by rw [hs i, hs2 i]) W tk
  refine ⟨_, fun i => pi_range2 (hg i) (by rw [hF.mm i]; exact hm) (pa i) (hs i) (hs2 i), fun S fps ρ σ H R ok h => rg_sem q ok h fun ds xs vs fp S1 H1 p ef e r kq => ?_⟩
  unfold aCons aNil at ef
  cases e1 : f ρ with
  | stuck => rw [e1] at ef; cases ef
  | rs c => rw [e1] at ef; cases ef
  | ok u =>
    cases e2 : g ρ with
    | stuck => rw [e1, e2] at ef; cases ef
    | rs c => rw [e1, e2] at ef; cases ef
    | ok w =>
      rw [e1, e2] at ef
      cases ef
      obtain ⟨d1, p1⟩ := u
      obtain ⟨d2, p2⟩ := w
      cases d1 with
      | int i =>
        cases d2 with
        | int j =>
          unfold rgItems at e
          dsimp only at e
          split at e
          · cases e
            rename_i hj
            rw [Bool.and_eq_true, in62_iff, in62_iff] at hj
            exact ⟨i, j, r.i2, ⟨hj.1.1, hj.1.2, hj.2.1, hj.2.2⟩, kq _ walks_ints⟩
          · cases e
        | _ => cases e
      | _ => cases e
end
end Py

set_option Elab.async false
set_option linter.all false
set_option maxRecDepth 100000
namespace Py
open PySem PySem.Spec L2

/-! ### defs -/
/-- the promise of a def that computes φ -/
def spD (K : PySem.W.Frag) (mg : Str → Option Value) (φ : List D → Res D) (n : Nat) : Sp := fun vs H Q E =>
  vs.length = n ∧ ∃ ds R, RepL K H R vs ds [] ∧ (∀ a, R a → ∃ o, H a = some o) ∧ match φ ds with
    | .ok d => ∀ v fp R' H', Grow R H R' H' → Rep K H' R' v d fp → fp.Nodup → (∀ a ∈ fp, H a = none ∧ ¬ R' a) → Q v H'
    | .rs c => ∀ C H', mg c = some (.ref C) → Same H H' → E (.ref C) none H'
    | .stuck => False
def start (N : Nat) (ds : List D) : Ev := ds.map (fun d => some ⟨d, []⟩) ++ List.replicate (N - ds.length) none
def run (F : List Nat → Ev → Out) (N : Nat) (ds : List D) : Res D := match F [] (start N ds) with
  | .rt d => .ok d
  | .nx _ => .ok .non
  | .rs c _ => .rs c
  | _ => .stuck
/-- what callers need of a def -/
structure Has (P : Program) (w : World) (K : PySem.W.Frag) (mg : Str → Option Value) (base : Heap) (x : Str) (φ : List D → Res D) (n k : Nat) : Prop where
  ex : ∃ (f : Addr) (fd : FuncData) (ps : List Str), mg x = some (.ref f) ∧ PySem.W.keepIn K (.ref f) = true ∧ Binds K fd ps [] ∧ FnOk P w K mg base (L2.CX P w) k f fd ps (spD K mg φ n)
theorem Has.mono {P : Program} {w : World} {K : PySem.W.Frag} {mg : Str → Option Value} {base : Heap} {x : Str} {φ : List D → Res D} {n j k : Nat} (h : Has P w K mg base x φ n j) (hl : j ≤ k) : Has P w K mg base x φ n k :=
  let ⟨f, fd, ps, h1, h2, h3, h4⟩ := h.ex; ⟨f, fd, ps, h1, h2, h3, h4.mono hl⟩
def eCall (φ : List D → Res D) (n : Nat) (fa : Ev → Res (List D × List Nat)) : Ev → Res (D × List Nat) := fun ρ => (fa ρ).bind fun a =>
  if a.1.length = n then (φ (a.1.map frz)).bind fun d => .ok (mk d a.2) else .stuck
section
variable {ι : Type} {X : ι → Cx} {P : Program} {w : World} {K : PySem.W.Frag} {mg : Str → Option Value} {base : Heap} {N : List Str} {k : Nat} {W : WX} {S S1 S' : Addr → Prop} {fps : Nat → List Addr} {ρ : Ev} {σ : L2.St} {H H1 H' : Hp} {Q : VK}
theorem call_sem {φ : List D → Res D} {n : Nat} {f : Ev → Res (List D × List Nat)} {t : TA} (q : ∀ S fps ρ σ H Q, Ok K S fps ρ σ H → APost K mg W S fps σ H (f ρ) Q → t σ H Q) (ok : Ok K S fps ρ σ H) (h : EPost K mg W S fps σ H (eCall φ n f ρ) Q) :
    tCallS (spD K mg φ n) (WE W) t σ H Q := by
  unfold eCall at h
  refine q S fps ρ σ H _ ok ?_
  cases e1 : f ρ with
  | stuck => rw [e1] at h; exact h
  | rs c => rw [e1] at h; exact h
  | ok r =>
    obtain ⟨ds, p⟩ := r
    rw [e1] at h
    dsimp only [Res.bind] at h
    intro vs fp S1 H1 g r n1 z1
    split at h
    · rename_i hn
      obtain ⟨g2, r1, r2⟩ := region (p := p) ok g z1 r.dom
      refine ⟨r.len hn, ds.map frz, Reg (fun a => S1 a ∨ a ∈ fp) fps p, ?_, fun a ha => (ok.grow g2).reg ha, ?_⟩
      · have := r.frz r1 r2
        rwa [frzL_eq] at this
      · cases e2 : φ (ds.map frz) with
        | stuck => rw [e2] at h; exact h
        | rs c => rw [e2] at h; exact fun C H' hm e => h C H' hm (g.same.trans e)
        | ok d =>
          rw [e2] at h
          dsimp only
          intro v fp2 R' H2 g3 r3 n3 z3
          have gS : Grow (fun a => S1 a ∨ a ∈ fp) H1 (fun a => (S1 a ∨ a ∈ fp) ∨ (R' a ∧ H1 a = none)) H2 := ⟨g3.same, fun a z => .inl z, fun a z => z.elim .inl fun z => .inr ⟨z.2, by
            rcases g3.new a z.1 with q | q
            · obtain ⟨o, e⟩ := (ok.grow g2).reg q
              rw [z.2] at e; cases e
            · exact q.2⟩⟩
          refine Val.fin (K := K) h (g2.trans gS) (r3.same (fun a z => ?_) (Same.refl _)) n3 fun a ha => ⟨g.same.free (z3 a ha).1, fun hs => ?_⟩
          · rcases g3.new a z with q | q
            · exact Reg.mono (fun _ => .inl) (fun _ z => z) a q
            · exact .inl (.inr ⟨z, q.1⟩)
          · rcases hs with (hs | hs) | hs
            · obtain ⟨o, e⟩ := (ok.grow g).st a hs
              rw [(z3 a ha).1] at e; cases e
            · obtain ⟨o, e⟩ := r.dom a hs
              rw [(z3 a ha).1] at e; cases e
            · exact (z3 a ha).2 hs.1
    · exact h.elim
theorem ve_call {x : Str} {φ : List D → Res D} {n : Nat} {p pos : Pos} {e : Expr} {es : List Expr} {f : Ev → Res (List D × List Nat)} (hF : Fam P w K mg base N k X) (hf : Has P w K mg base x φ n k) (hg : ∀ i, Gl (X i) x) (ha : VA K mg X (e :: es) f)
    (hdb : (x == ("__debug__" : Str)) = false := by decide) (he : ∀ i, starEach (e :: es) (X i).env = (false, eval e (X i).env) :: starEach es (X i).env := by intro _; rfl) (hpl : ∀ i, (backTo pos (starEach es (X i).env)).any (·.1) = false := by intro _; rfl) : VE K mg X (.Call (.Name x p) (e :: es) [] pos) (eCall φ n f) := by
  intro W tk
  obtain ⟨fa, fd, ps, h1, h2, h3, h4⟩ := hf.ex
  obtain ⟨t, pa, q⟩ := ha W tk
  refine ⟨tCallS (spD K mg φ n) (WE W) t, fun i => pe_callS (CX := L2.CX (X i).prog (X i).w) (k := k) (f := fa) (fd := fd) (ps := ps) (by rw [hF.prog i, hF.wd i, hF.kk i, hF.mm i, hF.bb i]; exact h4) (hF.room i) (hg i) (by rw [hF.mm i]; exact h1) (by rw [hF.kk i]; exact h2) (by rw [hF.kk i]; exact h3) (fun σ => passAt (tk i) σ) (pa i) hdb (he i) (hpl i), fun S fps ρ σ H Q ok h => call_sem q ok h⟩
theorem ok_start {K : PySem.W.Frag} {H : Hp} {R : Addr → Prop} {N : List Str} {vs : List V} {ds : List D} (hR : ∀ a, R a → ∃ o, H a = some o) (r : RepL K H R vs ds []) : Ok K R (fun _ => []) (start N.length ds) (L2.start N vs) H := by
  refine ⟨?_, fun i s e => ?_, fun _ => List.nodup_nil, fun _ _ _ h => (by cases h), fun _ _ h => (by cases h), fun _ _ h => (by cases h), hR⟩
  · unfold L2.start start
    rw [List.length_append, List.length_append, List.length_map, List.length_map, List.length_replicate, List.length_replicate, r.length]
  · unfold start at e
    by_cases hi : i < ds.length
    · rw [List.getElem?_append_left (by simpa using hi), List.getElem?_map] at e
      cases e2 : ds[i]? with
      | none => rw [e2] at e; cases e
      | some d =>
        rw [e2] at e
        cases e
        obtain ⟨v, f, ev, rv, sf⟩ := r.get e2
        cases List.sublist_nil.mp sf
        refine ⟨v, ?_, rv.same (fun _ z => .inl z) (Same.refl _)⟩
        unfold L2.start
        rw [List.getElem?_append_left (by rw [List.length_map, r.length]; exact hi), List.getElem?_map, ev]
        rfl
    · rw [List.getElem?_append_right (by simpa using hi), List.getElem?_replicate] at e
      split at e <;> cases e
theorem run_ok {P : Program} {w : World} {K : PySem.W.Frag} {mg : Str → Option Value} {base : Heap} {x qual : Str} {st : Stmt} {f : Addr} {fd : FuncData} {N ps : List Str} {k n : Nat} {F : List Nat → Ev → Out} {φ : List D → Res D} (Fn : Fun K qual qual st f fd) (S : FnScope N ps (defScope st)) (hn : ps.length = n)
    (hφ : ∀ ds, ds.length = n → φ ds = run F N.length ds)
    (hb : ∀ (cdv : Value) (A : Around) (outer : List Env) (s : Shared) (H : Hp) (E : XK), Room k (A.deeper (PyProof.Rows.envOfC qual (defScope st) s.heap.objs.size f cdv)) → VSs K mg (fun _ : Unit => cxOf (L2.CX P w) P w K mg base N qual (defScope st) f cdv A outer s H E) (defBody st) F)
    :
    FnOk P w K mg base (L2.CX P w) (k + 1) f fd ps (spD K mg φ n) := by
  refine Fn.okX S (fun vs H Q E h => h.1.trans hn.symm) fun cdv A outer s H vs Q E hr h => ?_
  obtain ⟨hl, ds, R, r, hR, h⟩ := h
  obtain ⟨t, pt, qt⟩ := hb cdv A outer s H E hr _ (fun _ => takes_of rfl rfl rfl rfl)
  refine ⟨t, pt (), ?_⟩
  refine qt [] R (fun _ => []) (start N.length ds) (L2.start N vs) H _ (ok_start hR r) ?_
  rw [hφ ds (r.length.symm.trans hl)] at h
  unfold run at h
  cases e : F [] (start N.length ds) with
  | stuck => rw [e] at h; exact h
  | bk ρ => rw [e] at h; exact h.elim
  | ct ρ => rw [e] at h; exact h.elim
  | nx ρ =>
    rw [e] at h
    intro S' fps' σ' H' st' ok'
    exact h .non [] R H' ⟨fun a o q => st'.keep a o q (fun _ z => by cases z), fun _ z => z, fun _ z => .inl z⟩ .non List.nodup_nil (fun a z => by cases z)
  | rt d =>
    rw [e] at h
    intro v fp S' H' fin rv
    refine h v fp S' H' ⟨fun a o q => fin.keep a o q (fun _ z => by cases z), fin.sub, fun a z => ?_⟩ rv fin.nd fun a ha => ⟨?_, fin.ns a ha⟩
    · rcases fin.new a (.inl z) with q | ⟨i, q⟩ | q
      · exact .inl q
      · cases q
      · exact .inr ⟨q, fin.dom a z⟩
    · rcases fin.new a (.inr ha) with q | ⟨i, q⟩ | q
      · exact (fin.ns a ha (fin.sub a q)).elim
      · cases q
      · exact q
  | rs c ρ =>
    rw [e] at h
    intro C S' fps' σ' H' hm st' ok'
    exact h C H' hm (fun a o q => st'.keep a o q (fun _ z => by cases z))
end
end Py

set_option Elab.async false
set_option linter.all false
set_option maxRecDepth 100000
namespace Py
open PySem PySem.Spec L2

/-! ### list comprehensions -/
def wipeE (ρ : Ev) : List Nat → Ev
  | [] => ρ
  | v :: vs => (wipeE ρ vs).set v none
theorem wipeE_length (ρ : Ev) : ∀ vs : List Nat, (wipeE ρ vs).length = ρ.length
  | [] => rfl
  | v :: vs => by rw [wipeE, List.length_set, wipeE_length ρ vs]
theorem wipeE_some {ρ : Ev} {j : Nat} {s : Slot} : ∀ {vs : List Nat}, (wipeE ρ vs)[j]? = some (some s) → ρ[j]? = some (some s) ∧ j ∉ vs
  | [], h => ⟨h, by simp⟩
  | v :: vs, h => by
    rw [wipeE, List.getElem?_set] at h
    split at h
    · split at h <;> cases h
    · rename_i hv
      obtain ⟨h1, h2⟩ := wipeE_some h
      exact ⟨h1, fun hm => (List.mem_cons.mp hm).elim (fun e => hv e.symm) h2⟩
abbrev BlkI (ι : Type) := ι × Shared × Hp × Addr × List (Str × Addr) × List Addr
abbrev blkF {ι : Type} (X : ι → Cx) (scope : Scope) : BlkI ι → Cx := fun q => (X q.1).blk q.2.1 q.2.2.1 scope (compEnvC scope q.2.2.2.2.1 q.2.2.2.1 (X q.1).env) q.2.2.2.2.2
theorem Fam.blk {ι : Type} {X : ι → Cx} {P : Program} {w : World} {K : PySem.W.Frag} {mg : Str → Option Value} {base : Heap} {N : List Str} {k : Nat} (hF : Fam P w K mg base N k X) (scope : Scope) : Fam P w K mg base N k (blkF X scope) :=
  ⟨fun q => hF.prog q.1, fun q => hF.wd q.1, fun q => hF.kk q.1, fun q => hF.mm q.1, fun q => hF.bb q.1, fun q => hF.nn q.1, hF.nd, fun q => hF.calm q.1, fun q => hF.room q.1⟩
def VTs (K : PySem.W.Frag) (mg : Str → Option Value) {ι : Type} (X : ι → Cx) (ifs : List Expr) (f : Ev → Res Bool) : Prop :=
  ∀ W, (∀ i, Takes (X i) W) → ∃ t, (∀ i, PTs (X i) ifs t) ∧ ∀ S fps ρ σ H Q, Ok K S fps ρ σ H → TPost mg W S σ H (f ρ) Q → t σ H Q
def tT : Ev → Res Bool := fun _ => .ok true
def nors {α : Type} : Res α → Res α
  | .ok a => .ok a
  | _ => .stuck
def lcL (G : D × List Nat → Ev → Option Ev) (tst : Ev → Res Bool) (el : Ev → Res (D × List Nat)) (p : List Nat) (ρ : Ev) : List D → Res (List D × List Nat)
  | [] => .ok ([], [])
  | x :: xs => match G (mk x p) ρ with
    | none => .stuck
    | some ρ1 => (nors (tst ρ1)).bind fun b => if b = true then (nors (el ρ1)).bind fun d => (lcL G tst el p ρ xs).bind fun r => .ok (d.1 :: r.1, d.2 ++ r.2) else lcL G tst el p ρ xs
def eLc (vs : List Nat) (f : Ev → Res (List D × List Nat)) (G : D × List Nat → Ev → Option Ev) (tst : Ev → Res Bool) (el : Ev → Res (D × List Nat)) : Ev → Res (D × List Nat) := fun ρ =>
  (f ρ).bind fun a => (lcL G tst el a.2 (wipeE ρ vs) a.1).bind fun r => if r.1.length ≤ sizeLine then .ok (mk (.node true .lst r.1) (r.2 ++ vs)) else .stuck
section
variable {ι : Type} {X : ι → Cx} {P : Program} {w : World} {K : PySem.W.Frag} {mg : Str → Option Value} {base : Heap} {N : List Str} {k : Nat}
theorem vts_nil : VTs K mg X [] tT := fun W tk => ⟨_, fun _ => pts_nil, fun S fps ρ σ H Q ok h => h S H Grow.refl⟩
theorem vts_one {c : Expr} {f : Ev → Res Bool} (h : VT K mg X c f) : VTs K mg X [c] f := fun W tk => let ⟨t, p, q⟩ := h W tk; ⟨t, fun i => pts_one (p i), q⟩
theorem takesF {X : Cx} : Takes X (fun _ _ _ _ => False) := fun _ _ x => by
  obtain ⟨_, _, _, _, _, _, _, _, _, _, _, _, _, _, _, _, z⟩ := x
  exact z.elim
/-- a list elsewhere changes -/
theorem Ok.off {S : Addr → Prop} {fps : Nat → List Addr} {ρ : Ev} {σ : L2.St} {H : Hp} {D : Addr} {acc acc' : List V} (ok : Ok K S fps ρ σ H) (h1 : ¬ S D) (h2 : ∀ i, D ∉ fps i) (h3 : H D = some (.lst acc)) : Ok K S fps ρ σ (upd H D (.lst acc')) := by
  refine ⟨ok.len, fun i s e => ?_, ok.nd, ok.dj, ok.ns, fun i a ha => ?_, fun a ha => ?_⟩
  · obtain ⟨v, hv, r⟩ := ok.rep i s e
    refine ⟨v, hv, r.mono (fun _ z => z) (fun a ha o q => ?_) fun a vs q => ?_⟩
    · rw [upd_ne]; exact q
      rintro rfl
      rcases ha with (ha | ⟨r, _, ha⟩) | ha
      · exact h1 ha
      · exact h2 r ha
      · exact h2 i ha
    · rw [upd_ne]; exact q
      rintro rfl
      rw [h3] at q; cases q
  · obtain ⟨t, vs, ht, q⟩ := ok.own i a ha
    refine ⟨t, vs, ht, ?_⟩
    rw [upd_ne]; exact q
    rintro rfl; exact h2 i ha
  · obtain ⟨o, q⟩ := ok.st a ha
    refine ⟨o, ?_⟩
    rw [upd_ne]; exact q
    rintro rfl; exact h1 ha
theorem lc_sem {W : WX} {wi : TI} {g : TG} {tt : TT} {te : TE} {vs ts : List Nat} {f : Ev → Res (List D × List Nat)} {G : D × List Nat → Ev → Option Ev} {tst : Ev → Res Bool} {el : Ev → Res (D × List Nat)} (hts : ∀ j ∈ ts, j ∈ vs)
    (qi : ∀ S fps ρ σ H R, Ok K S fps ρ σ H → IPost K mg W S fps σ H (f ρ) R → wi σ H R)
    (qg : ∀ S fps lk ρ σ H v r ρ' Q, Ok K S fps ρ σ H → Rep K H (Reg S fps r.2) v r.1 [] → G r ρ = some ρ' → (∀ S' fps' σ', Ok K S' fps' ρ' σ' H → Step S fps lk H S' fps' H → Puts ts S fps σ S' fps' σ' → Q σ' H) → g v σ H Q)
    (qt : ∀ S fps ρ σ H Q, Ok K S fps ρ σ H → TPost mg (fun _ _ _ _ => False) S σ H (tst ρ) Q → tt σ H Q) (qe : ∀ S fps ρ σ H Q, Ok K S fps ρ σ H → EPost K mg (fun _ _ _ _ => False) S fps σ H (el ρ) Q → te σ H Q)
    {S : Addr → Prop} {fps : Nat → List Addr} {ρ : Ev} {σ : L2.St} {H : Hp} {Q : VK} (ok : Ok K S fps ρ σ H) (h : EPost K mg W S fps σ H (eLc vs f G tst el ρ) Q) : tLc wi g tt te vs σ H Q := by
  unfold eLc at h
  refine qi S fps ρ σ H _ ok ?_
  cases e1 : f ρ with
  | stuck => rw [e1] at h; exact h
  | rs c => rw [e1] at h; exact h
  | ok r =>
    obtain ⟨xs, p⟩ := r
    rw [e1] at h
    intro J S1 H1 g1 wk D hD
    dsimp only [Res.bind] at h
    cases e2 : lcL G tst el p (wipeE ρ vs) xs with
    | stuck => rw [e2] at h; exact h.elim
    | rs c =>
      -- never
      exfalso
      clear h wk e1
      induction xs with
      | nil => cases e2
      | cons x xs ih =>
        unfold lcL at e2
        split at e2
        · cases e2
        · rename_i ρ1 _
          cases t1 : tst ρ1 with
          | ok b =>
            rw [t1] at e2
            dsimp only [nors, Res.bind] at e2
            split at e2
            · cases t2 : el ρ1 with
              | ok d =>
                rw [t2] at e2
                dsimp only [nors, Res.bind] at e2
                cases t3 : lcL G tst el p (wipeE ρ vs) xs with
                | ok r => rw [t3] at e2; cases e2
                | rs c' => rw [t3] at e2; cases e2; exact ih t3
                | stuck => rw [t3] at e2; cases e2
              | rs c' => rw [t2] at e2; cases e2
              | stuck => rw [t2] at e2; cases e2
            · exact ih e2
          | rs c' => rw [t1] at e2; cases e2
          | stuck => rw [t1] at e2; cases e2
    | ok tot =>
      rw [e2] at h
      dsimp only at h
      rcases Nat.lt_or_ge sizeLine tot.1.length with hbig | hsz
      · rw [if_neg (by omega)] at h; exact h.elim
      rw [if_pos hsz] at h
      have ok1 := ok.grow g1
      have H1r : ∀ r a, a ∈ fps r → a ≠ D := fun r a ha e => by
        obtain ⟨t, ws, _, q⟩ := ok1.own r a ha
        rw [e, hD] at q; cases q
      let Sl0 : Addr → Prop := fun a => S1 a ∨ ∃ j ∈ vs, a ∈ fps j
      let fpl : Nat → List Addr := fun j => if j ∈ vs then [] else fps j
      have fplm : ∀ j a, a ∈ fpl j → j ∉ vs ∧ a ∈ fps j := fun j a ha => by
        have ha : a ∈ (if j ∈ vs then [] else fps j) := ha
        split at ha
        · cases ha
        · exact ⟨‹_›, ha⟩
      have fpli : ∀ j a, j ∉ vs → a ∈ fps j → a ∈ fpl j := fun j a hj ha => by
        show a ∈ (if j ∈ vs then [] else fps j)
        rw [if_neg hj]; exact ha
      have regl : ∀ (dp : List Nat) a, Reg S1 fps dp a → Reg Sl0 fpl dp a := fun dp a z => by
        rcases z with z | ⟨r, hr, z⟩
        · exact .inl (.inl z)
        · by_cases hv : r ∈ vs
          · exact .inl (.inr ⟨r, hv, z⟩)
          · exact .inr ⟨r, hr, fpli r a hv z⟩
      have okl : Ok K Sl0 fpl (wipeE ρ vs) (wipe σ vs) H1 := by
        refine ⟨by rw [wipe_length, wipeE_length, ok.len], fun i s e => ?_, fun i => ?_, fun i j a h1 h2 => ok.dj i j a (fplm i a h1).2 (fplm j a h2).2, fun i a h1 h2 => ?_, fun i a h1 => ok1.own i a (fplm i a h1).2, fun a h1 => ?_⟩
        · obtain ⟨e, hn⟩ := wipeE_some e
          obtain ⟨v, hv, r⟩ := ok1.rep i s e
          refine ⟨v, by rw [wipe_get, if_neg (fun z => hn z.1)]; exact hv, ?_⟩
          show Rep K H1 (Reg Sl0 fpl s.dp) v s.d (if i ∈ vs then [] else fps i)
          rw [if_neg hn]
          exact r.same (regl _) (Same.refl _)
        · show (if i ∈ vs then [] else fps i).Nodup
          split
          · exact List.nodup_nil
          · exact ok.nd i
        · rcases h2 with h2 | ⟨j, hj, h2⟩
          · exact ok1.ns i a (fplm i a h1).2 h2
          · have := ok.dj i j a (fplm i a h1).2 h2
            subst this
            exact (fplm _ a h1).1 hj
        · rcases h1 with h1 | ⟨j, _, h1⟩
          · exact ok1.st a h1
          · obtain ⟨t, ws, _, q⟩ := ok1.own j a h1
            exact ⟨_, q⟩
      have sD : ∀ acc : List V, Same H1 (upd H1 D (.lst acc)) := fun _ => same_upd hD
      have nS0 : ¬ Sl0 D := fun z => by
        obtain ⟨o, q⟩ := okl.st D z
        rw [hD] at q; cases q
      refine ⟨fun i m Hc => m = xs.length - i ∧ i ≤ xs.length ∧ ∃ (Sl : Addr → Prop) (acc : List V) (ads : List Py.D) (fpa : List Addr) (q : List Nat) (rest : List Py.D × List Nat),
        Same H1 Hc ∧ (∀ a, Sl0 a → Sl a) ∧ (∀ a, Sl a → Sl0 a ∨ (H1 a = none ∧ ∃ o, Hc a = some o)) ∧ ¬ Sl D ∧ Hc D = some (.lst acc) ∧ RepL K Hc (Reg Sl fpl q) acc ads fpa ∧ fpa.Nodup ∧ D ∉ fpa ∧ (∀ a ∈ fpa, H1 a = none ∧ ¬ Sl a) ∧
        Ok K Sl fpl (wipeE ρ vs) (wipe σ vs) Hc ∧ lcL G tst el p (wipeE ρ vs) (xs.drop i) = .ok rest ∧ tot = (ads ++ rest.1, q ++ rest.2),
        ⟨xs.length, rfl, Nat.zero_le _, Sl0, [], [], [], [], tot, sD [], fun _ z => z, fun _ z => .inl z, nS0, upd_same, .nil, List.nodup_nil, (by simp), fun a z => (by cases z), ?_, e2, rfl⟩, ?_⟩
      · have g2 : Grow Sl0 H1 Sl0 (upd H1 D (.lst [])) := ⟨sD [], fun _ z => z, fun _ z => .inl z⟩
        exact okl.grow g2
      rintro i m Hc ⟨rfl, hi, Sl, acc, ads, fpa, q, rest, sm, sub, new, nSD, eD, rl, nda, nDa, za, okc, er, et⟩
      have sy : Stays (Reg S1 fps p) H1 Hc := Same.stays sm
      by_cases hlt : i < xs.length
      · have edrop : xs.drop i = xs[i] :: xs.drop (i + 1) := List.drop_eq_getElem_cons hlt
        have ei : xs[i]? = some xs[i] := List.getElem?_eq_getElem hlt
        rw [edrop] at er
        generalize xs[i] = d at er ei
        refine .inr ⟨wk.go i Hc sy hlt, fun Hn => ∃ (Sl : Addr → Prop) (acc : List V) (ads : List Py.D) (fpa : List Addr) (q : List Nat) (rest : List Py.D × List Nat),
          Same H1 Hn ∧ (∀ a, Sl0 a → Sl a) ∧ (∀ a, Sl a → Sl0 a ∨ (H1 a = none ∧ ∃ o, Hn a = some o)) ∧ ¬ Sl D ∧ Hn D = some (.lst acc) ∧ RepL K Hn (Reg Sl fpl q) acc ads fpa ∧ fpa.Nodup ∧ D ∉ fpa ∧ (∀ a ∈ fpa, H1 a = none ∧ ¬ Sl a) ∧
          Ok K Sl fpl (wipeE ρ vs) (wipe σ vs) Hn ∧ lcL G tst el p (wipeE ρ vs) (xs.drop (i + 1)) = .ok rest ∧ tot = (ads ++ rest.1, q ++ rest.2), fun Hn z => ⟨_, by omega, rfl, hlt, z⟩, fun x H2 y => ?_⟩
        obtain ⟨sm2, rx⟩ := wk.yld i Hc x H2 d sy y ei
        unfold lcL at er
        cases eg : G (mk d p) (wipeE ρ vs) with
        | none => rw [eg] at er; cases er
        | some ρ1 =>
          rw [eg] at er
          dsimp only at er
          have ok2 : Ok K Sl fpl (wipeE ρ vs) (wipe σ vs) H2 := okc.grow ⟨sm2, fun _ z => z, fun _ z => .inl z⟩
          have rx' : Rep K H2 (Reg Sl fpl p) x d [] := rx.same (fun a z => Reg.mono sub (fun _ z => z) a (regl p a z)) (Same.refl _)
          refine qg Sl fpl [] (wipeE ρ vs) (wipe σ vs) H2 x (mk d p) ρ1 _ ok2 rx'.mkd eg fun S3 fps3 σ3 ok3 st3 u3 => ⟨(u3.wp vs hts).trans (wipe_wipe σ vs), ?_⟩
          have s3 : ∀ a, S3 a → Sl a := fun a z => by
            rcases u3.st a z with z | ⟨j, hj, z⟩
            · exact z
            · exact ((fplm j a z).1 (hts j hj)).elim
          cases t1 : tst ρ1 with
          | stuck => rw [t1] at er; cases er
          | rs c => rw [t1] at er; cases er
          | ok b =>
            rw [t1] at er
            dsimp only [nors, Res.bind] at er
            refine qt S3 fps3 ρ1 σ3 H2 _ ok3 ?_
            rw [t1]
            intro S4 H3 g4
            have ok4 := ok3.grow g4
            have smc3 : Same Hc H3 := sm2.trans g4.same
            have eD3 : H3 D = some (.lst acc) := smc3 D _ eD
            have n4 : ∀ a, S4 a → Sl a ∨ (Hc a = none ∧ ∃ o, H3 a = some o) := fun a z => by
              rcases g4.new a z with z | ⟨z, o⟩
              · exact .inl (s3 a z)
              · exact .inr ⟨sm2.free z, o⟩
            cases b with
            | false =>
              rw [if_neg Bool.false_ne_true] at er
              rw [if_neg Bool.false_ne_true]
              refine ⟨Sl, acc, ads, fpa, q, rest, sm.trans smc3, sub, fun a z => (new a z).imp id fun z => ⟨z.1, Same.dom smc3 z.2⟩, nSD, eD3, rl.same (fun _ z => z) smc3, nda, nDa, za, okc.grow ⟨smc3, fun _ z => z, fun _ z => .inl z⟩, er, et⟩
            | true =>
              rw [if_pos rfl] at er
              rw [if_pos rfl]
              cases t2 : el ρ1 with
              | stuck => rw [t2] at er; cases er
              | rs c => rw [t2] at er; cases er
              | ok r =>
                rw [t2] at er
                dsimp only [nors, Res.bind] at er
                cases t3 : lcL G tst el p (wipeE ρ vs) (xs.drop (i + 1)) with
                | stuck => rw [t3] at er; cases er
                | rs c => rw [t3] at er; cases er
                | ok rest' =>
                  rw [t3] at er
                  cases er
                  refine qe S4 fps3 ρ1 σ3 H3 _ ok4 ?_
                  rw [t2]
                  intro yv fpy S5 H4 g5 ry ny zy
                  have smc4 : Same Hc H4 := smc3.trans g5.same
                  have eD4 : H4 D = some (.lst acc) := g5.same D _ eD3
                  have n5 : ∀ a, S5 a → Sl a ∨ (Hc a = none ∧ ∃ o, H4 a = some o) := fun a z => by
                    rcases g5.new a z with z | ⟨z, o⟩
                    · exact (n4 a z).imp id fun z => ⟨z.1, Same.dom g5.same z.2⟩
                    · exact .inr ⟨smc3.free z, o⟩
                  have nS5 : ¬ S5 D := fun z => by
                    rcases n5 D z with z | ⟨z, _⟩
                    · exact nSD z
                    · rw [eD] at z; cases z
                  have la : acc.length = ads.length := rl.length
                  have hlen : acc.length < sizeLine := by
                    have := congrArg (fun t => t.1.length) et
                    simp only [List.length_append, List.length_cons] at this
                    omega
                  refine ⟨acc, eD4, hlen, fun a => Sl a ∨ S5 a, acc ++ [yv], ads ++ [r.1], fpa ++ fpy, q ++ r.2, rest', ?_, fun a z => .inl (sub a z), fun a z => ?_, fun z => z.elim nSD nS5, upd_same, ?_, ?_, ?_, ?_, ?_, rfl, ?_⟩
                  · intro a o e
                    rw [upd_ne (ne_of_none e hD)]
                    exact smc4 a o (sm a o e)
                  · have dm : ∀ a, (∃ o, H4 a = some o) → ∃ o, upd H4 D (.lst (acc ++ [yv])) a = some o := fun a ⟨o, e⟩ => by
                      by_cases ha : a = D
                      · subst ha; exact ⟨_, upd_same⟩
                      · exact ⟨o, by rw [upd_ne ha]; exact e⟩
                    rcases z with z | z
                    · exact (new a z).imp id fun z => ⟨z.1, dm a (Same.dom smc4 z.2)⟩
                    · rcases n5 a z with z | ⟨z, o⟩
                      · exact (new a z).imp id fun z => ⟨z.1, dm a (Same.dom smc4 z.2)⟩
                      · exact .inr ⟨sm.free z, dm a o⟩
                  · refine RepL.append (rl.mono (Reg.mono (fun _ => .inl) fun _ => List.mem_append_left _) (fun a ha o e => ?_) fun a ws e => ?_) (RepL.one (ry.mono (fun a z => ?_) (fun a ha o e => ?_) fun a ws e => ?_))
                    · rw [upd_ne]; exact smc4 a o e
                      rintro rfl
                      rcases ha with (z | ⟨j, _, z⟩) | z
                      · exact nSD z
                      · exact H1r j _ (fplm j _ z).2 rfl
                      · exact nDa z
                    · rw [upd_ne]; exact smc4 a _ e
                      rintro rfl; rw [eD] at e; cases e
                    · rcases z with z | ⟨j, hj, z⟩
                      · exact .inl (.inr z)
                      · exact .inr ⟨j, List.mem_append_right _ hj, u3.fp j a z⟩
                    · rw [upd_ne]; exact e
                      rintro rfl
                      rcases ha with (z | ⟨j, _, z⟩) | z
                      · exact nS5 z
                      · exact H1r j _ (fplm j _ (u3.fp j _ z)).2 rfl
                      · have := (zy _ z).1
                        rw [eD3] at this; cases this
                    · rw [upd_ne]; exact e
                      rintro rfl; rw [eD4] at e; cases e
                  · refine ap_nodup nda ny fun a h1 h2 => ?_
                    obtain ⟨o, e⟩ := rl.dom a h1
                    have := smc3 a o e
                    rw [(zy a h2).1] at this; cases this
                  · intro z
                    rcases List.mem_append.mp z with z | z
                    · exact nDa z
                    · have := (zy _ z).1
                      rw [eD3] at this; cases this
                  · intro a ha
                    rcases List.mem_append.mp ha with z | z
                    · refine ⟨(za a z).1, fun hs => ?_⟩
                      rcases hs with hs | hs
                      · exact (za a z).2 hs
                      · rcases n5 a hs with hs | ⟨hs, _⟩
                        · exact (za a z).2 hs
                        · obtain ⟨o, e⟩ := rl.dom a z
                          rw [hs] at e; cases e
                    · refine ⟨sm.free (smc3.free (zy a z).1), fun hs => ?_⟩
                      rcases hs with hs | hs
                      · obtain ⟨o, e⟩ := okc.st a hs
                        have := smc3 a o e
                        rw [(zy a z).1] at this; cases this
                      · exact (zy a z).2 hs
                  · refine Ok.off (okc.grow ⟨smc4, fun _ => .inl, fun a z => z.elim .inl (n5 a)⟩) (fun z => z.elim nSD nS5) (fun j z => H1r j D (fplm j D z).2 rfl) eD4
                  · rw [et]; simp
      · have eiq : i = xs.length := by omega
        subst eiq
        rw [List.drop_length] at er
        cases er
        refine .inl ⟨wk.stop _ Hc sy (Nat.le_refl _), ?_⟩
        simp only [List.append_nil] at et
        subst et
        refine Val.fin (K := K) (S' := fun a => S1 a ∨ (Sl a ∧ H1 a = none)) (fp := D :: fpa) h ⟨g1.same.trans sm, fun a z => .inl (g1.sub a z), fun a z => ?_⟩ (.own rfl trivial eD (rl.same (fun a z => ?_) (Same.refl _))) (List.nodup_cons.mpr ⟨nDa, nda⟩) fun a ha => ?_
        · rcases z with z | ⟨z, n⟩
          · exact (g1.new a z).imp id fun z => ⟨z.1, Same.dom sm z.2⟩
          · rcases new a z with z | z
            · obtain ⟨o, e⟩ := okl.st a z
              rw [n] at e; cases e
            · exact .inr ⟨g1.same.free z.1, z.2⟩
        · rcases z with z | ⟨j, hj, z⟩
          · rcases new a z with z' | z'
            · rcases z' with z' | ⟨j, hj, z'⟩
              · exact .inl (.inl z')
              · exact .inr ⟨j, List.mem_append_right _ hj, z'⟩
            · exact .inl (.inr ⟨z, z'.1⟩)
          · exact .inr ⟨j, List.mem_append_left _ hj, (fplm j a z).2⟩
        · rcases List.mem_cons.mp ha with rfl | ha
          · refine ⟨g1.same.free hD, fun z => ?_⟩
            rcases z with z | ⟨z, _⟩
            · obtain ⟨o, e⟩ := ok1.st _ z
              rw [hD] at e; cases e
            · exact nSD z
          · refine ⟨g1.same.free (za a ha).1, fun z => ?_⟩
            rcases z with z | ⟨z, _⟩
            · exact (za a ha).2 (sub a (.inl z))
            · exact (za a ha).2 z
theorem ve_lc {elt tg iter : Expr} {ifs : List Expr} {scope : Scope} {own : List (Str × Nat)} {pos : Pos} {ts : List Nat} {f : Ev → Res (List D × List Nat)} {G : D × List Nat → Ev → Option Ev} {tst : Ev → Res Bool} {el : Ev → Res (D × List Nat)}
    (hF : Fam P w K mg base N k X) (hok : ∀ i, BlkOk (X i).N (X i).env.scope scope own) (hi : VI K mg X tg iter f) (hg : VG K (blkF X scope) tg ts G) (ht : VTs K mg (blkF X scope) ifs tst) (he : VE K mg (blkF X scope) elt el)
    (hts : ∀ j ∈ ts, j ∈ own.map (·.2) := by decide) (hs : ∀ i x, foldedSetIterable iter (X i).env x = pure x := by intro _ _; rfl) : VE K mg X (.ListComp elt [⟨tg, iter, ifs, 0⟩] scope pos) (eLc (own.map (·.2)) f G tst el) := by
  intro W tk
  obtain ⟨wi, pi, qi⟩ := hi W tk
  obtain ⟨g, pg, qg⟩ := hg
  obtain ⟨tt, pt, qt⟩ := ht _ (fun _ => takesF)
  obtain ⟨te, pe, qe⟩ := he _ (fun _ => takesF)
  exact ⟨tLc wi g tt te (own.map (·.2)), fun i => pe_lc (hF.calm i) (by rw [hF.nn i]; exact hF.nd) (pi i) (hok i) (fun s H C cl fp => pg (i, s, H, C, cl, fp)) (fun s H C cl fp => pt (i, s, H, C, cl, fp)) (fun s H C cl fp => pe (i, s, H, C, cl, fp)) (hs i),
    fun S fps ρ σ H Q ok h => lc_sem hts qi qg qt qe ok h⟩
/-- name = [..] on one line -/
theorem vs_setLc {i : Nat} {y : Str} {py : Pos} {elt tg iter : Expr} {ifs : List Expr} {scope : Scope} {own : List (Str × Nat)} {pos spos : Pos} {ts : List Nat} {f : Ev → Res (List D × List Nat)} {G : D × List Nat → Ev → Option Ev} {tst : Ev → Res Bool} {el : Ev → Res (D × List Nat)}
    (hF : Fam P w K mg base N k X) (hok : ∀ i, BlkOk (X i).N (X i).env.scope scope own) (hi : VI K mg X tg iter f) (hg : VG K (blkF X scope) tg ts G) (ht : VTs K mg (blkF X scope) ifs tst) (he : VE K mg (blkF X scope) elt el)
    (hy : ∀ i', (X i').N[i]? = some y := by intro _; rfl) (hyl : ∀ i', (X i').env.scope.names.lookup y = some .local := by intro _; rfl)
    (hsw : ∀ i', swapsWith (.ListComp elt [⟨tg, iter, ifs, 0⟩] scope pos) (some (.Name y py)) spos.line (X i').env = pure true := by intro _; exact sw_true rfl rfl rfl (by decide +kernel))
    (hts : ∀ j ∈ ts, j ∈ own.map (·.2) := by decide) (hs : ∀ i x, foldedSetIterable iter (X i).env x = pure x := by intro _ _; rfl) : VS K mg X (.Assign [.Name y py] (.ListComp elt [⟨tg, iter, ifs, 0⟩] scope pos) spos) (sSet i (eLc (own.map (·.2)) f G tst el)) := by
  intro W tk
  obtain ⟨wi, pi, qi⟩ := hi W tk
  obtain ⟨g, pg, qg⟩ := hg
  obtain ⟨tt, pt, qt⟩ := ht _ (fun _ => takesF)
  obtain ⟨te, pe, qe⟩ := he _ (fun _ => takesF)
  exact ⟨tAsg (tLc wi g tt te (own.map (·.2))) (gName i), fun i' => ps_setLc (hF.calm i') (by rw [hF.nn i']; exact hF.nd) (hy i') (hyl i') (hsw i') (pi i') (hok i') (fun s H C cl fp => pg (i', s, H, C, cl, fp)) (fun s H C cl fp => pt (i', s, H, C, cl, fp)) (fun s H C cl fp => pe (i', s, H, C, cl, fp)) (hs i'),
    fun lk S fps ρ σ H E ok h => set_sem (fun S fps ρ σ H Q ok h => lc_sem hts qi qg qt qe ok h) ok h⟩
end
end Py

set_option Elab.async false
set_option linter.all false
set_option maxRecDepth 100000
namespace Py
open PySem PySem.Spec L2

/-! ### a name's own container is changed -/
def kd (i : Nat) (ρ : Ev) (j : Nat) : Bool := match ρ[j]? with
  | some (some s) => s.dp.contains i
  | _ => false
def putE (i : Nat) (r : D × List Nat) (ρ : Ev) : Ev :=
  (ρ.map fun s => match s with
    | some s => if s.dp.contains i = true then none else some ⟨s.d, s.dp.filter fun j => !kd i ρ j⟩
    | none => none).set i (some ⟨r.1, r.2.filter fun j => !kd i ρ j⟩)
section
variable {K : PySem.W.Frag}
theorem Ok.mine {S : Addr → Prop} {fps : Nat → List Addr} {ρ : Ev} {σ : L2.St} {H : Hp} {i : Nat} {t : Tg} {xs : List D} {dp : List Nat} (ok : Ok K S fps ρ σ H) (e : ρ[i]? = some (some ⟨.node true t xs, dp⟩)) :
    ∃ a vs f, σ[i]? = some (some (.ref a)) ∧ H a = some (ho t vs) ∧ t.isT = false ∧ t.wf vs.length ∧ RepL K H (Reg S fps dp) vs xs f ∧ fps i = a :: f := by
  obtain ⟨v, hv, r⟩ := ok.rep i _ e
  generalize ef : fps i = fp at r
  cases r with
  | own h1 h2 h3 l => exact ⟨_, _, _, hv, h3, h1, h2, l, rfl⟩
theorem put_ok {S0 S : Addr → Prop} {fps : Nat → List Addr} {lk : List Nat} {ρ : Ev} {σ : L2.St} {H0 H : Hp} {i : Nat} {t t' : Tg} {xs xs' : List D} {dp dp' : List Nat} {a : Addr} {vs vs' : List V} {f f' : List Addr}
    (ok0 : Ok K S0 fps ρ σ H0) (g : Grow S0 H0 S H) (e : ρ[i]? = some (some ⟨.node true t xs, dp⟩)) (hσ : σ[i]? = some (some (.ref a))) (hi : fps i = a :: f) (ha : H a = some (ho t vs)) (htt : t.isT = false) (hdp : i ∉ dp) (ht' : t'.isT = false) (hw : t'.wf vs'.length)
    (rl : RepL K H (Reg S fps dp') vs' xs' f') (hdp' : i ∉ dp') (nd : (a :: f').Nodup) (hf : ∀ b ∈ f', b ∈ f ∨ (H0 b = none ∧ ¬ S b)) (hlk : i ∉ lk) :
    ∃ S' fps', Ok K S' fps' (putE i (.node true t' xs', dp') ρ) σ (upd H a (ho t' vs')) ∧ Step S0 fps lk H0 S' fps' (upd H a (ho t' vs')) := by
  have ok := ok0.grow g
  have nk : kd i ρ i = false := by
    unfold kd
    rw [e]
    simpa using hdp
  have hai : a ∈ fps i := by rw [hi]; exact List.mem_cons_self
  have other : ∀ j b, j ≠ i → b ∈ fps j → b ≠ a := fun j b hj hb e => hj (ok.dj j i b hb (e ▸ hai))
  have nSa : ¬ S a := ok.ns i a hai
  have reg : ∀ q b, Reg S fps q b → Reg (fun b => S b ∨ ∃ j, kd i ρ j = true ∧ b ∈ fps j) (fun j => if j = i then a :: f' else if kd i ρ j = true then [] else fps j) (q.filter fun j => !kd i ρ j) b ∨ i ∈ q := fun q b h => by
    rcases h with h | ⟨r, hr, h⟩
    · exact .inl (.inl (.inl h))
    · by_cases hri : r = i
      · exact .inr (hri ▸ hr)
      · cases hk : kd i ρ r with
        | true => exact .inl (.inl (.inr ⟨r, hk, h⟩))
        | false => exact .inl (.inr ⟨r, List.mem_filter.mpr ⟨hr, by rw [hk]; rfl⟩, by show b ∈ (if r = i then a :: f' else if kd i ρ r = true then [] else fps r); rw [if_neg hri, hk]; exact h⟩)
  have tupk : ∀ b ws, H b = some (.tup ws) → upd H a (ho t' vs') b = some (.tup ws) := fun b ws q => by
    rw [upd_ne]; exact q
    rintro rfl
    rw [ha] at q
    exact ho_tup htt (Option.some.inj q).symm
  have fpm : ∀ j b, b ∈ (if j = i then a :: f' else if kd i ρ j = true then [] else fps j) → (j = i ∧ (b = a ∨ b ∈ f')) ∨ (j ≠ i ∧ kd i ρ j = false ∧ b ∈ fps j) := fun j b h => by
    split at h
    · exact .inl ⟨‹_›, by simpa using h⟩
    · split at h
      · cases h
      · exact .inr ⟨‹_›, by simpa using ‹¬ kd i ρ j = true›, h⟩
  have hf' : ∀ b ∈ f', (b ∈ fps i ∨ (H0 b = none ∧ ¬ S b)) := fun b hb => (hf b hb).imp (fun z => by rw [hi]; exact List.mem_cons_of_mem _ z) id
  have nsf : ∀ b ∈ f', ¬ S b := fun b hb z => (hf' b hb).elim (fun q => ok.ns i b q z) fun q => q.2 z
  have djf : ∀ j b, j ≠ i → b ∈ f' → b ∉ fps j := fun j b hj hb z => (hf' b hb).elim (fun q => hj (ok.dj j i b z q)) fun q => by
    obtain ⟨t, ws, _, w⟩ := ok0.own j b z
    rw [q.1] at w; cases w
  refine ⟨fun b => S b ∨ ∃ j, kd i ρ j = true ∧ b ∈ fps j, fun j => if j = i then a :: f' else if kd i ρ j = true then [] else fps j, ⟨?_, fun j s q => ?_, fun j => ?_, fun j l b h1 h2 => ?_, fun j b h1 h2 => ?_, fun j b h => ?_, fun b h => ?_⟩, ⟨fun b o q hn => ?_, fun r hr b hb => ?_, fun b h => .inl (g.sub b h), fun b h => ?_⟩⟩
  · unfold putE
    rw [List.length_set, List.length_map, ok.len]
  · unfold putE at q
    by_cases hj : j = i
    · subst hj
      have hlt : j < ρ.length := (List.getElem?_eq_some_iff.mp e).1
      rw [List.getElem?_set_self (by simpa using hlt)] at q
      cases q
      refine ⟨.ref a, hσ, ?_⟩
      rw [if_pos rfl]
      refine .own ht' hw upd_same (rl.mono (fun b z => (reg dp' b z).resolve_right hdp') (fun b z o q => ?_) tupk)
      rw [upd_ne]; exact q
      rintro rfl
      rcases z with (z | ⟨r, hr, z⟩) | z
      · exact nSa z
      · exact hdp' ((ok.dj r j _ z hai) ▸ hr)
      · exact (List.nodup_cons.mp nd).1 z
    · rw [List.getElem?_set_ne (Ne.symm hj), List.getElem?_map] at q
      cases e2 : ρ[j]? with
      | none => rw [e2] at q; cases q
      | some o =>
        cases o with
        | none => rw [e2] at q; cases q
        | some s0 =>
          rw [e2] at q
          simp only [Option.map_some] at q
          split at q
          · cases q
          · rename_i hc
            cases q
            have hc : i ∉ s0.dp := by simpa using hc
            have hk : kd i ρ j = false := by unfold kd; rw [e2]; simpa using hc
            obtain ⟨v, hv, r⟩ := ok.rep j s0 e2
            refine ⟨v, hv, ?_⟩
            rw [if_neg hj, hk]
            refine r.mono (fun b z => (reg _ b z).resolve_right hc) (fun b z o q => ?_) tupk
            rw [upd_ne]; exact q
            rintro rfl
            rcases z with (z | ⟨r, hr, z⟩) | z
            · exact nSa z
            · exact hc ((ok.dj r i _ z hai) ▸ hr)
            · exact other j _ hj z rfl
  · split
    · exact nd
    · split
      · exact List.nodup_nil
      · exact ok.nd j
  · rcases fpm j b h1 with ⟨rfl, h1'⟩ | ⟨hj, _, h1'⟩ <;> rcases fpm l b h2 with ⟨rfl, h2'⟩ | ⟨hl, _, h2'⟩
    · rfl
    · rcases h1' with rfl | h1'
      · exact (other l _ hl h2' rfl).elim
      · exact (djf l b hl h1' h2').elim
    · rcases h2' with rfl | h2'
      · exact (other j _ hj h1' rfl).elim
      · exact (djf j b hj h2' h1').elim
    · exact ok.dj j l b h1' h2'
  · rcases fpm j b h1 with ⟨rfl, h1'⟩ | ⟨hj, hk, h1'⟩
    · rcases h2 with h2 | ⟨l, hl, h2⟩
      · rcases h1' with rfl | h1'
        · exact nSa h2
        · exact nsf b h1' h2
      · have hlj : l ≠ j := fun e => by rw [e, nk] at hl; cases hl
        rcases h1' with rfl | h1'
        · exact other l _ hlj h2 rfl
        · exact djf l b hlj h1' h2
    · rcases h2 with h2 | ⟨l, hl, h2⟩
      · exact ok.ns j b h1' h2
      · have := ok.dj j l b h1' h2
        subst this
        rw [hk] at hl; cases hl
  · rcases fpm j b h with ⟨rfl, h'⟩ | ⟨hj, hk, h'⟩
    · rcases h' with rfl | h'
      · exact ⟨t', vs', ht', upd_same⟩
      · obtain ⟨t2, ws, h2, q⟩ := rl.there b h'
        refine ⟨t2, ws, h2, ?_⟩
        rw [upd_ne]; exact q
        rintro rfl; exact (List.nodup_cons.mp nd).1 h'
    · obtain ⟨t2, ws, h2, q⟩ := ok.own j b h'
      exact ⟨t2, ws, h2, by rw [upd_ne (other j b hj h')]; exact q⟩
  · have dm : (∃ o, H b = some o) → ∃ o, upd H a (ho t' vs') b = some o := fun ⟨o, q⟩ => by
      by_cases hb : b = a
      · subst hb; exact ⟨_, upd_same⟩
      · exact ⟨o, by rw [upd_ne hb]; exact q⟩
    rcases h with h | ⟨j, _, h⟩
    · exact dm (ok.st b h)
    · obtain ⟨t2, ws, _, q⟩ := ok.own j b h
      exact dm ⟨_, q⟩
  · rw [upd_ne]; exact g.same b o q
    rintro rfl; exact hn i hai
  · have hri : r ≠ i := fun e => hlk (e ▸ hr)
    refine ⟨?_, ?_⟩
    · rw [upd_ne (other r b hri hb)]
      obtain ⟨t2, ws, _, q⟩ := ok0.own r b hb
      rw [g.same b _ q, q]
    · by_cases hk : kd i ρ r = true
      · exact .inl (.inr ⟨r, hk, hb⟩)
      · exact .inr (by show b ∈ (if r = i then a :: f' else if kd i ρ r = true then [] else fps r); rw [if_neg hri, if_neg hk]; exact hb)
  · rcases h with (h | ⟨j, _, h⟩) | ⟨j, h⟩
    · exact (g.new b h).imp id fun q => .inr q.1
    · exact .inr (.inl ⟨j, h⟩)
    · rcases fpm j b h with ⟨rfl, h'⟩ | ⟨hj, hk, h'⟩
      · rcases h' with rfl | h'
        · exact .inr (.inl ⟨j, hai⟩)
        · rcases hf' b h' with h' | h'
          · exact .inr (.inl ⟨j, h'⟩)
          · exact .inr (.inr h'.1)
      · exact .inr (.inl ⟨j, h'⟩)
end

/-! ### x.append(e) -/
def sApp (i : Nat) (f : Ev → Res (D × List Nat)) : List Nat → Ev → Out := fun lk ρ => match ρ[i]? with
  | some (some ⟨.node true .lst xs, dp⟩) => match f ρ with
    | .ok r => if (lk.contains i || (dp ++ r.2).contains i || decide (sizeLine ≤ xs.length)) = true then .stuck else .nx (putE i (.node true .lst (xs ++ [r.1]), dp ++ r.2) ρ)
    | .rs c => .rs c ρ
    | .stuck => .stuck
  | _ => .stuck
section
variable {ι : Type} {X : ι → Cx} {P : Program} {w : World} {K : PySem.W.Frag} {mg : Str → Option Value} {base : Heap} {N : List Str} {k : Nat} {pos : Pos}
theorem cons_nodup {a : Addr} {f g : List Addr} (h1 : (a :: f).Nodup) (h2 : g.Nodup) (h3 : a ∉ g) (h4 : ∀ b ∈ f, b ∉ g) : (a :: (f ++ g)).Nodup := by
  obtain ⟨h5, h6⟩ := List.nodup_cons.mp h1
  refine List.nodup_cons.mpr ⟨fun z => ?_, ap_nodup h6 h2 h4⟩
  rcases List.mem_append.mp z with z | z
  · exact h5 z
  · exact h3 z
theorem vs_append {i : Nat} {x : Str} {xp apos cpos : Pos} {e : Expr} {f : Ev → Res (D × List Nat)} (hF : Fam P w K mg base N k X) (he : VE K mg X e f)
    (hN : ∀ i', (X i').N[i]? = some x := by intro _; rfl) (hv : ∀ i, Vis (X i).env.scope x := by intro _; first | exact Or.inl rfl | exact Or.inr (Or.inl rfl) | exact Or.inr (Or.inr rfl)) (hd : (x == ("__debug__" : Str)) = false := by decide) (hcd : (x == ("__classdict__" : Str)) = false := by decide)
    (hbase : ∀ i, attributeBase (.Name x xp) "append" (X i).env (eval (.Name x xp) (X i).env) = eval (.Name x xp) (X i).env := by intro _; rfl)
    (hfew : ∀ i, ((backTo cpos (starEach [e] (X i).env)).all (fun x => !x.1) && (backToKw cpos (keywordEach [] (X i).env)).all (fun x => x.1.isSome) && decide ([e].length + ([] : List Keyword).length + (if ([] : List Keyword).isEmpty then 0 else 1) < 30)) = true := by intro _; rfl)
    (hline : (apos.endLine == cpos.line) = true := by rfl) (hs : ∀ i, starEach [e] (X i).env = (false, eval e (X i).env) :: starEach [] (X i).env := by intro _; rfl) (hpl : ∀ i, (backTo cpos (starEach [] (X i).env)).any (·.1) = false := by intro _; rfl)
    (hsw : ∀ i, swapsWith (.Call (.Attribute (.Name x xp) "append" apos) [e] [] cpos) none pos.line (X i).env = pure false := by intro _; rfl) :
    VS K mg X (.Expr (.Call (.Attribute (.Name x xp) "append" apos) [e] [] cpos) pos) (sApp i f) := by
  intro W tk
  obtain ⟨t, p, q⟩ := he W tk
  refine ⟨tDrop (tBM K "list" rAppend (tVar i) (tCons t tNil)), fun i' => ?_, fun lk S fps ρ σ H E ok h => ?_⟩
  · have q1 := pe_bm (cpos := cpos) (apos := apos) PySem.F.plainAttrs_list PySem.F.slot_list_append PySem.F.type_list_append mt_append (pe_var (pos := xp) (hN i') (hv i') hd hcd) (pa_cons (p i') pa_nil (hs i')) (hbase i') (hfew i') hline (hs i') (hpl i')
    rw [hF.kk i'] at q1
    exact ps_expr q1 (hsw i')
  · unfold sApp at h
    revert h
    split
    · rename_i xs dp e
      intro h
      obtain ⟨a, vs, f0, hσ, ha, ht, hw, rl, hi⟩ := ok.mine e
      refine ⟨.ref a, hσ, .inl ⟨rfl, vs, .inl (.inl ha)⟩, q S fps ρ σ H _ ok ?_⟩
      cases e1 : f ρ with
      | stuck => rw [e1] at h; exact h.elim
      | rs c => rw [e1] at h; exact rs_grow ok h
      | ok r =>
        rw [e1] at h
        dsimp only at h
        intro v fp S1 H1 g rv nv zv
        split at h
        · exact h.elim
        · rename_i hc
          simp only [Bool.or_eq_true, not_or, decide_eq_true_eq, List.contains_eq_mem, List.mem_append, decide_eq_true_eq] at hc
          obtain ⟨⟨hlk, hd1, hd2⟩, hsz⟩ := hc
          have ha1 := g.same a _ ha
          have ok1 := ok.grow g
          have rl1 : RepL K H1 (Reg S1 fps (dp ++ r.2)) vs xs f0 := rl.same (Reg.mono g.sub fun _ => List.mem_append_left _) g.same
          have rv1 : Rep K H1 (Reg S1 fps (dp ++ r.2)) v r.1 fp := rv.same (Reg.mono (fun _ z => z) fun _ => List.mem_append_right _) (Same.refl _)
          have old : ∀ b, (∃ o, H b = some o) → b ∉ fp := fun b ⟨o, q⟩ z => by rw [(zv b z).1] at q; cases q
          have nd : (a :: (f0 ++ fp)).Nodup := cons_nodup (hi ▸ ok.nd i) nv (old a ⟨_, ha⟩) fun b hb => old b (rl.dom b hb)
          obtain ⟨S', fps', ok2, st2⟩ := put_ok (lk := lk) (t' := .lst) ok g e hσ hi ha1 ht hd1 rfl trivial (rl1.append (RepL.one rv1)) (fun z => (List.mem_append.mp z).elim hd1 hd2) nd (fun b hb => (List.mem_append.mp hb).imp id fun z => zv b z) hlk
          exact ⟨a, vs, v, rfl, rfl, ha1, by rw [rl.length]; omega, h S' fps' σ _ st2 ok2⟩
    · intro h; exact h.elim
end
end Py

set_option Elab.async false
set_option linter.all false
set_option maxRecDepth 100000
namespace Py
open PySem PySem.Spec L2

/-! ### whole numbers -/
def g2I (C : Int → Int → Bool) (f : Int → Int → Int) : D → D → Option D
  | .int i, .int j => if C i j = true then some (.int (f i j)) else none
  | _, _ => none
def g2B (f : Int → Int → Bool) : D → D → Option D
  | .int i, .int j => some (.bl (f i j))
  | _, _ => none
section
variable {K : PySem.W.Frag}
theorem prim_g2I {C : Int → Int → Bool} {C' : Int → Int → Prop} {f : Int → Int → Int} (hC : ∀ i j, C i j = true → C' i j) : Prim2 K (rI C' fun i j => .int (f i j)) (g2I C f) := by
  intro H R x y d1 d2 f1 f2 d Q r1 r2 n e h
  cases d1 with
  | int i =>
    cases d2 with
    | int j =>
      unfold g2I at e
      dsimp only at e
      split at e
      · rename_i hc
        cases e
        cases r1
        cases r2
        exact ⟨i, j, rfl, rfl, hC i j hc, h _ [] H (Same.refl _) (.int _) List.nodup_nil fun a z => by cases z⟩
      · cases e
    | _ => cases e
  | _ => cases e
theorem prim_g2I0 {f : Int → Int → Int} : Prim2 K (rI0 fun i j => .int (f i j)) (g2I (fun _ _ => true) f) := by
  intro H R x y d1 d2 f1 f2 d Q r1 r2 n e h
  cases d1 with
  | int i =>
    cases d2 with
    | int j =>
      cases e
      cases r1
      cases r2
      exact ⟨i, j, rfl, rfl, h _ [] H (Same.refl _) (.int _) List.nodup_nil fun a z => by cases z⟩
    | _ => cases e
  | _ => cases e
theorem prim_g2B {f : Int → Int → Bool} : Prim2 K (rI0 fun i j => .bl (f i j)) (g2B f) := by
  intro H R x y d1 d2 f1 f2 d Q r1 r2 n e h
  cases d1 with
  | int i =>
    cases d2 with
    | int j =>
      cases e
      cases r1
      cases r2
      exact ⟨i, j, rfl, rfl, h _ [] H (Same.refl _) (.bl _) List.nodup_nil fun a z => by cases z⟩
    | _ => cases e
  | _ => cases e
theorem cMul_ex : ∃ h : Int → Int → Bool, ∀ i j, h i j = ((decide (-(2 ^ 64) < i) && decide (i < 2 ^ 64)) || (decide (-(2 ^ 64) < j) && decide (j < 2 ^ 64))) := ⟨_, fun _ _ => rfl⟩
/-- not to be unfolded by the kernel -/
noncomputable def cMul : Int → Int → Bool := Classical.choose cMul_ex
theorem cMul_eq (i j : Int) : cMul i j = ((decide (-(2 ^ 64) < i) && decide (i < 2 ^ 64)) || (decide (-(2 ^ 64) < j) && decide (j < 2 ^ 64))) := Classical.choose_spec cMul_ex i j
noncomputable def cFdiv (_ j : Int) : Bool := opq (decide (j ≠ 0) && decide (j.natAbs < 1073741824))
def cMod (_ j : Int) : Bool := decide (j ≠ 0)
noncomputable def cPow (i j : Int) : Bool := opq (decide (0 ≤ j) && (decide (j ≤ 1000000) && decide (i.natAbs < 2 ^ 64)))
def gSub : D → D → Option D := g2I (fun _ _ => true) fun i j => i - j
noncomputable def gMulI : D → D → Option D := g2I cMul fun i j => i * j
noncomputable def gFdiv : D → D → Option D := g2I cFdiv fun i j => i.fdiv j
def gMod : D → D → Option D := g2I cMod fun i j => i.fmod j
noncomputable def gPow : D → D → Option D := g2I cPow fun i j => i ^ j.toNat
theorem prim_sub : Prim2 K (rI0 fun i j => .int (i - j)) gSub := prim_g2I0
theorem prim_mulI : Prim2 K (rI CMul fun i j => .int (i * j)) gMulI := prim_g2I fun i j h => by
  rw [cMul_eq] at h
  unfold CMul
  simpa using h
theorem prim_fdiv : Prim2 K (rI CDivN fun i j => .int (i.fdiv j)) gFdiv := prim_g2I fun i j h => by
  unfold cFdiv at h
  rw [opq_eq] at h
  unfold CDivN
  simpa using h
theorem prim_mod : Prim2 K (rI (fun _ j => j ≠ 0) fun i j => .int (i.fmod j)) gMod := prim_g2I fun i j h => by
  unfold cMod at h
  simpa using h
theorem prim_pow : Prim2 K (rI CPow fun i j => .int (i ^ j.toNat)) gPow := prim_g2I fun i j h => by
  unfold cPow at h
  rw [opq_eq] at h
  unfold CPow
  simpa using h
def gNeg : D → Option D
  | .int i => some (.int (-i))
  | _ => none
theorem prim_neg : Prim1 K (rU fun i => .int (-i)) gNeg := by
  intro H R x d1 f1 d Q r1 n e h
  cases d1 with
  | int i =>
    cases e
    cases r1
    exact ⟨i, rfl, h _ [] H (Same.refl _) (.int _) List.nodup_nil fun a z => by cases z⟩
  | _ => cases e


/-! ### new containers -/
/-- a new list of what is there -/
theorem newLst {H : Hp} {R : Addr → Prop} {vs : List V} {ds : List D} {f f0 : List Addr} {Q : VK} (r : RepL K H R vs ds f) (n : f.Nodup) (hf : ∀ a ∈ f, a ∈ f0) (h : ∀ v fp H', Same H H' → Rep K H' R v (.node true .lst ds) fp → fp.Nodup → (∀ a ∈ fp, a ∈ f0 ∨ H a = none) → Q v H') {p : Addr} (hp : H p = none) :
    Q (.ref p) (upd H p (.lst vs)) := by
  refine h _ (p :: f) _ (same_upd hp) (.own rfl trivial upd_same (r.same (fun _ z => z) (same_upd hp))) (List.nodup_cons.mpr ⟨fun hm => ?_, n⟩) fun a ha => ?_
  · obtain ⟨o, q⟩ := r.dom p hm
    rw [hp] at q; cases q
  · rcases List.mem_cons.mp ha with rfl | ha
    · exact .inr hp
    · exact .inl (hf a ha)
theorem newTup {H : Hp} {R : Addr → Prop} {vs : List V} {ds : List D} {f f0 : List Addr} {Q : VK} (r : RepL K H R vs ds f) (n : f.Nodup) (hf : ∀ a ∈ f, a ∈ f0) (h : ∀ v fp H', Same H H' → Rep K H' R v (.node false .tup ds) fp → fp.Nodup → (∀ a ∈ fp, a ∈ f0 ∨ H a = none) → Q v H') {p : Addr} (hp : H p = none) :
    Q (.ref p) (upd H p (.tup vs)) := h _ f _ (same_upd hp) (.tup upd_same (r.same (fun _ z => z) (same_upd hp))) n fun a ha => .inl (hf a ha)
theorem sub_nodup {f g f1 f2 : List Addr} (n : (f1 ++ f2).Nodup) (h1 : f.Sublist f1) (h2 : g.Sublist f2) : (f ++ g).Nodup := n.sublist (h1.append h2)

/-! ### + of numbers, texts, lists, tuples -/
/-- lists that are only read -/
def rCatL (K : PySem.W.Frag) : R2 := fun x y H Q => ∃ l b xs zs, x = .ref l ∧ y = .ref b ∧ SqL K H l xs ∧ SqL K H b zs ∧ xs.length + zs.length ≤ sizeLine ∧ ∀ p, H p = none → Q (.ref p) (upd H p (.lst (xs ++ zs)))
theorem op_catL {X : Cx} : OpR X (binaryOp .Add) (rCatL X.K) := by
  intro pins s σ H x y v u Q I rx ry h
  obtain ⟨l, b, xs, zs, rfl, rfl, hH, hB, hz, q⟩ := h
  cases rx
  cases ry
  obtain ⟨its, r, ⟨o1, n1, g1, c1, d1, q1⟩, _⟩ := I.list hH
  obtain ⟨its2, r2, ⟨o2, n2, g2, c2, d2, q2⟩, _⟩ := I.list hB
  obtain ⟨cl1, dd1, dt1, sl1⟩ := o1
  obtain ⟨cl2, dd2, dt2, sl2⟩ := o2
  simp only at c1 d1 q1 c2 d2 q2
  subst c1; subst d1; subst q1; subst c2; subst d2; subst q2
  have hl := r.length
  have hl2 := r2.length
  have ea : its.toArray ++ its2.toArray = (its ++ its2).toArray := by simp
  refine concat_meets ⟨_, g1, rfl⟩ ⟨_, g2, rfl⟩ noFill_list_add seq_list_add PySem.F.slot_list_add PySem.F.entry_list_add (PySem.F.args_list_add_2 _ _) (PyProof.Rows.list_addW l b its.toArray its2.toArray n1 n2 none none sl1 sl2 (by rw [List.size_toArray, List.size_toArray]; omega)) ⟨g1, g2, ?_⟩
  rw [ea]
  exact ⟨.ref _, _, I.lnew (t' := s.toks) (r.append r2) (by rw [List.length_append]; omega), rfl, q _ I.fresh⟩
def rAddAll (K : PySem.W.Frag) : R2 := fun x y H Q => rI0 (fun i j => .int (i + j)) x y H Q ∨ ((∃ i j, x = .str i ∧ y = .str j ∧ i.length + j.length ≤ sizeLine ∧ Q (.str (i ++ j)) H) ∨ (rCatL K x y H Q ∨ rCatA K x y H Q))
theorem op_addAll {X : Cx} : OpR X (binaryOp .Add) (rAddAll X.K) := op_add.or (op_add_str.or (op_catL.or op_catA))
def gAdd : D → D → Option D
  | .int i, .int j => some (.int (i + j))
  | .str a, .str b => if a.length + b.length ≤ sizeLine then some (.str (a ++ b)) else none
  | .node _ .lst xs, .node _ .lst ys => if xs.length + ys.length ≤ sizeLine then some (.node true .lst (xs ++ ys)) else none
  | .node false .tup xs, .node false .tup ys => if xs.length + ys.length ≤ sizeLine then some (.node false .tup (xs ++ ys)) else none
  | _, _ => none
theorem prim_add : Prim2 K (rAddAll K) gAdd := by
  intro H R x y d1 d2 f1 f2 d Q r1 r2 n e h
  unfold gAdd at e
  split at e
  · cases e; cases r1; cases r2
    exact .inl ⟨_, _, rfl, rfl, h _ [] H (Same.refl _) (.int _) List.nodup_nil fun a z => by cases z⟩
  · split at e
    · cases e; cases r1; cases r2
      exact .inr (.inl ⟨_, _, rfl, rfl, by assumption, h _ [] H (Same.refl _) (.str _) List.nodup_nil fun a z => by cases z⟩)
    · cases e
  · split at e
    · rename_i hz
      cases e
      obtain ⟨a, vs, f, rfl, ha, l1, s1⟩ := r1.sqL
      obtain ⟨b, ws, g, rfl, hb, l2, s2⟩ := r2.sqL
      refine .inr (.inr (.inl ⟨a, b, vs, ws, rfl, rfl, ha, hb, by rw [l1.length, l2.length]; exact hz, fun p hp => newLst (f0 := f1 ++ f2) (l1.append l2) (sub_nodup n s1 s2) (fun c hc => (s1.append s2).subset hc) h hp⟩))
    · cases e
  · split at e
    · rename_i hz
      cases e
      obtain ⟨a, vs, f, rfl, ha, l1, s1⟩ := r1.sqT
      obtain ⟨b, ws, g, rfl, hb, l2, s2⟩ := r2.sqT
      refine .inr (.inr (.inr ⟨a, b, vs, ws, rfl, rfl, ha, hb, by rw [l1.length, l2.length]; exact hz, fun e0 => ?_, fun _ e0 => ?_, fun _ _ p hp => newTup (f0 := f1 ++ f2) (l1.append l2) (sub_nodup n s1 s2) (fun c hc => (s1.append s2).subset hc) h hp⟩))
      · subst e0
        cases l1
        exact h _ _ H (Same.refl _) r2 (List.nodup_append.mp n).2.1 fun a ha => .inl (List.mem_append_right _ ha)
      · subst e0
        cases l2
        rw [List.append_nil] at h
        exact h _ _ H (Same.refl _) r1 (List.nodup_append.mp n).1 fun a ha => .inl (List.mem_append_left _ ha)
    · cases e
  · cases e
/-! ### * of numbers, of a list and a number -/
/-- no list or dict within -/
def flat (d : D) : Bool := noShr (frz d)
mutual
theorem Rep.flat {H : Hp} {R : Addr → Prop} : ∀ {v : V} {d : D} {fp : List Addr}, Rep K H R v d fp → noShr (Py.frz d) = true → fp = []
  | _, _, _, .non, _ => rfl
  | _, _, _, .bl b, _ => rfl
  | _, _, _, .int i, _ => rfl
  | _, _, _, .str x, _ => rfl
  | _, _, _, .ty x, _ => rfl
  | _, _, _, .tup h l, hn => l.flat (by rw [Py.frz, noShr] at hn; exact (Bool.and_eq_true_iff.mp hn).2)
  | _, _, _, .own h1 h2 h3 l, hn => by rw [Py.frz, noShr, h1] at hn; cases hn
  | _, _, _, .kst h1 l, hn => rfl
  | _, _, _, .shr h1 h2 h3 h4 l, hn => rfl
theorem RepL.flat {H : Hp} {R : Addr → Prop} : ∀ {v : List V} {d : List D} {fp : List Addr}, RepL K H R v d fp → noShrL (Py.frzL d) = true → fp = []
  | _, _, _, .nil, _ => rfl
  | _, _, _, .cons h l, hn => by
    rw [Py.frzL, noShrL] at hn
    rw [h.flat (Bool.and_eq_true_iff.mp hn).1, l.flat (Bool.and_eq_true_iff.mp hn).2]
    rfl
end
theorem flatAll {ds : List D} (h : ds.all flat = true) : noShrL (Py.frzL ds) = true := by
  rw [noShrL_eq, frzL_eq, List.all_map]
  exact h
theorem RepL.rep {H : Hp} {R : Addr → Prop} {vs : List V} {ds : List D} (l : RepL K H R vs ds []) : ∀ n : Nat, RepL K H R (List.replicate n vs).flatten (List.replicate n ds).flatten []
  | 0 => .nil
  | n + 1 => by
    rw [List.replicate_succ, List.flatten_cons, List.replicate_succ, List.flatten_cons]
    exact RepL.append (fp := []) (g := []) l (RepL.rep l n)
def rRepL : R2 := fun x y H Q => ∃ l k xs, x = .ref l ∧ y = .int k ∧ Rd H l (.lst xs) ∧ -(2 ^ 63) ≤ k ∧ k < 2 ^ 63 ∧ xs.length * k.toNat ≤ sizeLine ∧ ∀ p, H p = none → Q (.ref p) (upd H p (.lst (List.replicate k.toNat xs).flatten))
theorem op_repL {X : Cx} : OpR X (binaryOp .Mult) rRepL := by
  intro pins s σ H x y v u Q I rx ry h
  obtain ⟨l, k, xs, rfl, rfl, hH, h1, h2, hz, q⟩ := h
  cases rx
  obtain ⟨t, rfl⟩ := ry
  obtain ⟨z, its, n, r, e⟩ := hH.ok I.hok
  have hl := r.length
  have few : its.toArray.size * k.toNat ≤ sizeLine := by rw [List.size_toArray, ← hl]; exact hz
  have line : (sizeLine : Nat) ≤ (2 ^ 63 - 1) / 8 := by decide
  have h3 : ¬ its.toArray.size * k.toNat > (2 ^ 63 - 1) / 8 := by omega
  have h4 : ¬ (!Builtin.List.listFitsIndex k) = true := by rw [fitsIndex_both h1 h2]; exact Bool.false_ne_true
  have h5 : ¬ Builtin.List.listTooLong (its.toArray.size * k.toNat) = true := by rw [notLongL few]; exact Bool.false_ne_true
  have made : List.foldl (fun x1 x2 => x1 ++ x2) #[] (List.replicate (if its.toArray.isEmpty = true then 0 else k.toNat) its.toArray) = (List.replicate k.toNat its).flatten.toArray := by
    have f0 : ∀ m : Nat, List.foldl (fun x1 x2 => x1 ++ x2) #[] (List.replicate m its.toArray) = (List.replicate m its).flatten.toArray := fun m => by
      have q := foldl_rep its m []
      rw [List.nil_append] at q
      exact q
    rw [f0]
    cases its with
    | nil => simp
    | cons a r' => rw [if_neg (by simp)]
  refine wpAny_binaryOp_repeat_ref (T := "list") (U := "int") (by decide) ⟨_, e, rfl⟩ (fun s' => typeIs_int s' k t) noFill_list_mul F.fills_int_mul F.slot_int_rmul repeat_list F.slot_int_index.lookup
    (call_meets F.slot_int_rmul (typeIs_int s k t) F.entry_int_rmul (F.args_int_rmul_2 _ _) (int___rmul___int_list k t l its.toArray n)
      ⟨e, rfl, ⟨_, e, rfl⟩, call_meets F.slot_list_mul ⟨_, e, rfl⟩ F.entry_list_mul (F.args_list_mul_2 _ _) (AutoListH.list___mul___list_int_3 l its.toArray n k t h4 h3 h5) ⟨e, ?_⟩⟩)
  rw [made]
  exact ⟨.ref _, _, I.lnew (t' := s.toks) (r.rep k.toNat) (by rw [PyProof.Rows.lm_len_rep_flat, Nat.mul_comm]; exact hz), rfl, q _ I.fresh⟩
noncomputable def gMul : D → D → Option D
  | .int i, .int j => if cMul i j = true then some (.int (i * j)) else none
  | .node true .lst xs, .int k => if opq (decide (-(2 ^ 63) ≤ k) && (decide (k < 2 ^ 63) && (decide (xs.length * k.toNat ≤ sizeLine) && xs.all flat))) = true then some (.node true .lst (List.replicate k.toNat xs).flatten) else none
  | _, _ => none
def rMulAll : R2 := fun x y H Q => rI CMul (fun i j => .int (i * j)) x y H Q ∨ rRepL x y H Q
theorem op_mulAll {X : Cx} : OpR X (binaryOp .Mult) rMulAll := op_mul.or op_repL
theorem prim_mul : Prim2 K rMulAll gMul := by
  intro H R x y d1 d2 f1 f2 d Q r1 r2 n e h
  unfold gMul at e
  split at e
  · exact .inl (prim_mulI H R x y _ _ f1 f2 d Q r1 r2 n (by unfold gMulI g2I; exact e) h)
  · split at e
    · rename_i hc
      rw [opq_eq] at hc
      simp only [Bool.and_eq_true, decide_eq_true_eq] at hc
      obtain ⟨h1, h2, h3, h4⟩ := hc
      cases e
      obtain ⟨a, vs, f, rfl, ha, l1, s1⟩ := r1.rdL
      cases r2
      have ef := l1.flat (flatAll h4)
      subst ef
      refine .inr ⟨a, _, vs, rfl, rfl, ha, h1, h2, by rw [l1.length]; exact h3, fun p hp => newLst (f0 := f1 ++ []) (l1.rep _) List.nodup_nil (fun c hc => by cases hc) h hp⟩
    · cases e
  · cases e

/-! ### comparisons of numbers -/
def gLt : D → D → Option D := g2B fun i j => decide (i < j)
def gLe : D → D → Option D := g2B fun i j => decide (i ≤ j)
def gGt : D → D → Option D := g2B fun i j => decide (j < i)
def gGe : D → D → Option D := g2B fun i j => decide (j ≤ i)
theorem prim_lt : Prim2 K (rI0 fun i j => .bl (decide (i < j))) gLt := prim_g2B
theorem prim_le : Prim2 K (rI0 fun i j => .bl (decide (i ≤ j))) gLe := prim_g2B
theorem prim_gt : Prim2 K (rI0 fun i j => .bl (decide (j < i))) gGt := prim_g2B
theorem prim_ge : Prim2 K (rI0 fun i j => .bl (decide (j ≤ i))) gGe := prim_g2B
/-- is None -/
def isN : D → Bool
  | .non => true
  | _ => false
theorem Rep.isN {H : Hp} {R : Addr → Prop} {v : V} {d : D} {f : List Addr} (r : Rep K H R v d f) : decide (v = .non) = Py.isN d := by cases r <;> rfl
def gIsN : D → D → Option D
  | d, .non => some (.bl (isN d))
  | _, _ => none
def gNotN : D → D → Option D
  | d, .non => some (.bl (!isN d))
  | _, _ => none
theorem prim_isN : Prim2 K (fun x y H Q => y = .non ∧ Q (.bl (decide (x = .non))) H) gIsN := by
  intro H R x y d1 d2 f1 f2 d Q r1 r2 n e h
  cases d2 with
  | non =>
    cases r2
    refine ⟨rfl, ?_⟩
    rw [r1.isN]
    cases d1 <;> (cases e; exact h _ [] H (Same.refl _) (.bl _) List.nodup_nil fun a z => by cases z)
  | _ => cases d1 <;> cases e
theorem prim_notN : Prim2 K (fun x y H Q => y = .non ∧ Q (.bl (!decide (x = .non))) H) gNotN := by
  intro H R x y d1 d2 f1 f2 d Q r1 r2 n e h
  cases d2 with
  | non =>
    cases r2
    refine ⟨rfl, ?_⟩
    rw [r1.isN]
    cases d1 <;> (cases e; exact h _ [] H (Same.refl _) (.bl _) List.nodup_nil fun a z => by cases z)
  | _ => cases d1 <;> cases e
end
end Py

set_option Elab.async false
set_option linter.all false
set_option maxRecDepth 100000
namespace Py
open PySem PySem.Spec L2

/-! ### dicts -/
def dfind {κ : Type} [DecidableEq κ] : List κ → List D → κ → Option D
  | k' :: ks, d :: ds, k => if k' = k then some d else dfind ks ds k
  | _, _, _ => none
def dput {κ : Type} [DecidableEq κ] (ks : List κ) (ds : List D) (k : κ) (v : D) : List κ × List D :=
  match ks, ds with
  | k' :: ks, d :: ds => if k' = k then (k' :: ks, v :: ds) else ((k' :: (dput ks ds k v).1), (d :: (dput ks ds k v).2))
  | _, _ => ([k], [v])
def dkey : D → Option Key
  | .int i => some (.inl i)
  | .str x => some (.inr x)
  | _ => none
def tkeys : List D → Option (List Key)
  | [] => some []
  | d :: ds => (dkey d).bind fun k => (tkeys ds).map fun r => k :: r
def tkey : D → Option (List Key)
  | .node _ .tup ds => tkeys ds
  | _ => none
section
variable {K : PySem.W.Frag} {H H' : Hp} {R : Addr → Prop}
theorem dkey_rep {v : V} {d : D} {f : List Addr} {k : Key} (r : Rep K H R v d f) (e : dkey d = some k) : v = kV k ∧ f = [] := by
  cases r with
  | int i => cases e; exact ⟨rfl, rfl⟩
  | str x => cases e; exact ⟨rfl, rfl⟩
  | _ => cases e
theorem tkeys_rep : ∀ {vs : List V} {ds : List D} {f : List Addr} {k : List Key}, RepL K H R vs ds f → tkeys ds = some k → vs = k.map kV
  | _, _, _, _, .nil, e => by cases e; rfl
  | _, d :: ds, _, _, .cons h l, e => by
    unfold tkeys at e
    cases e1 : dkey d with
    | none => rw [e1] at e; cases e
    | some k =>
      cases e2 : tkeys ds with
      | none => rw [e1, e2] at e; cases e
      | some r =>
        rw [e1, e2] at e
        cases e
        rw [(dkey_rep h e1).1, tkeys_rep l e2]
        rfl
theorem tkey_rep {v : V} {d : D} {f : List Addr} {k : List Key} (r : Rep K H R v d f) (e : tkey d = some k) : ∃ b, v = .ref b ∧ H b = some (.tup (k.map kV)) := by
  cases r with
  | tup h l =>
    have q := tkeys_rep l e
    subst q
    exact ⟨_, rfl, h⟩
  | @own a t vs ds fp h1 =>
    cases t with
    | tup => cases h1
    | lst => cases e
    | dK ks => cases e
    | dT ks => cases e
  | @shr a t vs ds h1 =>
    cases t with
    | tup => cases h1
    | lst => cases e
    | dK ks => cases e
    | dT ks => cases e
  | _ => cases e
variable {κ : Type} [DecidableEq κ]
theorem find_rep : ∀ {ks : List κ} {vs : List V} {ds : List D} {f : List Addr} {k : κ}, RepL K H R vs ds f → ks.length = vs.length →
    (∀ d, dfind ks ds k = some d → ∃ v f', valV (ks.zip vs) k = some v ∧ Rep K H R v d f' ∧ f'.Sublist f) ∧ (dfind ks ds k = none → valV (ks.zip vs) k = none)
  | [], _, _, _, _, .nil, _ => ⟨fun d e => (by cases e), fun _ => rfl⟩
  | k' :: ks, v :: vs, d :: ds, _, k, .cons (f := f) (g := g) h l, e => by
    by_cases hk : k' = k
    · refine ⟨fun d' e' => ?_, fun e' => ?_⟩
      · rw [dfind, if_pos hk] at e'
        cases e'
        exact ⟨v, f, valV_pos (p := (k', v)) hk, h, List.sublist_append_left _ _⟩
      · rw [dfind, if_pos hk] at e'; cases e'
    · obtain ⟨i1, i2⟩ := find_rep (k := k) l (by simpa using e)
      have ez : valV ((k' :: ks).zip (v :: vs)) k = valV (ks.zip vs) k := valV_neg (p := (k', v)) hk
      refine ⟨fun d' e' => ?_, fun e' => ?_⟩
      · rw [dfind, if_neg hk] at e'
        obtain ⟨w, f', h1, h2, h3⟩ := i1 d' e'
        exact ⟨w, f', ez.trans h1, h2, h3.trans (List.sublist_append_right _ _)⟩
      · rw [dfind, if_neg hk] at e'
        exact ez.trans (i2 e')
  | [], v :: vs, _, _, _, .cons _ _, e => by cases e
  | _ :: _, [], _, _, _, .nil, e => by cases e
theorem dput_len : ∀ {ks : List κ} {ds : List D} {k : κ} {v : D}, ks.length = ds.length → (dput ks ds k v).1.length = (dput ks ds k v).2.length
  | [], [], _, _, _ => rfl
  | k' :: ks, d :: ds, k, v, e => by
    unfold dput
    split
    · exact e
    · show (dput ks ds k v).1.length + 1 = (dput ks ds k v).2.length + 1
      rw [dput_len (by simpa using e)]
  | [], _ :: _, _, _, e => by cases e
  | _ :: _, [], _, _, e => by cases e
/-- the keys when one is put in -/
def kput (ks : List κ) (k : κ) : List κ := if k ∈ ks then ks else ks ++ [k]
theorem put_zip : ∀ {ks : List κ} {vs : List V} {ds : List D} {f : List Addr} {k : κ} {v : V} {d : D} {g : List Addr}, RepL K H R vs ds f → ks.length = vs.length → ks.Nodup → Rep K H R v d g → (f ++ g).Nodup →
    ∃ ws f', putK (ks.zip vs) k v = (dput ks ds k d).1.zip ws ∧ (dput ks ds k d).1.length = ws.length ∧ RepL K H R ws (dput ks ds k d).2 f' ∧ f'.Nodup ∧ (∀ a ∈ f', a ∈ f ++ g) ∧ (dput ks ds k d).1 = kput ks k := by
  intro ks
  induction ks with
  | nil =>
    intro vs ds f k v d g l e nd r n
    cases vs with
    | cons => cases e
    | nil =>
      cases l
      exact ⟨[v], g, rfl, rfl, RepL.one r, (List.nodup_append.mp n).2.1, fun a ha => ha, rfl⟩
  | cons k' ks ih =>
    intro vs ds f k v d g l e nd r n
    cases l with
    | nil => cases e
    | @cons v' vs' d' ds' f' g' h l' =>
      obtain ⟨nk, nd'⟩ := List.nodup_cons.mp nd
      by_cases hk : k' = k
      · subst hk
        refine ⟨v :: vs', g ++ g', ?_, ?_, ?_, ?_, ?_, ?_⟩
        · show putK ((k', v') :: ks.zip vs') k' v = _
          unfold putK dput
          simp only [List.any_cons, decide_true, Bool.true_or, if_true, List.map_cons]
          congr 1
          have : (ks.zip vs').map (fun kv => if kv.1 = k' then (kv.1, v) else kv) = ks.zip vs' := by
            conv => rhs; rw [← List.map_id (ks.zip vs')]
            refine List.map_congr_left fun p hp => ?_
            rw [if_neg]; rfl
            intro e2
            exact nk (e2 ▸ (List.of_mem_zip hp).1)
          exact this
        · unfold dput; simp only [if_true]; simpa using e
        · unfold dput; simp only [if_true]; exact .cons r l'
        · refine ap_nodup (List.nodup_append.mp n).2.1 (List.nodup_append.mp (List.nodup_append.mp n).1).2.1 fun a h1 h2 => ?_
          exact (List.nodup_append.mp n).2.2 a (List.mem_append_right _ h2) a h1 rfl
        · intro a ha
          rcases List.mem_append.mp ha with z | z
          · exact List.mem_append_right _ z
          · exact List.mem_append_left _ (List.mem_append_right _ z)
        · unfold dput kput; simp
      · have n' : (g' ++ g).Nodup := by
          rw [List.append_assoc] at n
          exact (List.nodup_append.mp n).2.1
        obtain ⟨ws, f2, h1, h2, h3, h4, h5, h6⟩ := ih (k := k) (v := v) (d := d) (g := g) l' (by simpa using e) nd' r n'
        have ep : putK ((k' :: ks).zip (v' :: vs')) k v = (k', v') :: putK (ks.zip vs') k v := by
          show putK ((k', v') :: ks.zip vs') k v = _
          unfold putK
          simp only [List.any_cons, decide_eq_false hk, Bool.false_or]
          split
          · simp only [List.map_cons, if_neg hk]
          · rfl
        refine ⟨v' :: ws, f' ++ f2, ?_, ?_, ?_, ?_, ?_, ?_⟩
        · rw [ep, h1]; simp only [dput, if_neg hk, List.zip_cons_cons]
        · simp only [dput, if_neg hk, List.length_cons, h2]
        · simp only [dput, if_neg hk]; exact .cons h h3
        · refine ap_nodup (List.nodup_append.mp (List.nodup_append.mp n).1).1 h4 fun a q1 q2 => ?_
          rw [List.append_assoc] at n
          exact (List.nodup_append.mp n).2.2 a q1 a (h5 a q2) rfl
        · intro a ha
          rw [List.append_assoc]
          rcases List.mem_append.mp ha with z | z
          · exact List.mem_append_left _ z
          · exact List.mem_append_right _ (h5 a z)
        · simp only [dput, if_neg hk]
          rw [h6]
          unfold kput
          by_cases hm : k ∈ ks
          · rw [if_pos hm, if_pos (List.mem_cons_of_mem _ hm)]
          · rw [if_neg hm, if_neg (by simp only [List.mem_cons, not_or]; exact ⟨fun e => hk e.symm, hm⟩)]; rfl
end
end Py

set_option Elab.async false
set_option linter.all false
set_option maxRecDepth 100000
namespace Py
open PySem PySem.Spec L2 PyProof.Rows

/-! ### data of the kit -/
mutual
def toPy : D → Option PyData
  | .non => some .none
  | .bl b => some (.bool b)
  | .int i => some (.int i)
  | .str x => some (.str x)
  | .ty _ => none
  | .node _ .tup xs => (toPyL xs).map .tuple
  | .node _ .lst xs => (toPyL xs).map .list
  | .node _ (.dK _) _ => none
  | .node _ (.dT _) _ => none
def toPyL : List D → Option (List PyData)
  | [] => some []
  | d :: ds => (toPy d).bind fun e => (toPyL ds).map fun r => e :: r
end
section
variable {K : PySem.W.Frag} {H H' : Hp} {R : Addr → Prop}
mutual
theorem Rep.dp : ∀ {v : V} {d : D} {fp : List Addr} {e : PyData}, Rep K H R v d fp → toPy d = some e → Dp K H v e
  | _, _, _, _, .non, h => by cases h; exact .non
  | _, _, _, _, .bl b, h => by cases h; exact .bl b
  | _, _, _, _, .int i, h => by cases h; exact .int i
  | _, _, _, _, .str x, h => by cases h; exact .str x
  | _, _, _, _, .ty x, h => by cases h
  | _, _, _, _, .tup (ds := ds) ht l, h => by
    rw [toPy] at h
    cases e : toPyL ds with
    | none => rw [e] at h; cases h
    | some es =>
      rw [e] at h
      cases h
      exact .tup (.inl (.inl ht)) (l.dp e)
  | _, _, _, _, .own (t := t) (ds := ds) h1 h2 h3 l, h => by
    cases t with
    | tup => cases h1
    | dK ks => rw [toPy] at h; cases h
    | dT ks => rw [toPy] at h; cases h
    | lst =>
      rw [toPy] at h
      cases e : toPyL ds with
      | none => rw [e] at h; cases h
      | some es =>
        rw [e] at h
        cases h
        exact .lst (.inl (.inl h3)) (l.dp e)
  | _, _, _, _, .kst (ds := ds) hk l, h => by
    rw [toPy] at h
    cases e : toPyL ds with
    | none => rw [e] at h; cases h
    | some es =>
      rw [e] at h
      cases h
      exact .lst (.inr hk) (l.dp e)
  | _, _, _, _, .shr (t := t) (ds := ds) h1 h2 h3 h4 l, h => by
    cases t with
    | tup => cases h1
    | dK ks => rw [toPy] at h; cases h
    | dT ks => rw [toPy] at h; cases h
    | lst =>
      rw [toPy] at h
      cases e : toPyL ds with
      | none => rw [e] at h; cases h
      | some es =>
        rw [e] at h
        cases h
        exact .lst (.inl h4) (l.dp e)
theorem RepL.dp : ∀ {vs : List V} {ds : List D} {fp : List Addr} {es : List PyData}, RepL K H R vs ds fp → toPyL ds = some es → DpAll K H vs es
  | _, _, _, _, .nil, h => by cases h; exact .nil
  | _, _, _, _, .cons (d := d) (ds := ds) h l, q => by
    rw [toPyL] at q
    cases e1 : toPy d with
    | none => rw [e1] at q; cases q
    | some e =>
      cases e2 : toPyL ds with
      | none => rw [e1, e2] at q; cases q
      | some r =>
        rw [e1, e2] at q
        cases q
        exact .cons (h.dp e1) (l.dp e2)
end
end
def sh2 (a b : PyData) : Bool := SeqAt.shaped a && SeqAt.shaped b
def gEq (a b : D) : Option D := match a, b with
  | .str x, .str y => some (.bl (decide (x = y)))
  | a, b => (toPy a).bind fun x => (toPy b).bind fun y => if sh2 x y = true then some (.bl (PyData.eqv x y)) else none
def gNe (a b : D) : Option D := match a, b with
  | .str x, .str y => some (.bl (!decide (x = y)))
  | a, b => (toPy a).bind fun x => (toPy b).bind fun y => if sh2 x y = true then some (.bl (!PyData.eqv x y)) else none
def rEqA (K : PySem.W.Frag) : R2 := fun x y H Q => rEqD K x y H Q ∨ L2.rEq x y H Q
def rNeA (K : PySem.W.Frag) : R2 := fun x y H Q => rNeD K x y H Q ∨ L2.rNe x y H Q
theorem op_eqA {X : Cx} (hu : X.A.units + 64 < cLine) : OpR X (compareOp .Eq) (rEqA X.K) := (op_eqD hu).or op_eq
theorem op_neA {X : Cx} (hu : X.A.units + 64 < cLine) : OpR X (compareOp .NotEq) (rNeA X.K) := (op_neD hu).or op_ne
section
variable {K : PySem.W.Frag}
theorem out1 {H : Hp} {R : Addr → Prop} {f0 : List Addr} {b : Bool} {Q : VK} (h : ∀ v fp H', Same H H' → Rep K H' R v (.bl b) fp → fp.Nodup → (∀ a ∈ fp, a ∈ f0 ∨ H a = none) → Q v H') : Q (.bl b) H :=
  h _ [] H (Same.refl _) (.bl _) List.nodup_nil fun a z => by cases z
theorem outI {H : Hp} {R : Addr → Prop} {f0 : List Addr} {b : Int} {Q : VK} (h : ∀ v fp H', Same H H' → Rep K H' R v (.int b) fp → fp.Nodup → (∀ a ∈ fp, a ∈ f0 ∨ H a = none) → Q v H') : Q (.int b) H :=
  h _ [] H (Same.refl _) (.int _) List.nodup_nil fun a z => by cases z
theorem outS {H : Hp} {R : Addr → Prop} {f0 : List Addr} {b : Str} {Q : VK} (h : ∀ v fp H', Same H H' → Rep K H' R v (.str b) fp → fp.Nodup → (∀ a ∈ fp, a ∈ f0 ∨ H a = none) → Q v H') : Q (.str b) H :=
  h _ [] H (Same.refl _) (.str _) List.nodup_nil fun a z => by cases z
theorem prim_eq : Prim2 K (rEqA K) gEq := by
  intro H R x y d1 d2 f1 f2 d Q r1 r2 n e h
  unfold gEq at e
  split at e
  · cases e
    cases r1
    cases r2
    refine .inr ⟨rfl, ?_⟩
    rename_i u v
    have q := out1 h
    have e9 : decide (V.str u = V.str v) = decide (u = v) := decide_eq_decide.mpr ⟨fun z => V.str.inj z, fun z => by rw [z]⟩
    rw [e9]
    exact q
  · cases e1 : toPy d1 with
    | none => rw [e1] at e; cases e
    | some a =>
      cases e2 : toPy d2 with
      | none => rw [e1, e2] at e; cases e
      | some b =>
        rw [e1, e2] at e
        dsimp only [Option.bind] at e
        split at e
        · rename_i hs
          cases e
          obtain ⟨h1, h2⟩ := Bool.and_eq_true_iff.mp hs
          exact .inl ⟨a, b, r1.dp e1, r2.dp e2, h1, h2, out1 h⟩
        · cases e
theorem prim_ne : Prim2 K (rNeA K) gNe := by
  intro H R x y d1 d2 f1 f2 d Q r1 r2 n e h
  unfold gNe at e
  split at e
  · cases e
    cases r1
    cases r2
    refine .inr ⟨rfl, ?_⟩
    rename_i u v
    have q := out1 h
    have e9 : decide (V.str u = V.str v) = decide (u = v) := decide_eq_decide.mpr ⟨fun z => V.str.inj z, fun z => by rw [z]⟩
    rw [e9]
    exact q
  · cases e1 : toPy d1 with
    | none => rw [e1] at e; cases e
    | some a =>
      cases e2 : toPy d2 with
      | none => rw [e1, e2] at e; cases e
      | some b =>
        rw [e1, e2] at e
        dsimp only [Option.bind] at e
        split at e
        · rename_i hs
          cases e
          obtain ⟨h1, h2⟩ := Bool.and_eq_true_iff.mp hs
          exact .inl ⟨a, b, r1.dp e1, r2.dp e2, h1, h2, out1 h⟩
        · cases e

/-! ### in -/
def rInT (K : PySem.W.Frag) (neg : Bool) : R2 := fun x y H Q => ∃ d ds, Dp K H x d ∧ Dp K H y (.tuple ds) ∧ PyData.plainAll ds = true ∧ d.plain = true ∧ PyData.depth d ≤ 64 ∧ Q (.bl (if neg then !(ds.any fun z => PyData.eqv z d) else ds.any fun z => PyData.eqv z d)) H
theorem op_inT {X : Cx} (hu : X.A.units + 65 < cLine) : OpR X (compareOp .In) (rInT X.K false) := by
  intro pins s σ H x y v u Q I rx ry h
  obtain ⟨d, ds, hd, hs, h1, h2, h3, q⟩ := h
  obtain ⟨as, r1⟩ := Dp.reads I d x v hd rx
  obtain ⟨bs, r2⟩ := Dp.reads I _ y u hs ry
  exact PySem.SeqAt.in_tuple_data r2 r1 h1 h2 (by omega) ⟨.bl _, H, I, rfl, q⟩
theorem op_notInT {X : Cx} (hu : X.A.units + 65 < cLine) : OpR X (compareOp .NotIn) (rInT X.K true) := by
  intro pins s σ H x y v u Q I rx ry h
  obtain ⟨d, ds, hd, hs, h1, h2, h3, q⟩ := h
  obtain ⟨as, r1⟩ := Dp.reads I d x v hd rx
  obtain ⟨bs, r2⟩ := Dp.reads I _ y u hs ry
  exact PySem.SeqAt.notIn_tuple_data r2 r1 h1 h2 (by omega) ⟨.bl _, H, I, rfl, q⟩
def rDin (neg : Bool) : R2 := fun y x H Q => ∃ a o, x = .ref a ∧ DGet H a y o ∧ Q (.bl (if neg then !o.isSome else o.isSome)) H
theorem op_dIn {X : Cx} (hu : X.A.units + 65 < cLine) : OpR X (compareOp .In) (rDin false) := by
  intro pins s σ H y x u v Q I ry rx h
  obtain ⟨a, o, rfl, g, q⟩ := h
  obtain rfl : v = Value.ref a := rx
  exact d_in (by omega) I g ry fun s' I' => ⟨.bl _, H, I', rfl, q⟩
theorem op_dNotIn {X : Cx} (hu : X.A.units + 65 < cLine) : OpR X (compareOp .NotIn) (rDin true) := by
  intro pins s σ H y x u v Q I ry rx h
  obtain ⟨a, o, rfl, g, q⟩ := h
  obtain rfl : v = Value.ref a := rx
  exact d_notIn (by omega) I g ry fun s' I' => ⟨.bl _, H, I', rfl, q⟩
def rSin : R2 := fun x y H Q => ∃ i j, x = .str i ∧ y = .str j ∧ Q (.bl (!(Builtin.Str.occurrences j i 0 j.length 1).isEmpty)) H
def rSnotin : R2 := fun x y H Q => ∃ i j, x = .str i ∧ y = .str j ∧ Q (.bl (!(!(Builtin.Str.occurrences j i 0 j.length 1).isEmpty))) H
def rInAll (K : PySem.W.Frag) : R2 := fun x y H Q => rInD K x y H Q ∨ (rInT K false x y H Q ∨ (rDin false x y H Q ∨ rSin x y H Q))
def rNotInAll (K : PySem.W.Frag) : R2 := fun x y H Q => rNotInD K x y H Q ∨ (rInT K true x y H Q ∨ (rDin true x y H Q ∨ rSnotin x y H Q))
theorem op_inAll {X : Cx} (hu : X.A.units + 65 < cLine) : OpR X (compareOp .In) (rInAll X.K) := (op_inD hu).or ((op_inT hu).or ((op_dIn hu).or op_in_str))
theorem op_notInAll {X : Cx} (hu : X.A.units + 65 < cLine) : OpR X (compareOp .NotIn) (rNotInAll X.K) := (op_notInD hu).or ((op_notInT hu).or ((op_dNotIn hu).or op_notIn_str))
def tinOk (d : PyData) (ds : List PyData) : Bool := PyData.plainAll ds && (d.plain && decide (PyData.depth d ≤ 64))
def inB (d e : D) : Option Bool := match e with
  | .node _ .lst xs => (toPy d).bind fun x => (toPyL xs).bind fun ys => if sh2 x (.list ys) = true then some (ys.any fun z => PyData.eqv z x) else none
  | .node _ .tup xs => (toPy d).bind fun x => (toPyL xs).bind fun ys => if tinOk x ys = true then some (ys.any fun z => PyData.eqv z x) else none
  | .node _ (.dK ks) xs => (dkey d).map fun k => (dfind ks xs k).isSome
  | .node _ (.dT ks) xs => (tkey d).map fun k => (dfind ks xs k).isSome
  | .str y => match d with
    | .str x => some (!(Builtin.Str.occurrences y x 0 y.length 1).isEmpty)
    | _ => none
  | _ => none
def gIn (d e : D) : Option D := (inB d e).map .bl
def gNotIn (d e : D) : Option D := (inB d e).map fun b => .bl (!b)
def Tg.isL : Tg → Bool
  | .lst => true
  | _ => false
theorem Rep.dRead {H : Hp} {R : Addr → Prop} {v : V} {o : Bool} {t : Tg} {ds : List D} {fp : List Addr} (r : Rep K H R v (.node o t ds) fp) (ht : t.isT = false) (hl : t.isL = false) : ∃ a vs f, v = .ref a ∧ Rd H a (ho t vs) ∧ t.wf vs.length ∧ RepL K H R vs ds f ∧ f.Sublist fp := by
  cases r with
  | tup => cases ht
  | own h1 h2 h3 l => exact ⟨_, _, _, rfl, .inl h3, h2, l, List.sublist_cons_self _ _⟩
  | kst => cases hl
  | shr h1 h2 h3 h4 l => exact ⟨_, _, _, rfl, h4, h2, l, List.Sublist.refl _⟩
theorem dgetK {H : Hp} {R : Addr → Prop} {v y : V} {d : D} {o : Bool} {ks : List Key} {ds : List D} {fp g : List Addr} {k : Key} (r : Rep K H R v (.node o (.dK ks) ds) fp) (ry : Rep K H R y d g) (e : dkey d = some k) :
    ∃ a, v = .ref a ∧ (∀ d, dfind ks ds k = some d → ∃ v f', DGet H a y (some v) ∧ Rep K H R v d f' ∧ f'.Sublist fp) ∧ (dfind ks ds k = none → DGet H a y none) := by
  obtain ⟨a, vs, f, rfl, h1, h2, l, s⟩ := r.dRead rfl rfl
  obtain ⟨q1, q2⟩ := find_rep (k := k) l h2.1
  obtain ⟨rfl, _⟩ := dkey_rep ry e
  refine ⟨a, rfl, fun d e => ?_, fun e => ?_⟩
  · obtain ⟨v, f', e1, rv, sf⟩ := q1 d e
    exact ⟨v, f', .inl ⟨_, k, h1, rfl, e1.symm⟩, rv, sf.trans s⟩
  · exact .inl ⟨_, k, h1, rfl, (q2 e).symm⟩
theorem dgetT {H : Hp} {R : Addr → Prop} {v y : V} {d : D} {o : Bool} {ks : List (List Key)} {ds : List D} {fp g : List Addr} {k : List Key} (r : Rep K H R v (.node o (.dT ks) ds) fp) (ry : Rep K H R y d g) (e : tkey d = some k) :
    ∃ a, v = .ref a ∧ (∀ d, dfind ks ds k = some d → ∃ v f', DGet H a y (some v) ∧ Rep K H R v d f' ∧ f'.Sublist fp) ∧ (dfind ks ds k = none → DGet H a y none) := by
  obtain ⟨a, vs, f, rfl, h1, h2, l, s⟩ := r.dRead rfl rfl
  obtain ⟨q1, q2⟩ := find_rep (k := k) l h2.1
  obtain ⟨b, rfl, hb⟩ := tkey_rep ry e
  refine ⟨a, rfl, fun d e => ?_, fun e => ?_⟩
  · obtain ⟨v, f', e1, rv, sf⟩ := q1 d e
    exact ⟨v, f', .inr ⟨_, k, b, h1, rfl, hb, e1.symm⟩, rv, sf.trans s⟩
  · exact .inr ⟨_, k, b, h1, rfl, hb, (q2 e).symm⟩
theorem in_sem {H : Hp} {R : Addr → Prop} {x y : V} {d1 d2 : D} {f1 f2 : List Addr} {b : Bool} (r1 : Rep K H R x d1 f1) (r2 : Rep K H R y d2 f2) (e : inB d1 d2 = some b) : (∀ Q : VK, Q (.bl b) H → rInAll K x y H Q) ∧ ∀ Q : VK, Q (.bl (!b)) H → rNotInAll K x y H Q := by
  unfold inB at e
  split at e
  · rename_i xs
    cases e1 : toPy d1 with
    | none => rw [e1] at e; cases e
    | some a =>
      cases e2 : toPyL xs with
      | none => rw [e1, e2] at e; cases e
      | some ys =>
        rw [e1, e2] at e
        dsimp only [Option.bind] at e
        split at e
        · rename_i hs
          cases e
          obtain ⟨h1, h2⟩ := Bool.and_eq_true_iff.mp hs
          have q2 : Dp K H y (.list ys) := r2.dp (by rw [toPy, e2]; rfl)
          exact ⟨fun Q h => .inl ⟨a, ys, r1.dp e1, q2, h1, h2, h⟩, fun Q h => .inl ⟨a, ys, r1.dp e1, q2, h1, h2, h⟩⟩
        · cases e
  · rename_i xs
    cases e1 : toPy d1 with
    | none => rw [e1] at e; cases e
    | some a =>
      cases e2 : toPyL xs with
      | none => rw [e1, e2] at e; cases e
      | some ys =>
        rw [e1, e2] at e
        dsimp only [Option.bind] at e
        split at e
        · rename_i hs
          cases e
          unfold tinOk at hs
          simp only [Bool.and_eq_true, decide_eq_true_eq] at hs
          obtain ⟨h1, h2, h3⟩ := hs
          have q2 : Dp K H y (.tuple ys) := r2.dp (by rw [toPy, e2]; rfl)
          exact ⟨fun Q h => .inr (.inl ⟨a, ys, r1.dp e1, q2, h1, h2, h3, h⟩), fun Q h => .inr (.inl ⟨a, ys, r1.dp e1, q2, h1, h2, h3, h⟩)⟩
        · cases e
  · rename_i ks xs
    cases e1 : dkey d1 with
    | none => rw [e1] at e; cases e
    | some k =>
      rw [e1] at e
      obtain ⟨a, rfl, q1, q2⟩ := dgetK r2 r1 e1
      cases e2 : dfind ks xs k with
      | none =>
        rw [Option.map_some, e2] at e; cases e
        exact ⟨fun Q h => .inr (.inr (.inl ⟨a, none, rfl, q2 e2, h⟩)), fun Q h => .inr (.inr (.inl ⟨a, none, rfl, q2 e2, h⟩))⟩
      | some d =>
        rw [Option.map_some, e2] at e; cases e
        obtain ⟨v, f', g, _⟩ := q1 d e2
        exact ⟨fun Q h => .inr (.inr (.inl ⟨a, some v, rfl, g, h⟩)), fun Q h => .inr (.inr (.inl ⟨a, some v, rfl, g, h⟩))⟩
  · rename_i ks xs
    cases e1 : tkey d1 with
    | none => rw [e1] at e; cases e
    | some k =>
      rw [e1] at e
      obtain ⟨a, rfl, q1, q2⟩ := dgetT r2 r1 e1
      cases e2 : dfind ks xs k with
      | none =>
        rw [Option.map_some, e2] at e; cases e
        exact ⟨fun Q h => .inr (.inr (.inl ⟨a, none, rfl, q2 e2, h⟩)), fun Q h => .inr (.inr (.inl ⟨a, none, rfl, q2 e2, h⟩))⟩
      | some d =>
        rw [Option.map_some, e2] at e; cases e
        obtain ⟨v, f', g, _⟩ := q1 d e2
        exact ⟨fun Q h => .inr (.inr (.inl ⟨a, some v, rfl, g, h⟩)), fun Q h => .inr (.inr (.inl ⟨a, some v, rfl, g, h⟩))⟩
  · split at e
    · cases e
      cases r1
      cases r2
      exact ⟨fun Q h => .inr (.inr (.inr ⟨_, _, rfl, rfl, h⟩)), fun Q h => .inr (.inr (.inr ⟨_, _, rfl, rfl, h⟩))⟩
    · cases e
  · cases e
theorem prim_in : Prim2 K (rInAll K) gIn := by
  intro H R x y d1 d2 f1 f2 d Q r1 r2 n e h
  unfold gIn at e
  cases e1 : inB d1 d2 with
  | none => rw [e1] at e; cases e
  | some b => rw [e1] at e; cases e; exact (in_sem r1 r2 e1).1 Q (out1 h)
theorem prim_notIn : Prim2 K (rNotInAll K) gNotIn := by
  intro H R x y d1 d2 f1 f2 d Q r1 r2 n e h
  unfold gNotIn at e
  cases e1 : inB d1 d2 with
  | none => rw [e1] at e; cases e
  | some b => rw [e1] at e; cases e; exact (in_sem r1 r2 e1).2 Q (out1 h)

/-! ### subscripts -/
def rIxDc : R2 := fun x y H Q => ∃ a v, x = .ref a ∧ DGet H a y (some v) ∧ Q v H
theorem ix_dct {X : Cx} (hu : X.A.units + 65 < cLine) : IxR X rIxDc := by
  intro value slice pins s σ H x y v u Q I rx ry h hs
  obtain ⟨a, w, rfl, g, q⟩ := h
  obtain rfl : v = Value.ref a := rx
  exact tail_any (dict_typeIs I g) PySem.F.slot_dict_getitem.lookup (d_getItem (by omega) I g ry fun w' s' I' r => ⟨w, H, I', r, q⟩) hs
def rIxAll (K : PySem.W.Frag) : R2 := fun x y H Q => rIx K x y H Q ∨ rIxDc x y H Q
theorem ix_all {X : Cx} (hu : X.A.units + 65 < cLine) : IxR X (rIxAll X.K) := ix_seq.or (ix_dct hu)
def gIx (d e : D) : Option D := match d with
  | .node _ .lst xs => match e with
    | .int i => atI xs i
    | _ => none
  | .node _ .tup xs => match e with
    | .int i => atI xs i
    | _ => none
  | .node _ (.dK ks) xs => (dkey e).bind fun k => dfind ks xs k
  | .node _ (.dT ks) xs => (tkey e).bind fun k => dfind ks xs k
  | .str z => match e with
    | .int i => if z.length ≤ sizeLine then (atI z.cps.toList i).map fun c => .str ⟨#[c]⟩ else none
    | _ => none
  | _ => none
theorem RepL.atI {H : Hp} {R : Addr → Prop} {vs : List V} {ds : List D} {fp : List Addr} {i : Int} {d : D} (l : RepL K H R vs ds fp) (e : L2.atI ds i = some d) : ∃ v f, L2.atI vs i = some v ∧ Rep K H R v d f ∧ f.Sublist fp := by
  unfold L2.atI at e
  cases ej : ixN ds.length i with
  | none => rw [ej] at e; cases e
  | some j =>
    rw [ej] at e
    obtain ⟨v, f, e1, r, s⟩ := l.get (i := j) e
    exact ⟨v, f, by unfold L2.atI; rw [l.length, ej]; exact e1, r, s⟩
theorem prim_ix : Prim2 K (rIxAll K) gIx := by
  intro H R x y d1 d2 f1 f2 d Q r1 r2 n e h
  have n1 := (List.nodup_append.mp n).1
  have fin : ∀ {v : V} {f : List Addr}, Rep K H R v d f → f.Sublist f1 → Q v H := fun r s => h _ _ H (Same.refl _) r (n1.sublist s) fun a ha => .inl (List.mem_append_left _ (s.subset ha))
  unfold gIx at e
  split at e
  · split at e
    · cases r2
      obtain ⟨a, vs, f, rfl, hs, l, s⟩ := r1.sqL
      obtain ⟨v, f', e1, r, s'⟩ := l.atI e
      exact .inl (.inl ⟨a, vs, _, v, rfl, rfl, hs, e1, fin r (s'.trans s)⟩)
    · cases e
  · split at e
    · cases r2
      obtain ⟨a, vs, f, rfl, hs, l, s⟩ := r1.sqT
      obtain ⟨v, f', e1, r, s'⟩ := l.atI e
      exact .inl (.inr (.inl ⟨a, vs, _, v, rfl, rfl, hs, e1, fin r (s'.trans s)⟩))
    · cases e
  · rename_i ks xs
    cases e1 : dkey d2 with
    | none => rw [e1] at e; cases e
    | some k =>
      rw [e1] at e
      obtain ⟨a, rfl, q1, q2⟩ := dgetK r1 r2 e1
      obtain ⟨v, f', g, r, s⟩ := q1 d e
      exact .inr ⟨a, v, rfl, g, fin r s⟩
  · rename_i ks xs
    cases e1 : tkey d2 with
    | none => rw [e1] at e; cases e
    | some k =>
      rw [e1] at e
      obtain ⟨a, rfl, q1, q2⟩ := dgetT r1 r2 e1
      obtain ⟨v, f', g, r, s⟩ := q1 d e
      exact .inr ⟨a, v, rfl, g, fin r s⟩
  · split at e
    · split at e
      · rename_i z _ i hz
        cases r1
        cases r2
        cases ec : L2.atI z.cps.toList i with
        | none => rw [ec] at e; cases e
        | some c => rw [ec] at e; cases e; exact .inl (.inr (.inr ⟨z, i, c, rfl, rfl, hz, ec, outS h⟩))
      · cases e
    · cases e
  · cases e
end
end Py

set_option Elab.async false
set_option linter.all false
set_option maxRecDepth 100000
namespace Py
open PySem PySem.Spec L2 PyProof.Rows
section
variable {K : PySem.W.Frag}
theorem RepL.r1 {H : Hp} {R : Addr → Prop} {vs : List V} {d : D} {f : List Addr} (h : RepL K H R vs [d] f) : ∃ v, vs = [v] ∧ Rep K H R v d f := by
  cases h with
  | cons a b =>
    cases b
    rw [List.append_nil]
    exact ⟨_, rfl, a⟩
theorem RepL.r2 {H : Hp} {R : Addr → Prop} {vs : List V} {d e : D} {f : List Addr} (h : RepL K H R vs [d, e] f) : ∃ v w f1 f2, vs = [v, w] ∧ Rep K H R v d f1 ∧ Rep K H R w e f2 ∧ f = f1 ++ f2 := by
  cases h with
  | cons a b =>
    obtain ⟨w, rfl, r⟩ := b.r1
    exact ⟨_, w, _, _, rfl, a, r, rfl⟩
/-! ### len -/
def rLenAll (K : PySem.W.Frag) : List V → Hp → VK → Prop := fun xs H Q => (∃ p ys, xs = [.ref p] ∧ (SqL K H p ys ∨ SqT K H p ys) ∧ Q (.int ys.length) H) ∨ ((∃ z, xs = [.str z] ∧ z.length ≤ sizeLine ∧ Q (.int z.length) H) ∨ ∃ a kvs, xs = [V.ref a] ∧ Rd H a (.dK kvs) ∧ Q (.int kvs.length) H)
theorem call_lenDr {X : Cx} : CallR X (.builtin "len") (fun xs H Q => ∃ a kvs, xs = [V.ref a] ∧ Rd H a (.dK kvs) ∧ Q (.int kvs.length) H) := by
  intro pins s σ H xs us Q I r h
  obtain ⟨a, kvs, rfl, ha, q⟩ := h
  obtain ⟨u, rfl, ru⟩ := vals1 r
  cases ru
  exact d_len I ha fun t s' I' => ⟨.int kvs.length, H, I', ⟨t, rfl⟩, q⟩
theorem call_lenAll {X : Cx} : CallR X (.builtin "len") (rLenAll X.K) := call_len_seq.or (call_len_str.or call_lenDr)
def gLen : List D → Option D
  | [.node _ .lst xs] => some (.int xs.length)
  | [.node _ .tup xs] => some (.int xs.length)
  | [.node _ (.dK _) xs] => some (.int xs.length)
  | [.str z] => if z.length ≤ sizeLine then some (.int z.length) else none
  | _ => none
theorem prim_len : PrimL K (rLenAll K) gLen := by
  intro H R xs ds f d Q r n e h
  unfold gLen at e
  split at e
  · cases e
    obtain ⟨v, rfl, r1⟩ := r.r1
    obtain ⟨a, vs, f', rfl, hs, l, s⟩ := r1.sqL
    exact .inl ⟨a, vs, rfl, .inl hs, by rw [l.length]; exact outI h⟩
  · cases e
    obtain ⟨v, rfl, r1⟩ := r.r1
    obtain ⟨a, vs, f', rfl, hs, l, s⟩ := r1.sqT
    exact .inl ⟨a, vs, rfl, .inr hs, by rw [l.length]; exact outI h⟩
  · cases e
    obtain ⟨v, rfl, r1⟩ := r.r1
    obtain ⟨a, vs, f', rfl, hs, hw, l, s⟩ := r1.dRead rfl rfl
    refine .inr (.inr ⟨a, _, rfl, hs, ?_⟩)
    rw [List.length_zip, hw.1, Nat.min_self, l.length]
    exact outI h
  · split at e
    · cases e
      obtain ⟨v, rfl, r1⟩ := r.r1
      cases r1
      exact .inr (.inl ⟨_, rfl, by assumption, outI h⟩)
    · cases e
  · cases e

/-! ### int, bool, abs -/
def rInt1 : List V → Hp → VK → Prop := fun xs H Q => (∃ i, xs = [.int i] ∧ Q (.int i) H) ∨ ∃ k, xs = [.bl k] ∧ Q (.int (if k then 1 else 0)) H
def gInt : List D → Option D
  | [.int i] => some (.int i)
  | [.bl b] => some (.int (if b then 1 else 0))
  | _ => none
theorem prim_int : PrimL K rInt1 gInt := by
  intro H R xs ds f d Q r n e h
  unfold gInt at e
  split at e
  · cases e
    obtain ⟨v, rfl, r1⟩ := r.r1
    cases r1
    exact .inl ⟨_, rfl, outI h⟩
  · cases e
    obtain ⟨v, rfl, r1⟩ := r.r1
    cases r1
    exact .inr ⟨_, rfl, outI h⟩
  · cases e
def rBool1 (K : PySem.W.Frag) : List V → Hp → VK → Prop := fun xs H Q => ((∃ i, xs = [.int i] ∧ Q (.bl (i != 0)) H) ∨ ∃ k, xs = [.bl k] ∧ Q (.bl k) H) ∨ ∃ (a : Addr) (zs : List V), xs = [.ref a] ∧ SqL K H a zs ∧ Q (.bl (!zs.isEmpty)) H
theorem call_boolAll {X : Cx} : CallR X (.type "bool") (rBool1 X.K) := call_bool1.or call_boolL
def gBool : List D → Option D
  | [.int i] => some (.bl (i != 0))
  | [.bl b] => some (.bl b)
  | [.node _ .lst xs] => some (.bl (!xs.isEmpty))
  | _ => none
theorem RepL.emp {H : Hp} {R : Addr → Prop} {vs : List V} {ds : List D} {f : List Addr} (h : RepL K H R vs ds f) : vs.isEmpty = ds.isEmpty := by cases h <;> rfl
theorem prim_bool : PrimL K (rBool1 K) gBool := by
  intro H R xs ds f d Q r n e h
  unfold gBool at e
  split at e
  · cases e
    obtain ⟨v, rfl, r1⟩ := r.r1
    cases r1
    exact .inl (.inl ⟨_, rfl, out1 h⟩)
  · cases e
    obtain ⟨v, rfl, r1⟩ := r.r1
    cases r1
    exact .inl (.inr ⟨_, rfl, out1 h⟩)
  · cases e
    obtain ⟨v, rfl, r1⟩ := r.r1
    obtain ⟨a, vs, f', rfl, hs, l, s⟩ := r1.sqL
    exact .inr ⟨a, vs, rfl, hs, by rw [l.emp]; exact out1 h⟩
  · cases e
def rAbs : List V → Hp → VK → Prop := fun xs H Q => ∃ i, xs = [.int i] ∧ Q (.int (if i < 0 then -i else i)) H
def gAbs : List D → Option D
  | [.int i] => some (.int (if i < 0 then -i else i))
  | _ => none
theorem prim_abs : PrimL K rAbs gAbs := by
  intro H R xs ds f d Q r n e h
  unfold gAbs at e
  split at e
  · cases e
    obtain ⟨v, rfl, r1⟩ := r.r1
    cases r1
    exact ⟨_, rfl, outI h⟩
  · cases e

/-! ### list(..), tuple(..) -/
def rListOf (K : PySem.W.Frag) : List V → Hp → VK → Prop := fun xs H Q => (∃ p ys, xs = [.ref p] ∧ (SqL K H p ys ∨ SqT K H p ys) ∧ ∀ l, H l = none → Q (.ref l) (upd H l (.lst ys))) ∨ ∃ (a : Addr) (kvs : List (Key × V)), xs = [.ref a] ∧ Rd H a (.dK kvs) ∧ ∀ p, H p = none → Q (.ref p) (upd H p (.lst (kvs.map fun kv => kV kv.1)))
theorem call_listAll {X : Cx} (hc : X.calm = true) : CallR X (.type "list") (rListOf X.K) := call_list_of.or (call_listD hc)
def rTupOf (K : PySem.W.Frag) : List V → Hp → VK → Prop := fun xs H Q => ∃ p ys, xs = [.ref p] ∧ ((SqL K H p ys ∧ ∀ l, H l = none → Q (.ref l) (upd H l (.tup ys))) ∨ (SqT K H p ys ∧ Q (.ref p) H))
def kD : Key → D
  | .inl i => .int i
  | .inr x => .str x
def gList : List D → Option D
  | [.node _ .lst xs] => some (.node true .lst xs)
  | [.node _ .tup xs] => some (.node true .lst xs)
  | [.node _ (.dK ks) _] => some (.node true .lst (ks.map kD))
  | _ => none
def gTup : List D → Option D
  | [.node _ .lst xs] => some (.node false .tup xs)
  | [.node false .tup xs] => some (.node false .tup xs)
  | _ => none
theorem keysRep {H : Hp} {R : Addr → Prop} : ∀ ks : List Key, RepL K H R (ks.map kV) (ks.map kD) []
  | [] => .nil
  | .inl i :: ks => RepL.cons (f := []) (g := []) (.int i) (keysRep ks)
  | .inr x :: ks => RepL.cons (f := []) (g := []) (.str x) (keysRep ks)
theorem zipKeys : ∀ {ks : List Key} {vs : List V}, ks.length = vs.length → (ks.zip vs).map (fun kv => kV kv.1) = ks.map kV
  | [], [], _ => rfl
  | k :: ks, v :: vs, h => by rw [List.zip_cons_cons, List.map_cons, List.map_cons, zipKeys (by simpa using h)]
  | [], _ :: _, h => by cases h
  | _ :: _, [], h => by cases h
theorem prim_list : PrimL K (rListOf K) gList := by
  intro H R xs ds f d Q r n e h
  unfold gList at e
  split at e
  · cases e
    obtain ⟨v, rfl, r1⟩ := r.r1
    obtain ⟨a, vs, f', rfl, hs, l, s⟩ := r1.sqL
    exact .inl ⟨a, vs, rfl, .inl hs, fun p hp => newLst l (n.sublist s) (fun c hc => s.subset hc) h hp⟩
  · cases e
    obtain ⟨v, rfl, r1⟩ := r.r1
    obtain ⟨a, vs, f', rfl, hs, l, s⟩ := r1.sqT
    exact .inl ⟨a, vs, rfl, .inr hs, fun p hp => newLst l (n.sublist s) (fun c hc => s.subset hc) h hp⟩
  · cases e
    obtain ⟨v, rfl, r1⟩ := r.r1
    obtain ⟨a, vs, f', rfl, hs, hw, l, s⟩ := r1.dRead rfl rfl
    refine .inr ⟨a, _, rfl, hs, fun p hp => ?_⟩
    rw [zipKeys hw.1]
    exact newLst (keysRep _) List.nodup_nil (fun c hc => by cases hc) h hp
  · cases e
theorem prim_tupOf : PrimL K (rTupOf K) gTup := by
  intro H R xs ds f d Q r n e h
  unfold gTup at e
  split at e
  · cases e
    obtain ⟨v, rfl, r1⟩ := r.r1
    obtain ⟨a, vs, f', rfl, hs, l, s⟩ := r1.sqL
    exact ⟨a, vs, rfl, .inl ⟨hs, fun p hp => newTup l (n.sublist s) (fun c hc => s.subset hc) h hp⟩⟩
  · cases e
    obtain ⟨v, rfl, r1⟩ := r.r1
    obtain ⟨a, vs, f', rfl, hs, l, s⟩ := r1.sqT
    exact ⟨a, vs, rfl, .inr ⟨hs, h _ f H (Same.refl _) r1 n fun a ha => .inl ha⟩⟩
  · cases e

/-! ### max, min, sum, sorted of ints -/
def intL : List D → Option (List Int)
  | [] => some []
  | .int i :: ds => (intL ds).map fun r => i :: r
  | _ :: _ => none
theorem intL_eq : ∀ {ds : List D} {ns : List Int}, intL ds = some ns → ds = ns.map D.int
  | [], _, h => by cases h; rfl
  | d :: ds, _, h => by
    cases d with
    | int i =>
      rw [intL] at h
      cases e : intL ds with
      | none => rw [e] at h; cases h
      | some r => rw [e] at h; cases h; rw [intL_eq e]; rfl
    | _ => cases h
theorem intL_map : ∀ ns : List Int, intL (ns.map D.int) = some ns
  | [] => rfl
  | n :: ns => by rw [List.map_cons, intL, intL_map ns]; rfl
def maxI : List Int → Int
  | [] => 0
  | [x] => x
  | x :: y :: r => max x (maxI (y :: r))
def minI : List Int → Int
  | [] => 0
  | [x] => x
  | x :: y :: r => min x (minI (y :: r))
theorem maxI_mem : ∀ {l : List Int}, 0 < l.length → maxI l ∈ l
  | [x], _ => by simp [maxI]
  | x :: y :: r, _ => by
    rw [maxI]
    have := maxI_mem (l := y :: r) (by simp)
    rcases Int.le_total x (maxI (y :: r)) with q | q
    · rw [Int.max_eq_right q]; exact List.mem_cons_of_mem _ this
    · rw [Int.max_eq_left q]; exact List.mem_cons_self
  | [], h => by simp at h
theorem le_maxI : ∀ {l : List Int} {y : Int}, y ∈ l → y ≤ maxI l
  | [x], y, h => by simp at h; simp [maxI, h]
  | x :: z :: r, y, h => by
    rw [maxI]
    rcases List.mem_cons.mp h with rfl | h
    · omega
    · have := le_maxI (l := z :: r) h
      omega
theorem minI_mem : ∀ {l : List Int}, 0 < l.length → minI l ∈ l
  | [x], _ => by simp [minI]
  | x :: y :: r, _ => by
    rw [minI]
    have := minI_mem (l := y :: r) (by simp)
    rcases Int.le_total x (minI (y :: r)) with q | q
    · rw [Int.min_eq_left q]; exact List.mem_cons_self
    · rw [Int.min_eq_right q]; exact List.mem_cons_of_mem _ this
  | [], h => by simp at h
theorem minI_le : ∀ {l : List Int} {y : Int}, y ∈ l → minI l ≤ y
  | [x], y, h => by simp at h; simp [minI, h]
  | x :: z :: r, y, h => by
    rw [minI]
    rcases List.mem_cons.mp h with rfl | h
    · omega
    · have := minI_le (l := z :: r) h
      omega
def rMx2 : List V → Hp → VK → Prop := fun xs H Q => ∃ i j, xs = [.int i, .int j] ∧ Q (.int (if j > i then j else i)) H
def rMaxAll (K : PySem.W.Frag) : List V → Hp → VK → Prop := fun xs H Q => rMx2 xs H Q ∨ rMax K xs H Q
def rMin2 : List V → Hp → VK → Prop := fun xs H Q => ∃ i j, xs = [.int i, .int j] ∧ Q (.int (if j < i then j else i)) H
def rMinAll (K : PySem.W.Frag) : List V → Hp → VK → Prop := fun xs H Q => rMin2 xs H Q ∨ rMin K xs H Q
theorem call_maxAll {X : Cx} (hc : X.calm = true) : CallR X (.builtin "max") (rMaxAll X.K) := (call_max2 hc).or (cr_max hc)
theorem call_minAll {X : Cx} (hc : X.calm = true) : CallR X (.builtin "min") (rMinAll X.K) := (call_min2 hc).or (cr_min hc)
def gMax : List D → Option D
  | [.int i, .int j] => some (.int (max i j))
  | [.node _ .lst xs] => (intL xs).bind fun ns => if ns.isEmpty then none else some (.int (maxI ns))
  | _ => none
def gMin : List D → Option D
  | [.int i, .int j] => some (.int (min i j))
  | [.node _ .lst xs] => (intL xs).bind fun ns => if ns.isEmpty then none else some (.int (minI ns))
  | _ => none
theorem Rep.intsL {H : Hp} {R : Addr → Prop} {v : V} {o : Bool} {ds : List D} {fp : List Addr} {ns : List Int} (r : Rep K H R v (.node o .lst ds) fp) (e : intL ds = some ns) : ∃ a, v = .ref a ∧ SqL K H a (ns.map V.int) := by
  obtain ⟨a, vs, f', rfl, hs, l, s⟩ := r.sqL
  rw [intL_eq e] at l
  rw [(RepL.ints_inv l).1] at hs
  exact ⟨a, rfl, hs⟩
theorem prim_max : PrimL K (rMaxAll K) gMax := by
  intro H R xs ds f d Q r n e h
  unfold gMax at e
  split at e
  · cases e
    rename_i i j
    refine .inl ⟨i, j, r.i2, ?_⟩
    have : (if j > i then j else i) = max i j := by split <;> omega
    rw [this]
    exact outI h
  · rename_i xs
    cases e1 : intL xs with
    | none => rw [e1] at e; cases e
    | some ns =>
      rw [e1] at e
      dsimp only [Option.bind] at e
      split at e
      · cases e
      · rename_i hn
        cases e
        obtain ⟨v, rfl, r1⟩ := r.r1
        obtain ⟨a, rfl, hs⟩ := r1.intsL e1
        have h0 : 0 < ns.length := by cases ns with | nil => simp at hn | cons => simp
        refine .inr ⟨a, ns, rfl, hs, h0, fun m hm hy => ?_⟩
        have : m = maxI ns := Int.le_antisymm (le_maxI hm) (hy _ (maxI_mem h0))
        rw [this]
        exact outI h
  · cases e
theorem prim_min : PrimL K (rMinAll K) gMin := by
  intro H R xs ds f d Q r n e h
  unfold gMin at e
  split at e
  · cases e
    rename_i i j
    refine .inl ⟨i, j, r.i2, ?_⟩
    have : (if j < i then j else i) = min i j := by split <;> omega
    rw [this]
    exact outI h
  · rename_i xs
    cases e1 : intL xs with
    | none => rw [e1] at e; cases e
    | some ns =>
      rw [e1] at e
      dsimp only [Option.bind] at e
      split at e
      · cases e
      · rename_i hn
        cases e
        obtain ⟨v, rfl, r1⟩ := r.r1
        obtain ⟨a, rfl, hs⟩ := r1.intsL e1
        have h0 : 0 < ns.length := by cases ns with | nil => simp at hn | cons => simp
        refine .inr ⟨a, ns, rfl, hs, h0, fun m hm hy => ?_⟩
        have : m = minI ns := Int.le_antisymm (hy _ (minI_mem h0)) (minI_le hm)
        rw [this]
        exact outI h
  · cases e
def gSum : List D → Option D
  | [.node _ .lst xs] => (intL xs).map fun ns => .int ns.sum
  | _ => none
theorem prim_sum : PrimL K (rSum K) gSum := by
  intro H R xs ds f d Q r n e h
  unfold gSum at e
  split at e
  · rename_i xs
    cases e1 : intL xs with
    | none => rw [e1] at e; cases e
    | some ns =>
      rw [e1] at e
      cases e
      obtain ⟨v, rfl, r1⟩ := r.r1
      obtain ⟨a, rfl, hs⟩ := r1.intsL e1
      exact ⟨a, ns, rfl, hs, outI h⟩
  · cases e
/-- the ascending order of a list -/
def srt (l : List Int) : List Int := l.mergeSort fun a b => decide (a ≤ b)
theorem srt_perm (l : List Int) : (srt l).Perm l := List.mergeSort_perm _ _
theorem srt_sorted (l : List Int) : (srt l).Pairwise (· ≤ ·) := by
  have := List.pairwise_mergeSort (le := fun a b : Int => decide (a ≤ b)) (fun a b c h1 h2 => by simp at *; omega) (fun a b => by simp; omega) l
  exact this.imp fun h => by simpa using h
theorem sorted_unique : ∀ {l l' : List Int}, l.Perm l' → l.Pairwise (· ≤ ·) → l'.Pairwise (· ≤ ·) → l = l' := fun p h1 h2 =>
  List.Perm.eq_of_pairwise (fun a b _ _ h3 h4 => Int.le_antisymm h3 h4) h1 h2 p
def gSorted : List D → Option D
  | [.node _ .lst xs] => (intL xs).map fun ns => .node true .lst ((srt ns).map D.int)
  | _ => none
theorem prim_sorted : PrimL K (rSortedI K) gSorted := by
  intro H R xs ds f d Q r n e h
  unfold gSorted at e
  split at e
  · rename_i xs
    cases e1 : intL xs with
    | none => rw [e1] at e; cases e
    | some ns =>
      rw [e1] at e
      cases e
      obtain ⟨v, rfl, r1⟩ := r.r1
      obtain ⟨a, rfl, hs⟩ := r1.intsL e1
      refine ⟨a, ns, rfl, hs, fun ns' p hp hs' hf => ?_⟩
      have : ns' = srt ns := sorted_unique (hp.trans (srt_perm ns).symm) hs' (srt_sorted ns)
      subst this
      exact newLst RepL.ints List.nodup_nil (fun c hc => by cases hc) h hf
  · cases e

/-! ### isinstance(x, T) -/
def tyS : D → Option String
  | .non => some "NoneType"
  | .bl _ => some "bool"
  | .int _ => some "int"
  | .str _ => some "str"
  | .ty _ => none
  | .node _ .tup _ => some "tuple"
  | .node _ .lst _ => some "list"
  | .node _ (.dK _) _ => some "dict"
  | .node true (.dT _) _ => some "dict"
  | .node false (.dT _) _ => none
def isiB (s T : String) : Option Bool := if T = "list" then some (s == "list") else if T = "tuple" then some (s == "tuple") else if T = "bool" then some (s == "bool") else if T = "int" then some (s == "int" || s == "bool") else if T = "str" then some (s == "str") else if T = "dict" then some (s == "dict") else none
def gIsi : List D → Option D
  | [d, .ty T] => (tyS d).bind fun s => (isiB s T).map .bl
  | _ => none
theorem Rep.tyX {H : Hp} {R : Addr → Prop} {v : V} {d : D} {f : List Addr} {s : String} (r : Rep K H R v d f) (e : tyS d = some s) : TyX K H v (.type s) ∧ (s = "NoneType" ∨ s = "bool" ∨ s = "int" ∨ s = "str" ∨ s = "tuple" ∨ s = "list" ∨ s = "dict") := by
  cases r with
  | non => cases e; exact ⟨.base .non, by simp⟩
  | bl b => cases e; exact ⟨.base (.bl b), by simp⟩
  | int i => cases e; exact ⟨.base (.int i), by simp⟩
  | str x => cases e; exact ⟨.base (.str x), by simp⟩
  | ty n => cases e
  | tup h l => cases e; exact ⟨.base (.tup h), by simp⟩
  | @own a t vs ds fp h1 h2 h3 l =>
    cases t with
    | tup => cases h1
    | lst => cases e; exact ⟨.base (.lst h3), by simp⟩
    | dK ks => cases e; exact ⟨.base (.dK h3), by simp⟩
    | dT ks => cases e; exact ⟨.base (.dT h3), by simp⟩
  | kst hk l =>
    cases e
    obtain ⟨o, its, n, h1, h2, _⟩ := hk
    exact ⟨.kList h1 h2, by simp⟩
  | @shr a t vs ds h1 h2 h3 h4 l =>
    cases t with
    | tup => cases h1
    | lst =>
      cases e
      rcases h4 with q | ⟨o, q⟩
      · exact ⟨.base (.lst q), by simp⟩
      · exact ⟨.base (.frz q), by simp⟩
    | dK ks =>
      cases e
      rcases h4 with q | ⟨o, q⟩
      · exact ⟨.base (.dK q), by simp⟩
      · exact ⟨.fDict q, by simp⟩
    | dT ks => cases e
theorem isi_kit {s T : String} {b : Bool} (hs : s = "NoneType" ∨ s = "bool" ∨ s = "int" ∨ s = "str" ∨ s = "tuple" ∨ s = "list" ∨ s = "dict") (h : isiB s T = some b) : kitB s T = some b := by
  unfold isiB at h
  split at h
  · subst T
    cases h
    rcases hs with rfl | rfl | rfl | rfl | rfl | rfl | rfl <;> decide +kernel
  split at h
  · subst T
    cases h
    rcases hs with rfl | rfl | rfl | rfl | rfl | rfl | rfl <;> decide +kernel
  split at h
  · subst T
    cases h
    rcases hs with rfl | rfl | rfl | rfl | rfl | rfl | rfl <;> decide +kernel
  split at h
  · subst T
    cases h
    rcases hs with rfl | rfl | rfl | rfl | rfl | rfl | rfl <;> decide +kernel
  split at h
  · subst T
    cases h
    rcases hs with rfl | rfl | rfl | rfl | rfl | rfl | rfl <;> decide +kernel
  split at h
  · subst T
    cases h
    rcases hs with rfl | rfl | rfl | rfl | rfl | rfl | rfl <;> decide +kernel
  · cases h
theorem prim_isi : PrimL K (rIsi K) gIsi := by
  intro H R xs ds f d Q r n e h
  unfold gIsi at e
  split at e
  · rename_i d1 T
    cases e1 : tyS d1 with
    | none => rw [e1] at e; cases e
    | some s =>
      rw [e1] at e
      dsimp only [Option.bind] at e
      cases e2 : isiB s T with
      | none => rw [e2] at e; cases e
      | some b =>
        rw [e2] at e
        cases e
        obtain ⟨v, w, f1, f2, rfl, r1, r2, _⟩ := r.r2
        cases r2
        obtain ⟨ty, hs⟩ := r1.tyX e1
        exact ⟨v, _, _, _, b, rfl, .ty T, ty, kit_ty (isi_kit hs e2), out1 h⟩
  · cases e
end
end Py

set_option Elab.async false
set_option linter.all false
set_option maxRecDepth 100000
namespace Py
open PySem PySem.Spec L2 PyProof.Rows
section
variable {ι : Type} {X : ι → Cx} {P : Program} {w : World} {K : PySem.W.Frag} {mg : Str → Option Value} {base : Heap} {N : List Str} {k : Nat} {W : WX} {S S1 S' : Addr → Prop} {fps : Nat → List Addr} {ρ : Ev} {σ : L2.St} {H H1 H' : Hp} {Q : VK} {pos : Pos}
theorem EPost.grow {r : Res (D × List Nat)} (h : EPost K mg W S fps σ H r Q) (g : Grow S H S1 H1) : EPost K mg W S1 fps σ H1 r Q := by
  cases r with
  | stuck => exact h
  | rs c => exact EPost.rs h g.same
  | ok r => exact fun v fp S' H' g' rv n z => h v fp S' H' (g.trans g') rv n fun a ha => ⟨g.same.free (z a ha).1, (z a ha).2⟩
theorem TPost.grow {r : Res Bool} {Q : Bool → Hp → Prop} (h : TPost mg W S σ H r Q) (g : Grow S H S1 H1) : TPost mg W S1 σ H1 r Q := by
  cases r with
  | stuck => exact h
  | rs c => exact EPost.rs h g.same
  | ok b => exact fun S' H' g' => h S' H' (g.trans g')

/-! ### truth -/
def tru : D → Option Bool
  | .non => some false
  | .bl b => some b
  | .int i => some (i != 0)
  | .str y => if y.length ≤ sizeLine then some ((y.length : Int) != 0) else none
  | .ty _ => none
  | .node _ .lst xs => some (!xs.isEmpty)
  | .node _ .tup xs => some (!xs.isEmpty)
  | .node true (.dK _) xs => some (!xs.isEmpty)
  | .node false (.dK _) _ => none
  | .node _ (.dT _) _ => none
theorem Rep.tru {R : Addr → Prop} {v : V} {d : D} {f : List Addr} {b : Bool} (r : Rep K H R v d f) (e : Py.tru d = some b) : TruV K v H b := by
  cases d with
  | non => cases r; cases e; rfl
  | bl x => cases r; cases e; rfl
  | int i => cases r; cases e; rfl
  | str y =>
    cases r
    have e : (if y.length ≤ sizeLine then some ((y.length : Int) != 0) else none) = some b := e
    split at e
    · cases e; exact ⟨by assumption, rfl⟩
    · cases e
  | ty n => cases e
  | node o t xs =>
    cases t with
    | tup =>
      cases e
      obtain ⟨a, vs, f', rfl, hs, l, s⟩ := r.sqT
      exact .inr (.inl ⟨vs, hs, by rw [l.emp]⟩)
    | lst =>
      cases e
      obtain ⟨a, vs, f', rfl, hs, l, s⟩ := r.sqL
      exact .inl ⟨vs, hs, by rw [l.emp]⟩
    | dK ks =>
      cases o with
      | false => cases e
      | true =>
        cases e
        cases r with
        | own h1 h2 h3 l =>
          refine .inr (.inr ⟨_, h3, ?_⟩)
          have e1 := l.length
          have e2 := h2.1
          cases xs with
          | nil =>
            cases l
            cases ks <;> rfl
          | cons d ds =>
            cases l
            cases ks with
            | nil => cases e2
            | cons => rfl
    | dT ks => cases e
def tTru (f : Ev → Res (D × List Nat)) : Ev → Res Bool := fun ρ => (f ρ).bind fun a => match tru a.1 with
  | some b => .ok b
  | none => .stuck
theorem vt_truth {e : Expr} {f : Ev → Res (D × List Nat)} (hF : Fam P w K mg base N k X) (h : VE K mg X e f) (he : ∀ i whole, isTrue e (X i).env whole = (do let v ← whole; standAt e.pos; holding [v] (truthy v)) := by intro _ _; rfl) : VT K mg X e (tTru f) := by
  intro W tk
  obtain ⟨t, p, q⟩ := h W tk
  refine ⟨fun σ H Q => t σ H fun x H' => ∃ k, TruV K x H' k ∧ Q k H', fun i => by have q := pt_truth (p i) (he i); rw [hF.kk i] at q; exact q, fun S fps ρ σ H Q ok h => ?_⟩
  unfold tTru at h
  refine q S fps ρ σ H _ ok ?_
  cases e1 : f ρ with
  | stuck => rw [e1] at h; exact h
  | rs c => rw [e1] at h; exact h
  | ok a =>
    obtain ⟨d1, p1⟩ := a
    rw [e1] at h
    intro v1 fp1 S1 H1 g1 r1 n1 z1
    dsimp only [Res.bind] at h
    cases e2 : tru d1 with
    | none => rw [e2] at h; exact h.elim
    | some b => rw [e2] at h; exact ⟨b, r1.tru e2, h S1 H1 g1⟩
/-- and, or, not as values -/
def eAnd (f g : Ev → Res (D × List Nat)) : Ev → Res (D × List Nat) := fun ρ => (f ρ).bind fun a => match tru a.1 with
  | some true => g ρ
  | some false => .ok a
  | none => .stuck
def eOr (f g : Ev → Res (D × List Nat)) : Ev → Res (D × List Nat) := fun ρ => (f ρ).bind fun a => match tru a.1 with
  | some true => .ok a
  | some false => g ρ
  | none => .stuck
def eNot (f : Ev → Res (D × List Nat)) : Ev → Res (D × List Nat) := fun ρ => (f ρ).bind fun a => match tru a.1 with
  | some b => .ok (.bl (!b), [])
  | none => .stuck
theorem ve_one {op : BoolOp} {a : Expr} {f : Ev → Res (D × List Nat)} (h : VE K mg X a f) : VE K mg X (.BoolOp op [a] pos) f := fun W tk => let ⟨t, p, q⟩ := h W tk; ⟨t, fun i => pe_one (p i), q⟩
theorem ve_and {a b : Expr} {rest : List Expr} {f g : Ev → Res (D × List Nat)} (hF : Fam P w K mg base N k X) (ha : VE K mg X a f) (hb : VE K mg X (.BoolOp .And (b :: rest) pos) g) : VE K mg X (.BoolOp .And (a :: b :: rest) pos) (eAnd f g) := by
  intro W tk
  obtain ⟨ta, pa, qa⟩ := ha W tk
  obtain ⟨tb, pb, qb⟩ := hb W tk
  refine ⟨tAndT K ta tb, fun i => by have q := pe_andT (pa i) (pb i); rw [hF.kk i] at q; exact q, fun S fps ρ σ H Q ok h => ?_⟩
  unfold eAnd at h
  refine qa S fps ρ σ H _ ok ?_
  cases e1 : f ρ with
  | stuck => rw [e1] at h; exact h
  | rs c => rw [e1] at h; exact h
  | ok a =>
    obtain ⟨d1, p1⟩ := a
    rw [e1] at h
    intro v1 fp1 S1 H1 g1 r1 n1 z1
    dsimp only [Res.bind] at h
    cases e2 : tru d1 with
    | none => rw [e2] at h; exact h.elim
    | some b =>
      rw [e2] at h
      refine ⟨b, r1.tru e2, ?_⟩
      cases b with
      | true => exact qb S1 fps ρ σ H1 Q (ok.grow g1) (EPost.grow h g1)
      | false => exact h v1 fp1 S1 H1 g1 r1 n1 z1
theorem ve_or {a b : Expr} {rest : List Expr} {f g : Ev → Res (D × List Nat)} (hF : Fam P w K mg base N k X) (ha : VE K mg X a f) (hb : VE K mg X (.BoolOp .Or (b :: rest) pos) g) : VE K mg X (.BoolOp .Or (a :: b :: rest) pos) (eOr f g) := by
  intro W tk
  obtain ⟨ta, pa, qa⟩ := ha W tk
  obtain ⟨tb, pb, qb⟩ := hb W tk
  refine ⟨tOrT K ta tb, fun i => by have q := pe_orT (pa i) (pb i); rw [hF.kk i] at q; exact q, fun S fps ρ σ H Q ok h => ?_⟩
  unfold eOr at h
  refine qa S fps ρ σ H _ ok ?_
  cases e1 : f ρ with
  | stuck => rw [e1] at h; exact h
  | rs c => rw [e1] at h; exact h
  | ok a =>
    obtain ⟨d1, p1⟩ := a
    rw [e1] at h
    intro v1 fp1 S1 H1 g1 r1 n1 z1
    dsimp only [Res.bind] at h
    cases e2 : tru d1 with
    | none => rw [e2] at h; exact h.elim
    | some b =>
      rw [e2] at h
      refine ⟨b, r1.tru e2, ?_⟩
      cases b with
      | false => exact qb S1 fps ρ σ H1 Q (ok.grow g1) (EPost.grow h g1)
      | true => exact h v1 fp1 S1 H1 g1 r1 n1 z1
theorem ve_not {a : Expr} {f : Ev → Res (D × List Nat)} (hF : Fam P w K mg base N k X) (ha : VE K mg X a f) : VE K mg X (.UnaryOp .Not a pos) (eNot f) := by
  intro W tk
  obtain ⟨ta, pa, qa⟩ := ha W tk
  refine ⟨tNotT K ta, fun i => by have q := pe_notT (pos := pos) (pa i); rw [hF.kk i] at q; exact q, fun S fps ρ σ H Q ok h => ?_⟩
  unfold eNot at h
  refine qa S fps ρ σ H _ ok ?_
  cases e1 : f ρ with
  | stuck => rw [e1] at h; exact h
  | rs c => rw [e1] at h; exact h
  | ok a =>
    obtain ⟨d1, p1⟩ := a
    rw [e1] at h
    intro v1 fp1 S1 H1 g1 r1 n1 z1
    dsimp only [Res.bind] at h
    cases e2 : tru d1 with
    | none => rw [e2] at h; exact h.elim
    | some b =>
      rw [e2] at h
      exact ⟨b, r1.tru e2, h _ [] S1 H1 g1 (.bl _) List.nodup_nil fun a z => by cases z⟩
/-- a if c else b -/
def eIf (c : Ev → Res Bool) (f g : Ev → Res (D × List Nat)) : Ev → Res (D × List Nat) := fun ρ => (c ρ).bind fun b => if b = true then f ρ else g ρ
theorem ve_if {c a b : Expr} {fc : Ev → Res Bool} {f g : Ev → Res (D × List Nat)} (hc : VT K mg X c fc) (ha : VE K mg X a f) (hb : VE K mg X b g) : VE K mg X (.IfExp c a b pos) (eIf fc f g) := by
  intro W tk
  obtain ⟨tc, pc, qc⟩ := hc W tk
  obtain ⟨ta, pa, qa⟩ := ha W tk
  obtain ⟨tb, pb, qb⟩ := hb W tk
  refine ⟨tIf tc ta tb, fun i => pe_ifExp (pc i) (pa i) (pb i), fun S fps ρ σ H Q ok h => ?_⟩
  unfold eIf at h
  refine qc S fps ρ σ H _ ok ?_
  cases e1 : fc ρ with
  | stuck => rw [e1] at h; exact h
  | rs c => rw [e1] at h; exact h
  | ok x =>
    rw [e1] at h
    intro S1 H1 g1
    cases x with
    | true => exact qa S1 fps ρ σ H1 Q (ok.grow g1) (EPost.grow h g1)
    | false => exact qb S1 fps ρ σ H1 Q (ok.grow g1) (EPost.grow h g1)

/-! ### a < b < c -/
def eCh (g g' : D → D → Option D) (f1 f2 f3 : Ev → Res (D × List Nat)) : Ev → Res (D × List Nat) := fun ρ =>
  (f1 ρ).bind fun a => (f2 ρ).bind fun b => match g a.1 b.1 with
    | some (.bl k) => if k = true then (f3 ρ).bind fun c => match g' b.1 c.1 with
        | some (.bl k') => .ok (.bl k', [])
        | _ => .stuck
      else .ok (.bl false, [])
    | _ => .stuck
theorem chain_sem {f1 f2 f3 : Ev → Res (D × List Nat)} {g g' : D → D → Option D} {r r' : R2} {ta tb tc : TE} (hp : Prim2 K r g) (hp' : Prim2 K r' g')
    (qa : ∀ S fps ρ σ H Q, Ok K S fps ρ σ H → EPost K mg W S fps σ H (f1 ρ) Q → ta σ H Q) (qb : ∀ S fps ρ σ H Q, Ok K S fps ρ σ H → EPost K mg W S fps σ H (f2 ρ) Q → tb σ H Q) (qc : ∀ S fps ρ σ H Q, Ok K S fps ρ σ H → EPost K mg W S fps σ H (f3 ρ) Q → tc σ H Q)
    (ok : Ok K S fps ρ σ H) (h : EPost K mg W S fps σ H (eCh g g' f1 f2 f3 ρ) Q) : tChain r r' ta tb tc σ H Q := by
  unfold eCh at h
  refine qa S fps ρ σ H _ ok ?_
  cases e1 : f1 ρ with
  | stuck => rw [e1] at h; exact h
  | rs c => rw [e1] at h; exact h
  | ok a =>
    obtain ⟨d1, p1⟩ := a
    rw [e1] at h
    intro v1 fp1 S1 H1 g1 r1 n1 z1
    refine qb S1 fps ρ σ H1 _ (ok.grow g1) ?_
    cases e2 : f2 ρ with
    | stuck => rw [e2] at h; exact h
    | rs c => rw [e2] at h; exact EPost.rs h g1.same
    | ok b =>
      obtain ⟨d2, p2⟩ := b
      rw [e2] at h
      intro v2 fp2 S2 H2 g2 r2 n2 z2
      dsimp only [Res.bind] at h
      have there1 : ∀ a ∈ fp1, ∃ o, H1 a = some o := fun a ha => let ⟨_, _, _, q⟩ := r1.there a ha; ⟨_, q⟩
      have r1' : Rep K H2 (Reg S2 fps (p1 ++ p2)) v1 d1 fp1 := r1.same (Reg.mono g2.sub fun _ => List.mem_append_left _) g2.same
      have r2' : Rep K H2 (Reg S2 fps (p1 ++ p2)) v2 d2 fp2 := r2.same (Reg.mono (fun _ z => z) fun _ => List.mem_append_right _) (Same.refl _)
      cases e3 : g d1 d2 with
      | none => rw [e3] at h; exact h.elim
      | some d =>
        rw [e3] at h
        cases d with
        | bl kk =>
          refine hp H2 (Reg S2 fps (p1 ++ p2)) v1 v2 d1 d2 fp1 fp2 (.bl kk) _ r1' r2' (ap_nodup n1 n2 fun a ha hb => ?_) e3 fun v fp H3 s3 r3 n3 z3 => ?_
          · obtain ⟨o, e⟩ := there1 a ha
            rw [(z2 a hb).1] at e; cases e
          · cases r3
            refine ⟨kk, rfl, ?_⟩
            have gg : Grow S H S2 H3 := (g1.trans g2).trans ⟨s3, fun _ z => z, fun _ z => .inl z⟩
            cases kk with
            | false => exact h _ [] S2 H3 gg (.bl _) List.nodup_nil fun a z => by cases z
            | true =>
              dsimp only at h
              rw [if_pos rfl] at h
              rw [if_pos rfl]
              refine qc S2 fps ρ σ H3 _ (ok.grow gg) ?_
              cases e4 : f3 ρ with
              | stuck => rw [e4] at h; exact h
              | rs c => rw [e4] at h; exact EPost.rs h gg.same
              | ok c =>
                obtain ⟨d3, p3⟩ := c
                rw [e4] at h
                intro v3 fp3 S4 H4 g4 r4 n4 z4
                dsimp only at h
                cases e5 : g' d2 d3 with
                | none => rw [e5] at h; exact h.elim
                | some d' =>
                  rw [e5] at h
                  cases d' with
                  | bl k' =>
                    refine hp' H4 (Reg S4 fps (p2 ++ p3)) v2 v3 d2 d3 fp2 fp3 (.bl k') _ (r2.same (Reg.mono g4.sub fun _ => List.mem_append_left _) (s3.trans g4.same)) (r4.same (Reg.mono (fun _ z => z) fun _ => List.mem_append_right _) (Same.refl _)) (ap_nodup n2 n4 fun a ha hb => ?_) e5 fun v fp H5 s5 r5 n5 z5 => ?_
                    · obtain ⟨_, _, _, e⟩ := r2.there a ha
                      have e := s3 a _ e
                      rw [(z4 a hb).1] at e; cases e
                    · cases r5
                      exact h _ [] S4 H5 (gg.trans (g4.trans ⟨s5, fun _ z => z, fun _ z => .inl z⟩)) (.bl _) List.nodup_nil fun a z => by cases z
                  | _ => exact h.elim
        | _ => exact h.elim
theorem ve_chain {op op' : CmpOp} {r r' : R2} {g g' : D → D → Option D} {a b c : Expr} {f1 f2 f3 : Ev → Res (D × List Nat)} (ho : ∀ i, OpR (X i) (compareOp op) r) (ho' : ∀ i, OpR (X i) (compareOp op') r') (hp : Prim2 K r g) (hp' : Prim2 K r' g') (ha : VE K mg X a f1) (hb : VE K mg X b f2) (hc : VE K mg X c f3)
    (hm : lastMarks [op, op'] [b, c] = false := by with_unfolding_all rfl) : VE K mg X (.Compare a [op, op'] [b, c] pos) (eCh g g' f1 f2 f3) := by
  intro W tk
  obtain ⟨ta, pa, qa⟩ := ha W tk
  obtain ⟨tb, pb, qb⟩ := hb W tk
  obtain ⟨tc, pc, qc⟩ := hc W tk
  exact ⟨_, fun i => pe_chain (ho i) (ho' i) (pa i) (pb i) (pc i) hm, fun S fps ρ σ H Q ok h => chain_sem hp hp' qa qb qc ok h⟩
theorem vt_chain {op op' : CmpOp} {r r' : R2} {g g' : D → D → Option D} {a b c : Expr} {f1 f2 f3 : Ev → Res (D × List Nat)} (ho : ∀ i, OpR (X i) (compareOp op) r) (ho' : ∀ i, OpR (X i) (compareOp op') r') (hp : Prim2 K r g) (hp' : Prim2 K r' g') (ha : VE K mg X a f1) (hb : VE K mg X b f2) (hc : VE K mg X c f3)
    (hm : lastMarks [op, op'] [b, c] = false := by with_unfolding_all rfl) : VT K mg X (.Compare a [op, op'] [b, c] pos) (tVal (eCh g g' f1 f2 f3)) := by
  intro W tk
  obtain ⟨ta, pa, qa⟩ := ha W tk
  obtain ⟨tb, pb, qb⟩ := hb W tk
  obtain ⟨tc, pc, qc⟩ := hc W tk
  exact ⟨_, fun i => pt_chain (ho i) (ho' i) (pa i) (pb i) (pc i) hm, fun S fps ρ σ H Q ok h => tval_sem (fun S fps ρ σ H Q ok h => chain_sem hp hp' qa qb qc ok h) ok h⟩

/-! ### slices -/
def OPost (mg : Str → Option Value) (W : WX) (S : Addr → Prop) (σ : L2.St) (H : Hp) (r : Res (Option Int)) (Q : Option Int → Hp → Prop) : Prop :=
  match r with
  | .ok b => ∀ S' H', Grow S H S' H' → Q b H'
  | .rs c => ∀ C H', mg c = some (.ref C) → Same H H' → W (.ref C) none σ H'
  | .stuck => False
def VO (K : PySem.W.Frag) (mg : Str → Option Value) {ι : Type} (X : ι → Cx) (e : Option Expr) (f : Ev → Res (Option Int)) : Prop :=
  ∀ W, (∀ i, Takes (X i) W) → ∃ t, (∀ i, PO (X i) e t) ∧ ∀ S fps ρ σ H Q, Ok K S fps ρ σ H → OPost mg W S σ H (f ρ) Q → t σ H Q
def oN : Ev → Res (Option Int) := fun _ => .ok none
def oS (f : Ev → Res (D × List Nat)) : Ev → Res (Option Int) := fun ρ => (f ρ).bind fun a => match a.1 with
  | .int i => .ok (some i)
  | _ => .stuck
theorem vo_none : VO K mg X none oN := fun W tk => ⟨_, fun _ => po_none, fun S fps ρ σ H Q ok h => h S H Grow.refl⟩
theorem vo_some {e : Expr} {f : Ev → Res (D × List Nat)} (h : VE K mg X e f) : VO K mg X (some e) (oS f) := by
  intro W tk
  obtain ⟨t, p, q⟩ := h W tk
  refine ⟨_, fun i => po_some (p i), fun S fps ρ σ H Q ok h => ?_⟩
  unfold oS at h
  refine q S fps ρ σ H _ ok ?_
  cases e1 : f ρ with
  | stuck => rw [e1] at h; exact h
  | rs c => rw [e1] at h; exact h
  | ok a =>
    obtain ⟨d1, p1⟩ := a
    rw [e1] at h
    intro v1 fp1 S1 H1 g1 r1 n1 z1
    dsimp only [Res.bind] at h
    cases d1 with
    | int i => cases r1; exact ⟨i, rfl, h S1 H1 g1⟩
    | _ => exact h.elim
def cutD {α : Type} (xs : List α) (lo hi : Option Int) : List α := (xs.drop (HT.sIx xs.length 0 lo)).take (HT.sIx xs.length xs.length hi - HT.sIx xs.length 0 lo)
def gSl (d : D) (lo hi : Option Int) : Option D := match d with
  | .node _ .lst xs => some (.node true .lst (cutD xs lo hi))
  | .node false .tup xs => some (.node false .tup (cutD xs lo hi))
  | .str z => if z.length ≤ sizeLine then some (.str (cutS z lo hi)) else none
  | _ => none
def eSl (f : Ev → Res (D × List Nat)) (l h : Ev → Res (Option Int)) : Ev → Res (D × List Nat) := fun ρ =>
  (f ρ).bind fun a => (l ρ).bind fun lo => (h ρ).bind fun hi => match gSl a.1 lo hi with
    | some d => .ok (mk d a.2)
    | none => .stuck
def rSlAll (K : PySem.W.Frag) : V → Option Int → Option Int → Hp → VK → Prop := fun x lo hi H Q => rSlL K x lo hi H Q ∨ (rSlA K x lo hi H Q ∨ rSlS x lo hi H Q)
theorem sl_all {X : Cx} : SlR X (rSlAll X.K) := sl_list.or (sl_tupA.or sl_str)
theorem RepL.cut {R : Addr → Prop} {vs : List V} {ds : List D} {f : List Addr} {lo hi : Option Int} (l : RepL K H R vs ds f) : ∃ f', RepL K H R (cutV vs lo hi) (cutD ds lo hi) f' ∧ f'.Sublist f := by
  unfold cutV cutD
  rw [l.length]
  obtain ⟨f1, l1, s1⟩ := l.drop (HT.sIx ds.length 0 lo)
  obtain ⟨f2, l2, s2⟩ := l1.take (HT.sIx ds.length ds.length hi - HT.sIx ds.length 0 lo)
  exact ⟨f2, l2, s2.trans s1⟩
theorem slice_prim {R : Addr → Prop} {x : V} {d1 d : D} {f1 : List Addr} {lo hi : Option Int} {Q : VK} (r1 : Rep K H R x d1 f1) (n : f1.Nodup) (e : gSl d1 lo hi = some d)
    (h : ∀ v fp H', Same H H' → Rep K H' R v d fp → fp.Nodup → (∀ a ∈ fp, a ∈ f1 ∨ H a = none) → Q v H') : rSlAll K x lo hi H Q := by
  unfold gSl at e
  split at e
  · cases e
    obtain ⟨a, vs, f, rfl, hs, l, s⟩ := r1.sqL
    obtain ⟨f', l', s'⟩ := l.cut (lo := lo) (hi := hi)
    exact .inl ⟨a, vs, rfl, hs, fun p hp => newLst l' (n.sublist (s'.trans s)) (fun c hc => (s'.trans s).subset hc) h hp⟩
  · rename_i xs
    cases e
    obtain ⟨a, vs, f, rfl, hs, l, s⟩ := r1.sqT
    obtain ⟨f', l', s'⟩ := l.cut (lo := lo) (hi := hi)
    refine .inr (.inl ⟨a, vs, rfl, hs, fun ⟨h1, h2⟩ => ?_, fun _ p hp => newTup l' (n.sublist (s'.trans s)) (fun c hc => (s'.trans s).subset hc) h hp⟩)
    have ec : cutD xs lo hi = xs := by
      unfold cutD
      rw [l.length] at h1 h2
      rw [h1, h2, List.drop_zero, Nat.sub_zero, List.take_length]
    rw [ec] at h
    exact h _ f1 H (Same.refl _) r1 n fun a ha => .inl ha
  · split at e
    · cases e
      cases r1
      exact .inr (.inr ⟨_, rfl, by assumption, outS h⟩)
    · cases e
  · cases e
theorem ve_slice {e : Expr} {lo hi : Option Expr} {f : Ev → Res (D × List Nat)} {l u : Ev → Res (Option Int)} {p2 : Pos} (hF : Fam P w K mg base N k X) (he : VE K mg X e f) (hl : VO K mg X lo l) (hu : VO K mg X hi u) : VE K mg X (.Subscript e (.Slice lo hi none p2) pos) (eSl f l u) := by
  intro W tk
  obtain ⟨te, pe, qe⟩ := he W tk
  obtain ⟨tl, pl, ql⟩ := hl W tk
  obtain ⟨tu, pu, qu⟩ := hu W tk
  refine ⟨L2.tSl (rSlAll K) te tl tu, fun i => by have q := pe_slice (pos := pos) (p2 := p2) (sl_all (X := X i)) (pe i) (pl i) (pu i); rw [hF.kk i] at q; exact q, fun S fps ρ σ H Q ok h => ?_⟩
  unfold eSl at h
  refine qe S fps ρ σ H _ ok ?_
  cases e1 : f ρ with
  | stuck => rw [e1] at h; exact h
  | rs c => rw [e1] at h; exact h
  | ok a =>
    obtain ⟨d1, p1⟩ := a
    rw [e1] at h
    intro v1 fp1 S1 H1 g1 r1 n1 z1
    refine ql S1 fps ρ σ H1 _ (ok.grow g1) ?_
    cases e2 : l ρ with
    | stuck => rw [e2] at h; exact h
    | rs c => rw [e2] at h; exact EPost.rs h g1.same
    | ok lo' =>
      rw [e2] at h
      intro S2 H2 g2
      refine qu S2 fps ρ σ H2 _ ((ok.grow g1).grow g2) ?_
      cases e3 : u ρ with
      | stuck => rw [e3] at h; exact h
      | rs c => rw [e3] at h; exact EPost.rs h (g1.trans g2).same
      | ok hi' =>
        rw [e3] at h
        intro S3 H3 g3
        dsimp only [Res.bind] at h
        cases e4 : gSl d1 lo' hi' with
        | none => rw [e4] at h; exact h.elim
        | some d =>
          rw [e4] at h
          have g23 := g2.trans g3
          have gg := g1.trans g23
          refine slice_prim (r1.same (Reg.mono g23.sub fun _ z => z) g23.same) n1 e4 fun v fp H4 s4 r4 n4 z4 => ?_
          have none2 : ∀ a ∈ fp, H a = none ∧ ¬ S3 a := fun a ha => by
            rcases z4 a ha with q | q
            · refine ⟨(z1 a q).1, fun hs => ?_⟩
              rcases g23.new a hs with w | ⟨w, _⟩
              · exact (z1 a q).2 w
              · obtain ⟨_, _, _, e⟩ := r1.there a q
                rw [w] at e; cases e
            · refine ⟨gg.same.free q, fun hs => ?_⟩
              obtain ⟨o, e⟩ := (ok.grow gg).st a hs
              rw [q] at e; cases e
          exact Val.fin (K := K) h ⟨gg.same.trans s4, gg.sub, fun a hs => (gg.new a hs).imp id fun ⟨q, o⟩ => ⟨q, Same.dom s4 o⟩⟩ r4 n4 none2
end
end Py

set_option Elab.async false
set_option linter.all false
set_option maxRecDepth 100000
namespace Py
open PySem PySem.Spec L2 PyProof.Rows
section
variable {ι : Type} {X : ι → Cx} {P : Program} {w : World} {K : PySem.W.Frag} {mg : Str → Option Value} {base : Heap} {N : List Str} {k : Nat} {W : WX} {S S1 S' : Addr → Prop} {fps : Nat → List Addr} {ρ : Ev} {σ : L2.St} {H H1 H' : Hp} {Q : VK} {pos : Pos}

/-! ### list(range(..)), tuple(range(..)) -/
noncomputable def rgOk (a b : Int) : Bool := in62 a && (in62 b && decide ((b - a).toNat ≤ 2 ^ 24))
theorem rgOk_iff {a b : Int} (h : rgOk a b = true) : RgOk a b := by
  unfold rgOk at h
  simp only [Bool.and_eq_true, in62_iff, decide_eq_true_eq] at h
  exact ⟨h.1.1, h.1.2, h.2.1.1, h.2.1.2, h.2.2⟩
noncomputable def eRgL (t : Tg) (f1 f2 : Ev → Res (D × List Nat)) : Ev → Res (D × List Nat) := fun ρ =>
  (f1 ρ).bind fun a => (f2 ρ).bind fun b => match a.1, b.1 with
    | .int i, .int j => if rgOk i j = true then .ok (.node (!t.isT) t (rngI i (j - i).toNat), []) else .stuck
    | _, _ => .stuck
theorem rgV_rep {R : Addr → Prop} (a b : Int) : RepL K H R (rgV a b) (rngI a (b - a).toNat) [] := by
  have e1 : rgV a b = ((List.range (b - a).toNat).map fun i => a + ((i : Nat) : Int)).map V.int := by unfold rgV; rw [List.map_map]; rfl
  have e2 : rngI a (b - a).toNat = ((List.range (b - a).toNat).map fun i => a + ((i : Nat) : Int)).map D.int := by unfold rngI; rw [List.map_map]; rfl
  rw [e1, e2]
  exact RepL.ints
theorem rgL_new {t : Tg} (ht : t = .lst ∨ t = .tup) {i j : Int} {fps : Nat → List Addr} (g : Grow S H S1 H1) (ok1 : Ok K S1 fps ρ σ H1) (h : EPost K mg W S fps σ H (.ok (.node (!t.isT) t (rngI i (j - i).toNat), [])) Q) : ∀ q, H1 q = none → Q (.ref q) (upd H1 q (ho t (rgV i j))) := fun q hq => by
  have sm := same_upd (o := ho t (rgV i j)) hq
  have nS : ¬ S1 q := fun z => by obtain ⟨o, e⟩ := ok1.st q z; rw [hq] at e; cases e
  rcases ht with rfl | rfl
  · exact h (.ref q) [q] S1 _ (g.trans ⟨sm, fun _ z => z, fun _ z => .inl z⟩) (.own rfl trivial upd_same (rgV_rep i j)) (by simp) fun a ha => by
      obtain rfl : a = q := by simpa using ha
      exact ⟨g.same.free hq, nS⟩
  · exact h (.ref q) [] S1 _ (g.trans ⟨sm, fun _ z => z, fun _ z => .inl z⟩) (.tup upd_same (rgV_rep i j)) List.nodup_nil fun a z => by cases z
theorem rgL2_sem {t : Tg} (ht : t = .lst ∨ t = .tup) {f1 f2 : Ev → Res (D × List Nat)} {ta tb : TE} (qa : ∀ S fps ρ σ H Q, Ok K S fps ρ σ H → EPost K mg W S fps σ H (f1 ρ) Q → ta σ H Q) (qb : ∀ S fps ρ σ H Q, Ok K S fps ρ σ H → EPost K mg W S fps σ H (f2 ρ) Q → tb σ H Q)
    (ok : Ok K S fps ρ σ H) (h : EPost K mg W S fps σ H (eRgL t f1 f2 ρ) Q) : tRg2 ta tb σ H fun a b H1 => RgOk a b ∧ ∀ q, H1 q = none → Q (.ref q) (upd H1 q (ho t (rgV a b))) := by
  unfold eRgL at h
  refine qa S fps ρ σ H _ ok ?_
  cases e1 : f1 ρ with
  | stuck => rw [e1] at h; exact h
  | rs c => rw [e1] at h; exact h
  | ok a =>
    obtain ⟨d1, p1⟩ := a
    rw [e1] at h
    intro v1 fp1 S1 H1 g1 r1 n1 z1
    refine qb S1 fps ρ σ H1 _ (ok.grow g1) ?_
    cases e2 : f2 ρ with
    | stuck => rw [e2] at h; exact h
    | rs c => rw [e2] at h; exact EPost.rs h g1.same
    | ok b =>
      obtain ⟨d2, p2⟩ := b
      rw [e2] at h
      intro v2 fp2 S2 H2 g2 r2 n2 z2
      dsimp only [Res.bind] at h
      cases d1 with
      | int i =>
        cases d2 with
        | int j =>
          dsimp only at h
          split at h
          · rename_i hr
            cases r1
            cases r2
            exact ⟨i, j, rfl, rfl, rgOk_iff hr, rgL_new ht (g1.trans g2) ((ok.grow g1).grow g2) h⟩
          · exact h.elim
        | _ => exact h.elim
      | _ => exact h.elim
theorem rgL1_sem {t : Tg} (ht : t = .lst ∨ t = .tup) {f2 : Ev → Res (D × List Nat)} {tb : TE} (qb : ∀ S fps ρ σ H Q, Ok K S fps ρ σ H → EPost K mg W S fps σ H (f2 ρ) Q → tb σ H Q)
    (ok : Ok K S fps ρ σ H) (h : EPost K mg W S fps σ H (eRgL t (eK (.int 0)) f2 ρ) Q) : tRg1 tb σ H fun a b H1 => RgOk a b ∧ ∀ q, H1 q = none → Q (.ref q) (upd H1 q (ho t (rgV a b))) := by
  unfold eRgL eK at h
  refine qb S fps ρ σ H _ ok ?_
  cases e2 : f2 ρ with
  | stuck => rw [e2] at h; exact h
  | rs c => rw [e2] at h; exact h
  | ok b =>
    obtain ⟨d2, p2⟩ := b
    rw [e2] at h
    intro v2 fp2 S2 H2 g2 r2 n2 z2
    dsimp only [Res.bind] at h
    cases d2 with
    | int j =>
      dsimp only at h
      split at h
      · rename_i hr
        cases r2
        exact ⟨j, rfl, rgOk_iff hr, rgL_new ht g2 (ok.grow g2) h⟩
      · exact h.elim
    | _ => exact h.elim
theorem ve_listRg1 {b : Expr} {f2 : Ev → Res (D × List Nat)} {p p2 pos2 : Pos} (hF : Fam P w K mg base N k X) (hg : ∀ i, Gl (X i) "list") (hm : mg "list" = none) (hg2 : ∀ i, Gl (X i) "range") (hm2 : mg "range" = none) (hb : VE K mg X b f2)
    (na : ∀ i, starEach [.Call (.Name "range" p2) [b] [] pos2] (X i).env = (false, eval (.Call (.Name "range" p2) [b] [] pos2) (X i).env) :: starEach [] (X i).env := by intro _; rfl) (nb : ∀ i, starEach [b] (X i).env = (false, eval b (X i).env) :: starEach [] (X i).env := by intro _; rfl) :
    VE K mg X (.Call (.Name "list" p) [.Call (.Name "range" p2) [b] [] pos2] [] pos) (eRgL .lst (eK (.int 0)) f2) := by
  intro W tk
  obtain ⟨tb, pb, qb⟩ := hb W tk
  exact ⟨tLstRg (tRg1 tb), fun i => pe_listRg (hF.calm i) (hg i) (by rw [hF.mm i]; exact hm) (prg_1 (hg2 i) (by rw [hF.mm i]; exact hm2) (pb i) (nb i)) (na i), fun S fps ρ σ H Q ok h => rgL1_sem (.inl rfl) qb ok h⟩
theorem ve_listRg2 {a b : Expr} {f1 f2 : Ev → Res (D × List Nat)} {p p2 pos2 : Pos} (hF : Fam P w K mg base N k X) (hg : ∀ i, Gl (X i) "list") (hm : mg "list" = none) (hg2 : ∀ i, Gl (X i) "range") (hm2 : mg "range" = none) (ha : VE K mg X a f1) (hb : VE K mg X b f2)
    (na : ∀ i, starEach [.Call (.Name "range" p2) [a, b] [] pos2] (X i).env = (false, eval (.Call (.Name "range" p2) [a, b] [] pos2) (X i).env) :: starEach [] (X i).env := by intro _; rfl) (nb : ∀ i, starEach [a, b] (X i).env = (false, eval a (X i).env) :: starEach [b] (X i).env := by intro _; rfl) (nc : ∀ i, starEach [b] (X i).env = (false, eval b (X i).env) :: starEach [] (X i).env := by intro _; rfl) (hpl : ∀ i, (backTo pos2 (starEach [b] (X i).env)).any (·.1) = false := by intro _; rfl) :
    VE K mg X (.Call (.Name "list" p) [.Call (.Name "range" p2) [a, b] [] pos2] [] pos) (eRgL .lst f1 f2) := by
  intro W tk
  obtain ⟨ta, pa, qa⟩ := ha W tk
  obtain ⟨tb, pb, qb⟩ := hb W tk
  exact ⟨tLstRg (tRg2 ta tb), fun i => pe_listRg (hF.calm i) (hg i) (by rw [hF.mm i]; exact hm) (prg_2 (hg2 i) (by rw [hF.mm i]; exact hm2) (pa i) (pb i) (nb i) (nc i) (hpl i)) (na i), fun S fps ρ σ H Q ok h => rgL2_sem (.inl rfl) qa qb ok h⟩
theorem ve_tupRg1 {b : Expr} {f2 : Ev → Res (D × List Nat)} {p p2 pos2 : Pos} (hF : Fam P w K mg base N k X) (hg : ∀ i, Gl (X i) "tuple") (hm : mg "tuple" = none) (hg2 : ∀ i, Gl (X i) "range") (hm2 : mg "range" = none) (hb : VE K mg X b f2)
    (na : ∀ i, starEach [.Call (.Name "range" p2) [b] [] pos2] (X i).env = (false, eval (.Call (.Name "range" p2) [b] [] pos2) (X i).env) :: starEach [] (X i).env := by intro _; rfl) (nb : ∀ i, starEach [b] (X i).env = (false, eval b (X i).env) :: starEach [] (X i).env := by intro _; rfl) :
    VE K mg X (.Call (.Name "tuple" p) [.Call (.Name "range" p2) [b] [] pos2] [] pos) (eRgL .tup (eK (.int 0)) f2) := by
  intro W tk
  obtain ⟨tb, pb, qb⟩ := hb W tk
  exact ⟨tTupRg (tRg1 tb), fun i => pe_tupRg (hF.calm i) (hg i) (by rw [hF.mm i]; exact hm) (prg_1 (hg2 i) (by rw [hF.mm i]; exact hm2) (pb i) (nb i)) (na i), fun S fps ρ σ H Q ok h => rgL1_sem (.inr rfl) qb ok h⟩
theorem ve_tupRg2 {a b : Expr} {f1 f2 : Ev → Res (D × List Nat)} {p p2 pos2 : Pos} (hF : Fam P w K mg base N k X) (hg : ∀ i, Gl (X i) "tuple") (hm : mg "tuple" = none) (hg2 : ∀ i, Gl (X i) "range") (hm2 : mg "range" = none) (ha : VE K mg X a f1) (hb : VE K mg X b f2)
    (na : ∀ i, starEach [.Call (.Name "range" p2) [a, b] [] pos2] (X i).env = (false, eval (.Call (.Name "range" p2) [a, b] [] pos2) (X i).env) :: starEach [] (X i).env := by intro _; rfl) (nb : ∀ i, starEach [a, b] (X i).env = (false, eval a (X i).env) :: starEach [b] (X i).env := by intro _; rfl) (nc : ∀ i, starEach [b] (X i).env = (false, eval b (X i).env) :: starEach [] (X i).env := by intro _; rfl) (hpl : ∀ i, (backTo pos2 (starEach [b] (X i).env)).any (·.1) = false := by intro _; rfl) :
    VE K mg X (.Call (.Name "tuple" p) [.Call (.Name "range" p2) [a, b] [] pos2] [] pos) (eRgL .tup f1 f2) := by
  intro W tk
  obtain ⟨ta, pa, qa⟩ := ha W tk
  obtain ⟨tb, pb, qb⟩ := hb W tk
  exact ⟨tTupRg (tRg2 ta tb), fun i => pe_tupRg (hF.calm i) (hg i) (by rw [hF.mm i]; exact hm) (prg_2 (hg2 i) (by rw [hF.mm i]; exact hm2) (pa i) (pb i) (nb i) (nc i) (hpl i)) (na i), fun S fps ρ σ H Q ok h => rgL2_sem (.inr rfl) qa qb ok h⟩
/-- for .. in range(a, b, -1) -/
theorem vi_range3 {tg a b c : Expr} {f : Ev → Res (List D × List Nat)} {p : Pos} (hF : Fam P w K mg base N k X) (hg : ∀ i, Gl (X i) "range") (hm : mg "range" = none) (ha : VA K mg X [a, b, c] f) (hs : ∀ i, starEach [a, b, c] (X i).env = (false, eval a (X i).env) :: starEach [b, c] (X i).env := by intro _; rfl) (hpl : ∀ i, (backTo pos (starEach [b, c] (X i).env)).any (·.1) = false := by intro _; rfl)
    (h3 : ∀ ρ ds p, f ρ = .ok (ds, p) → ds.length = 3) : VI K mg X tg (.Call (.Name "range" p) [a, b, c] [] pos) (iRg f) := by
  intro W tk
  obtain ⟨t, pa, q⟩ := ha W tk
  refine ⟨_, fun i => pi_range3 (hg i) (by rw [hF.mm i]; exact hm) (pa i) (hs i) (hpl i), fun S fps ρ σ H R ok h => rg_sem q ok h fun ds xs vs fp S1 H1 p ef e r kq => ?_⟩
  have hl := h3 _ _ _ ef
  unfold rgItems at e
  split at e
  · cases hl
  · cases hl
  · split at e
    · cases e
      rename_i i j hj
      rw [Bool.and_eq_true, in62_iff, in62_iff] at hj
      exact ⟨i, j, -1, _, r.i3, RgC.neg hj.1.1 hj.1.2 hj.2.1 hj.2.2, kq _ walks_rngC⟩
    · cases e
  · cases e
theorem aCons_len {f : Ev → Res (D × List Nat)} {g : Ev → Res (List D × List Nat)} {n : Nat} (h : ∀ ρ ds p, g ρ = .ok (ds, p) → ds.length = n) : ∀ ρ ds p, aCons f g ρ = .ok (ds, p) → ds.length = n + 1 := by
  intro ρ ds p e
  unfold aCons at e
  cases e1 : f ρ with
  | stuck => rw [e1] at e; cases e
  | rs c => rw [e1] at e; cases e
  | ok a =>
    cases e2 : g ρ with
    | stuck => rw [e1, e2] at e; cases e
    | rs c => rw [e1, e2] at e; cases e
    | ok b =>
      rw [e1, e2] at e
      cases e
      rw [List.length_cons, h ρ b.1 b.2 e2]
theorem aNil_len : ∀ ρ ds p, aNil ρ = .ok (ds, p) → ds.length = 0 := by
  intro ρ ds p e
  cases e
  rfl

/-! ### {} -/
def eDK : Ev → Res (D × List Nat) := fun _ => .ok (.node true (.dK []) [], [])
def eDT : Ev → Res (D × List Nat) := fun _ => .ok (.node true (.dT []) [], [])
theorem new_sem {t : Tg} (ht : t.isT = false) (hw : t.wf 0) (ok : Ok K S fps ρ σ H) (h : EPost K mg W S fps σ H (.ok (.node true t [], [])) Q) : ∀ p, H p = none → Q (.ref p) (upd H p (ho t [])) := fun p hp =>
  h (.ref p) [p] S _ ⟨same_upd hp, fun _ z => z, fun _ z => .inl z⟩ (.own (vs := []) ht hw upd_same .nil) (by simp) fun a ha => by
    obtain rfl : a = p := by simpa using ha
    exact ⟨hp, fun z => by obtain ⟨o, e⟩ := ok.st a z; rw [hp] at e; cases e⟩
theorem ve_dnewK : VE K mg X (.Dict [] [] pos) eDK := fun W tk => ⟨_, fun _ => pe_dnewK, fun S fps ρ σ H Q ok h => new_sem (t := .dK []) rfl ⟨rfl, List.nodup_nil⟩ ok h⟩
theorem ve_dnewT : VE K mg X (.Dict [] [] pos) eDT := fun W tk => ⟨_, fun _ => pe_dnewT, fun S fps ρ σ H Q ok h => new_sem (t := .dT []) rfl ⟨rfl, List.nodup_nil⟩ ok h⟩

/-! ### x[k] = e -/
theorem RepL.set {R : Addr → Prop} : ∀ {vs : List V} {ds : List D} {f : List Addr} {j : Nat} {v : V} {d : D} {g : List Addr}, RepL K H R vs ds f → Rep K H R v d g → (f ++ g).Nodup → ∃ f', RepL K H R (vs.set j v) (ds.set j d) f' ∧ f'.Nodup ∧ ∀ a ∈ f', a ∈ f ++ g
  | _, _, _, j, v, d, g, .nil, _, n => ⟨[], .nil, List.nodup_nil, fun a z => by cases z⟩
  | _, _, _, 0, v, d, g, .cons (f := f) (g := g') h l, r, n => by
    refine ⟨g ++ g', .cons r l, ?_, fun a ha => ?_⟩
    · refine ap_nodup (List.nodup_append.mp n).2.1 (List.nodup_append.mp (List.nodup_append.mp n).1).2.1 fun a h1 h2 => ?_
      exact (List.nodup_append.mp n).2.2 a (List.mem_append_right _ h2) a h1 rfl
    · rcases List.mem_append.mp ha with z | z
      · exact List.mem_append_right _ z
      · exact List.mem_append_left _ (List.mem_append_right _ z)
  | _, _, _, j + 1, v, d, g, .cons (f := f) (g := g') h l, r, n => by
    have n' : (g' ++ g).Nodup := by
      rw [List.append_assoc] at n
      exact (List.nodup_append.mp n).2.1
    obtain ⟨f2, l2, n2, m2⟩ := RepL.set (j := j) l r n'
    refine ⟨f ++ f2, .cons h l2, ?_, fun a ha => ?_⟩
    · refine ap_nodup (List.nodup_append.mp (List.nodup_append.mp n).1).1 n2 fun a q1 q2 => ?_
      rw [List.append_assoc] at n
      exact (List.nodup_append.mp n).2.2 a q1 a (m2 a q2) rfl
    · rw [List.append_assoc]
      rcases List.mem_append.mp ha with z | z
      · exact List.mem_append_left _ z
      · exact List.mem_append_right _ (m2 a z)
/-- the container with one more, or another, item -/
def dstore (t : Tg) (xs : List D) (k v : D) : Option (Tg × List D) := match t with
  | .lst => match k with
    | .int i => (ixN xs.length i).map fun j => (.lst, xs.set j v)
    | _ => none
  | .tup => none
  | .dK ks => (dkey k).bind fun k => if xs.length < sizeLine then some (.dK (dput ks xs k v).1, (dput ks xs k v).2) else none
  | .dT ks => (tkey k).bind fun k => if xs.length < sizeLine then some (.dT (dput ks xs k v).1, (dput ks xs k v).2) else none
def sSub (i : Nat) (fk fe : Ev → Res (D × List Nat)) : List Nat → Ev → Out := fun lk ρ => match fe ρ with
  | .ok r => match ρ[i]? with
    | some (some ⟨.node true t xs, dp⟩) => match fk ρ with
      | .ok kk => match dstore t xs kk.1 r.1 with
        | some (t', xs') => if (lk.contains i || (dp ++ r.2).contains i) = true then .stuck else .nx (putE i (.node true t' xs', dp ++ r.2) ρ)
        | none => .stuck
      | .rs c => .rs c ρ
      | .stuck => .stuck
    | _ => .stuck
  | .rs c => .rs c ρ
  | .stuck => .stuck
def rSetAll : V → V → V → Hp → (Hp → Prop) → Prop := fun o i v H Q => rSetL o i v H Q ∨ rSetD o i v H Q
theorem set_all {X : Cx} (hu : X.A.units + 1 < cLine) : PSet X rSetAll := by
  intro pins s σ H o i v ov iv u Q I ro ri rv h
  rcases h with h | h
  · exact set_list pins s σ H o i v ov iv u Q I ro ri rv h
  · exact set_dict hu pins s σ H o i v ov iv u Q I ro ri rv h
theorem kput_nodup {κ : Type} [DecidableEq κ] {ks : List κ} {k : κ} (h : ks.Nodup) : (kput ks k).Nodup := by
  unfold kput
  split
  · exact h
  · rename_i hn
    exact List.nodup_append.mpr ⟨h, by simp, fun a ha b hb e => by
      obtain rfl : b = k := by simpa using hb
      exact hn (e ▸ ha)⟩
/-- what a store does to the heap and to its image -/
theorem store_rep {R R2 : Addr → Prop} {a : Addr} {t t' : Tg} {vs : List V} {xs xs' : List D} {f g : List Addr} {y v : V} {kd d : D} {fy : List Addr} (ha : H a = some (ho t vs)) (hw : t.wf vs.length) (l : RepL K H R vs xs f) (ry : Rep K H R2 y kd fy) (rv : Rep K H R v d g) (n : (f ++ g).Nodup) (e : dstore t xs kd d = some (t', xs')) :
    ∃ vs' f', RepL K H R vs' xs' f' ∧ f'.Nodup ∧ (∀ b ∈ f', b ∈ f ++ g) ∧ t'.isT = false ∧ t'.wf vs'.length ∧ ∀ Q : Hp → Prop, Q (upd H a (ho t' vs')) → rSetAll (.ref a) y v H Q := by
  have len := l.length
  cases t with
  | tup => cases e
  | lst =>
    unfold dstore at e
    dsimp only at e
    cases kd with
    | int i =>
      dsimp only at e
      cases ej : ixN xs.length i with
      | none => rw [ej] at e; cases e
      | some j =>
        rw [ej] at e
        cases e
        cases ry
        obtain ⟨f', l', n', m'⟩ := l.set (j := j) rv n
        exact ⟨_, f', l', n', m', rfl, trivial, fun Q q => .inl ⟨a, vs, i, j, rfl, rfl, ha, by rw [len, ej], q⟩⟩
    | _ => cases e
  | dK ks =>
    unfold dstore at e
    dsimp only at e
    cases ek : dkey kd with
    | none => rw [ek] at e; cases e
    | some k =>
      rw [ek] at e
      dsimp only [Option.bind] at e
      split at e
      · rename_i hz
        cases e
        obtain ⟨rfl, _⟩ := dkey_rep ry ek
        obtain ⟨ws, f', h1, h2, h3, h4, h5, h6⟩ := put_zip (k := k) l hw.1 hw.2 rv n
        refine ⟨ws, f', h3, h4, h5, rfl, ⟨h2, by rw [h6]; exact kput_nodup hw.2⟩, fun Q q => .inr ⟨a, _, rfl, .inl ⟨_, k, ha, rfl, ?_, rfl⟩, ?_⟩⟩
        · rw [List.length_zip, hw.1, Nat.min_self, len]; exact hz
        · rw [h1]; exact q
      · cases e
  | dT ks =>
    unfold dstore at e
    dsimp only at e
    cases ek : tkey kd with
    | none => rw [ek] at e; cases e
    | some k =>
      rw [ek] at e
      dsimp only [Option.bind] at e
      split at e
      · rename_i hz
        cases e
        obtain ⟨b, rfl, hb⟩ := tkey_rep ry ek
        obtain ⟨ws, f', h1, h2, h3, h4, h5, h6⟩ := put_zip (k := k) l hw.1 hw.2 rv n
        refine ⟨ws, f', h3, h4, h5, rfl, ⟨h2, by rw [h6]; exact kput_nodup hw.2⟩, fun Q q => .inr ⟨a, _, rfl, .inr ⟨_, k, b, ha, rfl, hb, ?_, rfl⟩, ?_⟩⟩
        · rw [List.length_zip, hw.1, Nat.min_self, len]; exact hz
        · rw [h1]; exact q
      · cases e
theorem vs_sub {i : Nat} {x : Str} {xp spos : Pos} {ek e : Expr} {fk fe : Ev → Res (D × List Nat)} (hF : Fam P w K mg base N k X) (hk : VE K mg X ek fk) (he : VE K mg X e fe)
    (hN : ∀ i', (X i').N[i]? = some x := by intro _; rfl) (hv : ∀ i, Vis (X i).env.scope x := by intro _; first | exact Or.inl rfl | exact Or.inr (Or.inl rfl) | exact Or.inr (Or.inr rfl)) (hd : (x == ("__debug__" : Str)) = false := by decide) (hcd : (x == ("__classdict__" : Str)) = false := by decide)
    (ha : ∀ i v, assign (.Subscript (.Name x xp) ek spos) (X i).env v = (do
      let ov ← holding [v] (eval (.Name x xp) (X i).env)
      let iv ← holding [v, ov] (eval ek (X i).env)
      standAt spos
      holding [v, ov, iv] (setItem ov iv v)
      release [v, ov, iv] []) := by intro _ _; rfl)
    (hs : ∀ i, swapsWithSole [.Subscript (.Name x xp) ek spos] e pos.line (X i).env = pure false := by intro _; rfl) (hw : ∀ i, swappedStores [.Subscript (.Name x xp) ek spos] e (X i).env = pure none := by intro _; rfl)
    (h1 : ∀ i, (assignEach [.Subscript (.Name x xp) ek spos] (X i).env).map (·.2) = [assign (.Subscript (.Name x xp) ek spos) (X i).env] := by intro _; rfl) :
    VS K mg X (.Assign [.Subscript (.Name x xp) ek spos] e pos) (sSub i fk fe) := by
  intro W tk
  obtain ⟨te, pe, qe⟩ := he W tk
  obtain ⟨tk', pk, qk⟩ := hk W tk
  refine ⟨tAsg te (L2.gSub (tVar i) tk' rSetAll), fun i' => ps_asg (pe i') (pg_sub (pe_var (hN i') (hv i') hd hcd) (pk i') (set_all (by have := (hF.room i').un; omega)) (ha i')) (hs i') (hw i') (h1 i'), fun lk S fps ρ σ H E ok h => ?_⟩
  unfold sSub at h
  refine qe S fps ρ σ H _ ok ?_
  cases e1 : fe ρ with
  | stuck => rw [e1] at h; exact h.elim
  | rs c => rw [e1] at h; exact rs_grow ok h
  | ok r =>
    rw [e1] at h
    intro v fv S1 H1 g1 rv nv zv
    dsimp only at h
    have ok1 := ok.grow g1
    revert h
    split
    · rename_i t xs dp e3
      intro h
      obtain ⟨a, vs, f0, hσ, ha', ht, hw', rl, hi⟩ := ok.mine e3
      refine ⟨.ref a, hσ, ?_⟩
      refine qk S1 fps ρ σ H1 _ ok1 ?_
      cases e2 : fk ρ with
      | stuck => rw [e2] at h; exact h.elim
      | rs c => rw [e2] at h; exact EPost.rs (rs_grow ok h) g1.same
      | ok kk =>
        rw [e2] at h
        dsimp only at h
        intro y fy S2 H2 g2 ry ny zy
        cases e4 : dstore t xs kk.1 r.1 with
        | none => rw [e4] at h; exact h.elim
        | some p =>
          obtain ⟨t', xs'⟩ := p
          rw [e4] at h
          dsimp only at h
          split at h
          · exact h.elim
          · rename_i hc
            simp only [Bool.or_eq_true, not_or, List.contains_eq_mem, List.mem_append, decide_eq_true_eq] at hc
            obtain ⟨hlk, hd1, hd2⟩ := hc
            have gg := g1.trans g2
            have ok2 := ok.grow gg
            have ha2 := gg.same a _ ha'
            have rl2 : RepL K H2 (Reg S2 fps (dp ++ r.2)) vs xs f0 := rl.same (Reg.mono gg.sub fun _ => List.mem_append_left _) gg.same
            have rv2 : Rep K H2 (Reg S2 fps (dp ++ r.2)) v r.1 fv := rv.same (Reg.mono g2.sub fun _ => List.mem_append_right _) g2.same
            have old : ∀ b, (∃ o, H b = some o) → b ∉ fv := fun b ⟨o, q⟩ z => by rw [(zv b z).1] at q; cases q
            have nd : (a :: (f0 ++ fv)).Nodup := cons_nodup (hi ▸ ok.nd i) nv (old a ⟨_, ha'⟩) fun b hb => old b (rl.dom b hb)
            obtain ⟨vs', f', l', n', m', ht', hwf, put⟩ := store_rep ha2 hw' rl2 ry rv2 (List.nodup_cons.mp nd).2 e4
            refine put _ ?_
            have nS : ∀ b ∈ fv, ¬ S2 b := fun b z hs => by
              rcases g2.new b hs with w | ⟨w, _⟩
              · exact (zv b z).2 w
              · obtain ⟨_, _, _, e⟩ := rv.there b z
                rw [w] at e; cases e
            obtain ⟨S', fps', ok3, st3⟩ := put_ok (lk := lk) ok gg e3 hσ hi ha2 ht hd1 ht' hwf l' (fun z => (List.mem_append.mp z).elim hd1 hd2) (List.nodup_cons.mpr ⟨fun z => (List.nodup_cons.mp nd).1 (m' a z), n'⟩) (fun b hb => (List.mem_append.mp (m' b hb)).imp id fun z => ⟨(zv b z).1, nS b z⟩) hlk
            exact h S' fps' σ _ st3 ok3
    · intro h; exact h.elim
end
end Py

set_option Elab.async false
set_option linter.all false
set_option maxRecDepth 100000
/-! sets of ints that are made of a list, and sorted at once -/
namespace Py
open PySem PySem.Spec L2 PyProof.Rows
/-- put in its place, once -/
def insS (x : Int) : List Int → List Int
  | [] => [x]
  | y :: r => if x < y then x :: y :: r else if x = y then y :: r else y :: insS x r
def sset : List Int → List Int
  | [] => []
  | x :: r => insS x (sset r)
theorem mem_insS {x k : Int} : ∀ {l : List Int}, k ∈ insS x l ↔ k = x ∨ k ∈ l
  | [] => by simp [insS]
  | y :: r => by
    unfold insS
    split
    · simp
    · split
      · rename_i h; subst h; simp
      · simp only [List.mem_cons, mem_insS (l := r)]
        constructor
        · rintro (h | h | h)
          · exact .inr (.inl h)
          · exact .inl h
          · exact .inr (.inr h)
        · rintro (h | h | h)
          · exact .inr (.inl h)
          · exact .inl h
          · exact .inr (.inr h)
theorem mem_sset {k : Int} : ∀ {l : List Int}, k ∈ sset l ↔ k ∈ l
  | [] => by simp [sset]
  | x :: r => by rw [sset, mem_insS, mem_sset (l := r), List.mem_cons]
theorem insS_lt {x : Int} : ∀ {l : List Int}, l.Pairwise (· < ·) → (insS x l).Pairwise (· < ·)
  | [], _ => by simp [insS]
  | y :: r, h => by
    obtain ⟨h1, h2⟩ := List.pairwise_cons.mp h
    unfold insS
    split
    · rename_i hx
      refine List.pairwise_cons.mpr ⟨fun z hz => ?_, h⟩
      rcases List.mem_cons.mp hz with rfl | hz
      · exact hx
      · have := h1 z hz; omega
    · split
      · exact h
      · refine List.pairwise_cons.mpr ⟨fun z hz => ?_, insS_lt h2⟩
        rcases mem_insS.mp hz with rfl | hz
        · omega
        · exact h1 z hz
theorem sset_lt : ∀ l : List Int, (sset l).Pairwise (· < ·)
  | [] => List.Pairwise.nil
  | x :: r => insS_lt (sset_lt r)
theorem lt_unique : ∀ {l l' : List Int}, l.Pairwise (· < ·) → l'.Pairwise (· < ·) → (∀ k, k ∈ l ↔ k ∈ l') → l = l'
  | [], [], _, _, _ => rfl
  | [], y :: r, _, _, h => by have := (h y).mpr List.mem_cons_self; cases this
  | x :: r, [], _, _, h => by have := (h x).mp List.mem_cons_self; cases this
  | x :: r, y :: s, h1, h2, h => by
    obtain ⟨a1, a2⟩ := List.pairwise_cons.mp h1
    obtain ⟨b1, b2⟩ := List.pairwise_cons.mp h2
    have exy : x = y := by
      rcases List.mem_cons.mp ((h x).mp List.mem_cons_self) with e | e
      · exact e
      · rcases List.mem_cons.mp ((h y).mpr List.mem_cons_self) with e' | e'
        · exact e'.symm
        · have := b1 x e; have := a1 y e'; omega
    subst exy
    rw [lt_unique (l := r) (l' := s) a2 b2 fun k => ⟨fun hk => ?_, fun hk => ?_⟩]
    · rcases List.mem_cons.mp ((h k).mp (List.mem_cons_of_mem _ hk)) with e | e
      · have := a1 k hk; omega
      · exact e
    · rcases List.mem_cons.mp ((h k).mpr (List.mem_cons_of_mem _ hk)) with e | e
      · have := b1 k hk; omega
      · exact e
theorem insS_le {x : Int} : ∀ l : List Int, (insS x l).length ≤ l.length + 1
  | [] => by simp [insS]
  | y :: r => by
    unfold insS
    split
    · simp
    · split
      · simp
      · have := insS_le (x := x) r; simp; omega
theorem sset_le : ∀ l : List Int, (sset l).length ≤ l.length
  | [] => by simp [sset]
  | x :: r => by have := insS_le (x := x) (sset r); have := sset_le r; rw [sset, List.length_cons]; omega
section
variable {P : Program} {w : World} {A : Around} {E : Value → Shared → Prop} {s : Shared}
set_option maxHeartbeats 3200000 in
/-- set(a list of ints), with the order kept in the table -/
theorem set_lst {l : Addr} {its : Array Value} (ns : List Int) {Q : Value → Shared → Prop} (hA : A.handled = none) (hL : s.heap.IsList l its) (hI : IntsAre its.toList ns) (hB : ns.length + 1 < scanBound)
    (fin : ∀ (g : Heap) (tk c : Nat), SetR w g s.heap.objs.size (fun j => decide (j ∈ ns)) c → c ≤ ns.length → (∀ b o, s.heap.get? b = some o → g.get? b = some o) → Q (.ref s.heap.objs.size) { s with heap := g, toks := tk }) :
    wpAny (model P w) A (call (.type "set") [.ref l]) Q E s := by
  have hn : its.size = ns.length := by
    have q := IntsAre.length hI
    rwa [Array.length_toList] at q
  obtain ⟨c0, tl0, m0⟩ := F.called_set.mro
  have m1 := F.called_set.made
  have m2 := F.called_set.sub
  refine wpAny_call (codeAny_of_tree ?_)
  show wpAny _ _ (callAny (.type "set") _) _ _ _
  refine wpAny_pure ⟨Code.quiet_builtin _ (by decide +kernel), codeAny_builtin F.entry_type_call ?_⟩
  rw [Around.under_plain (weight_type_call_type "set" [.ref l] []) rfl]
  have k1 := F.called_set.notType
  have k2 := F.called_set.canCreate
  have k3 := F.typeCall_set_1 (.ref l)
  repeat (any_goals (first | assumption | wp_step))
  refine codeAny_mono (code_set_led1 (.ref l) (E := E) (Q₁ := fun ob s1 => ob = .ref s.heap.objs.size ∧ s1 = { s with heap := s.heap.push { cls := .type "set", dict := none, data := .set #[] 0 (.fresh 0 0 (!w.params.followText "set-order")) } }) ⟨rfl, rfl⟩) fun r s1 hr => ?_
  cases r with
  | error e => exact hr
  | ok fl =>
    cases fl with
    | ret ob =>
      obtain ⟨rfl, rfl⟩ := hr
      have hS : (s.heap.push { cls := .type "set", dict := none, data := .set #[] 0 (.fresh 0 0 (!w.params.followText "set-order")) }).get? s.heap.objs.size = some { cls := .type "set", dict := none, data := .set #[] 0 (.fresh 0 0 (!w.params.followText "set-order")) } := Heap.get?_push_size _ rfl
      have hT : Shared.TypeIs { s with heap := s.heap.push { cls := .type "set", dict := none, data := .set #[] 0 (.fresh 0 0 (!w.params.followText "set-order")) } } (.ref s.heap.objs.size) "set" := ⟨_, hS, rfl⟩
      have q1 := F.called_set.init.lookup
      have q2 := F.called_set.init.bind (.ref s.heap.objs.size)
      repeat (any_goals (first | assumption | wp_step))
      refine codeAny_mono (codeAny_call_builtin (R := wants (fun r s2 => r = .none ∧ ∃ g tk c, s2 = { s with heap := g, toks := tk } ∧ SetR w g s.heap.objs.size (fun j => decide (j ∈ ns)) c ∧ c ≤ ns.length ∧
          (∀ b o, s.heap.get? b = some o → g.get? b = some o)) E) F.called_set.init.plain F.entry_set_init (check_set_init_1 hT ?_)) fun r2 s2 hr2 => ?_
      · obtain ⟨ol, hol, hcl, nl, hdl⟩ := hL
        obtain ⟨oc, od, odt, osl⟩ := ol
        simp only at hcl hdl
        subst hcl; subst hdl
        have hol' : (s.heap.push { cls := .type "set", dict := none, data := .set #[] 0 (.fresh 0 0 (!w.params.followText "set-order")) }).get? l = some { cls := .type "list", dict := od, data := .seq its nl, slots := osl } := Heap.get?_push_of_some _ hol
        have u1 := F.sub_list_set
        have u2 := F.sub_list_frozenset
        have u3 : (Value.type "list" == Value.type "dict") = false := by decide
        have hl1 : (s.heap.push { cls := .type "set", dict := none, data := .set #[] 0 (.fresh 0 0 (!w.params.followText "set-order")) }).IsList l its := ⟨_, hol', rfl, nl, rfl⟩
        unfold Builtin.«set.__init__» noKeywords Builtin.Frozenset.updateFrom
        generalize hPI : pyIter = PI
        wp_walk
        subst hPI
        refine wpAny_pyIter_list hl1 ?_
        refine wpAny_bind (wpAny_runValue ?_)
        have hlS : l < s.heap.objs.size := Heap.lt_size hol
        have hA3 : A.in1.in1.in1.handled = none := by simp [hA]
        have hsz : (s.heap.push { cls := .type "set", dict := none, data := .set #[] 0 (.fresh 0 0 (!w.params.followText "set-order")) }).objs.size = s.heap.objs.size + 1 := Heap.size_push ..
        have hneI : l ≠ (s.heap.push { cls := .type "set", dict := none, data := .set #[] 0 (.fresh 0 0 (!w.params.followText "set-order")) }).objs.size := by rw [hsz]; exact Nat.ne_of_lt (Nat.lt_succ_of_lt hlS)
        have hSf : s.heap.objs.size ∉ [(s.heap.push { cls := .type "set", dict := none, data := .set #[] 0 (.fresh 0 0 (!w.params.followText "set-order")) }).objs.size, l] := by
          rw [hsz]
          simp only [List.mem_cons, List.not_mem_nil, or_false, not_or]
          exact ⟨Nat.ne_of_lt (Nat.lt_succ_self _), Nat.ne_of_gt hlS⟩
        refine set_update_ints ((Walks.list hA3 _ l hneI its).toS) s.heap.objs.size hSf ns hn hB (fun i v hv => ?_) (its.size - 0) 0 _ (by omega) (Nat.zero_le _)
          ⟨⟨_, Heap.get?_push_size _ rfl, rfl, rfl⟩, (hl1.push _)⟩ ⟨0, Nat.le_refl 0, setR_new_at (Heap.get?_push_of_some _ hS)⟩ fun s' c' hm hc' hS' => ?_
        · have hi : i < ns.length := by rw [← hn]; exact (Array.getElem?_eq_some_iff.mp hv).1
          obtain ⟨t, e⟩ := PyProof.Rows.IntsAre.int_at hI i v (by rw [Array.getElem?_toList]; exact hv)
          refine ⟨ns[i], t, List.getElem?_eq_getElem hi, ?_⟩
          rw [e, List.getD_eq_getElem?_getD, List.getElem?_eq_getElem hi] <;> rfl
        · obtain ⟨g, g2, d', tk', os'⟩ := s'
          have eg : g2 = s.gens := hm.gens
          have ed : d' = s.drawn := hm.drawn
          have eo : os' = s.os := hm.os
          subst eg; subst ed; subst eo
          show wpAny _ _ _ _ _ _
          refine wpAny_pure ?_
          show wpAny _ _ (ret Value.none) _ _ _
          rw [hn] at hc'
          refine wpAny_pure ⟨rfl, g, tk', c', rfl, hS', hc', fun b o e => ?_⟩
          have hb0 : b < s.heap.objs.size := Heap.lt_size e
          refine hm.heap b o ?_ (Heap.get?_push_of_some _ (Heap.get?_push_of_some _ e))
          rw [hsz]
          simp only [List.mem_cons, List.not_mem_nil, or_false, not_or]
          exact ⟨Nat.ne_of_lt hb0, Nat.ne_of_lt (Nat.lt_succ_of_lt hb0)⟩
      · cases r2 with
        | error e => exact hr2
        | ok fl2 =>
          cases fl2 with
          | ret r =>
            obtain ⟨rfl, g, tk, c', rfl, hS', hc', hk'⟩ := hr2
            repeat (any_goals (first | assumption | wp_step))
            exact fin _ _ _ hS' hc' hk'
          | _ => exact hr2.elim
    | _ => exact hr.elim
/-- sorted(a set of ints), any number -/
theorem sorted_setA {a : Addr} {S : Int → Bool} {n : Nat} {Q : Value → Shared → Prop} (R : SetR w s.heap a S n) (hA : A.handled = none)
    (fin : ∀ s' p (out : Array Value) (c : Nat) (ns : List Int), (∀ b o, s.heap.get? b = some o → s'.heap.get? b = some o) → s'.gens = s.gens → s'.os = s.os → s.heap.objs.size ≤ p →
      s'.heap.get? p = some (seqObj "list" out c) → IntsAre out.toList ns → ns.Pairwise (· < ·) → (∀ k, k ∈ ns ↔ S k = true) → ns.length = n → Q (.ref p) s') :
    wpAny (model P w) A (call (.builtin "sorted") [.ref a]) Q E s := by
  obtain ⟨o, es, ep, t, ho, hex, hd, g, nd, hm, hb, hf, hn, hr, hl⟩ := R
  have hz0 : es.size ≤ sizeLine := by
    have := hb
    rw [sizeLine_eq]; unfold scanBound at this; omega
  refine Calls.call_function_entry kind_sorted plain_sorted entry_sorted (args_sorted1 _) ?_
  unfold Builtin.«sorted»
  refine wpAny_bind (m := checkCount "sorted" 1 1 _) (wpAny_pure ?_)
  refine wpAny_bind (collect_set (A := A.in1) hA ⟨o, ho, hex.1, hd⟩ hf hb hr hl fun s1 vs k1 hz g1 o1 pm => ?_)
  have hvl : vs.length = n := by rw [pm.length_eq, List.length_map, Array.length_toList]; exact hn
  have hI : IntsAre vs (vs.map Builtin.Re.reRawOf) := ints_of vs fun v hv => by
    obtain ⟨e, he, q⟩ := List.mem_map.mp (pm.mem_iff.mp hv)
    obtain ⟨k, tk, h1, _⟩ := g e he
    exact ⟨k, tk, by rw [← q]; exact h1⟩
  have pk : (vs.map Builtin.Re.reRawOf).Perm (es.toList.map keyOf) := by
    have q := pm.map Builtin.Re.reRawOf
    rw [List.map_map] at q
    exact q
  have hvz : vs.length ≤ sizeLine := by rw [hvl, ← hn]; exact hz0
  refine wpAny_bind (wpAny_newList ?_ hvz)
  have hoL : (s1.heap.push (seqObj "list" vs.toArray 0)).get? s1.heap.objs.size = some (seqObj "list" vs.toArray 0) := Heap.get?_push_size _ rfl
  refine wpAny_bind (wpAny_holding (wpAny_call_entry slot_list_sort ⟨_, hoL, rfl⟩ entry_list_sort (list_sort_treeAny hoL hI hvz fun out ns' a1 a2 a3 => ⟨_, rfl, ?_⟩) (args_list_sort _)))
  obtain ⟨c, hc⟩ := sortedHeap_at (vs := vs) (out := out) hoL
  have pn : ns'.Perm (es.toList.map keyOf) := a2.trans pk
  refine wpAny_pure ⟨_, rfl, fin _ s1.heap.objs.size out c ns' (fun b u e => ?_) g1 o1 hz hc a1 (lt_of_le_nodup ns' a3 (pn.nodup_iff.mpr nd)) (fun k => by rw [pn.mem_iff, ← hm k]) ?_⟩
  · have hlt := Heap.lt_size (k1 b u e)
    show (sortedHeap (s1.heap.push (seqObj "list" vs.toArray 0)) s1.heap.objs.size vs out).get? b = some u
    rw [sortedHeap_old (Nat.ne_of_lt hlt) (by rw [size_push']; exact Nat.lt_succ_of_lt hlt)]
    exact Heap.get?_push_of_some _ (k1 b u e)
  · rw [pn.length_eq, List.length_map, Array.length_toList]; exact hn
end
end Py

set_option Elab.async false
set_option linter.all false
set_option maxRecDepth 100000
namespace Py
open PySem PySem.Spec L2 PyProof.Rows
def tSortSet (K : PySem.W.Frag) (ta : TE) : TE := fun σ H Q => ta σ H fun x H1 => ∃ l ns, x = V.ref l ∧ SqL K H1 l (ns.map V.int) ∧ ns.length ≤ 4000 ∧ ∀ p, H1 p = none → Q (.ref p) (upd H1 p (.lst ((sset ns).map V.int)))
def tLenSt (K : PySem.W.Frag) (ta : TE) : TE := fun σ H Q => ta σ H fun x H1 => ∃ l ns, x = V.ref l ∧ SqL K H1 l (ns.map V.int) ∧ ns.length ≤ 4000 ∧ Q (.int ((sset ns).length : Nat)) H1
theorem setR_len {w : World} {h : Heap} {a : Addr} {ns : List Int} {n : Nat} (R : SetR w h a (fun j => decide (j ∈ ns)) n) : n = (sset ns).length := by
  obtain ⟨o, es, ep, t, ho, hex, hd, g, nd, hm, hb, hf, hn, hr, hl⟩ := R
  have nd2 : (sset ns).Nodup := (sset_lt ns).imp fun h e => by omega
  have p : (es.toList.map keyOf).Perm (sset ns) := (List.perm_ext_iff_of_nodup nd nd2).mpr fun k => by rw [← hm k, mem_sset]; simp
  have := p.length_eq
  rw [List.length_map, Array.length_toList] at this
  omega
section
variable {X : Cx} {a : Expr} {ta : TE} {p p2 q pos : Pos}
theorem pe_sortedSet (hc : X.calm = true) (hg : Gl X "sorted") (hm : X.mg "sorted" = none) (hg2 : Gl X "set") (hm2 : X.mg "set" = none) (ha : PE X a ta)
    (na : starEach [a] X.env = (false, eval a X.env) :: starEach [] X.env := by rfl) : PE X (.Call (.Name "sorted" p) [.Call (.Name "set" p2) [a] [] q] [] pos) (tSortSet X.K ta) := by
  refine ⟨fun pins s σ H Q I h => ?_⟩
  refine Call_ (ld_blt I hg hm boot_sorted ?_)
  refine PyProof.Rows.callWith_builtin1 (PyProof.Rows.args_cons ?_ rfl) rfl rfl
  refine Call_ (ld_blt I hg2 hm2 PyProof.Rows.boot_set ?_)
  refine PyProof.Rows.callWith_type1 (PyProof.Rows.args_cons (thn (ha.run pins s σ H _ I h) fun v s1 ⟨x, H1, I1, r1, q1⟩ => PyProof.Rows.args_nil ?_) na) na rfl
  obtain ⟨l, ns, rfl, hq, hz, q1⟩ := q1
  cases r1
  obtain ⟨its, rv, pl, hz2⟩ := I1.list hq
  refine set_lst ns (I1.ok.hd hc) pl.isList (by simpa using rv.ints) (by unfold scanBound; omega) fun g tk c R hcn hk => ?_
  refine PyProof.Rows.args_nil ?_
  have I2 : Inv X pins σ H1 { s1 with heap := g, toks := tk } := I1.kept hk
  refine sorted_setA R (I2.ok.hd hc) fun s' p out c' ns' k gn o hp hgp hi hs hms hl => ?_
  have e1 : ns' = sset ns := lt_unique hs (sset_lt ns) fun k => by rw [hms k, mem_sset]; simp
  subst e1
  have hlen : ((sset ns).map V.int).length ≤ sizeLine := by have := sset_le ns; rw [List.length_map, sizeLine_eq]; omega
  have hn : H1 p = none := I2.hok.fresh hp
  have J : Inv X pins σ (upd H1 p (.lst ((sset ns).map V.int))) { s1 with heap := s'.heap, gens := s'.gens, drawn := s'.drawn, toks := s'.toks } :=
    Inv.call (s := { s1 with heap := g, toks := tk }) I2 (ch := []) (Un.laid k hp hn) (I2.hok.laid k hp ⟨hlen, out.toList, c', vals_of_ints hi, hgp⟩) (by rw [gn]; exact I2.bare) (fun _ z => nomatch z)
  have e : s' = { s1 with heap := s'.heap, gens := s'.gens, drawn := s'.drawn, toks := s'.toks } := by
    cases s'
    cases s1
    cases o
    rfl
  rw [e]
  exact ⟨.ref p, _, J, rfl, q1 p hn⟩
theorem pe_lenSt (hc : X.calm = true) (hg : Gl X "len") (hm : X.mg "len" = none) (hg2 : Gl X "set") (hm2 : X.mg "set" = none) (ha : PE X a ta)
    (na : starEach [a] X.env = (false, eval a X.env) :: starEach [] X.env := by rfl) : PE X (.Call (.Name "len" p) [.Call (.Name "set" p2) [a] [] q] [] pos) (tLenSt X.K ta) := by
  refine ⟨fun pins s σ H Q I h => ?_⟩
  refine Call_ (ld_blt I hg hm boot_len ?_)
  refine PyProof.Rows.callWith_builtin1 (PyProof.Rows.args_cons ?_ rfl) rfl rfl
  refine Call_ (ld_blt I hg2 hm2 PyProof.Rows.boot_set ?_)
  refine PyProof.Rows.callWith_type1 (PyProof.Rows.args_cons (thn (ha.run pins s σ H _ I h) fun v s1 ⟨x, H1, I1, r1, q1⟩ => PyProof.Rows.args_nil ?_) na) na rfl
  obtain ⟨l, ns, rfl, hq, hz, q1⟩ := q1
  cases r1
  obtain ⟨its, rv, pl, hz2⟩ := I1.list hq
  refine set_lst ns (I1.ok.hd hc) pl.isList (by simpa using rv.ints) (by unfold scanBound; omega) fun g tk c R hcn hk => ?_
  refine PyProof.Rows.args_nil ?_
  have I2 : Inv X pins σ H1 { s1 with heap := g, toks := tk } := I1.kept hk
  have hc := setR_len R
  obtain ⟨o, es, ep, t, ho, hex, hd, _, _, _, _, hf, hn, _⟩ := R
  exact call_len_set ho hex hd hf (by omega) ⟨.int ((sset ns).length : Nat), H1, I2.tok _, ⟨_, by rw [hn, hc]⟩, q1⟩
end
section
variable {ι : Type} {X : ι → Cx} {P : Program} {w : World} {K : PySem.W.Frag} {mg : Str → Option Value} {base : Heap} {N : List Str} {k : Nat} {W : WX} {S S1 S' : Addr → Prop} {fps : Nat → List Addr} {ρ : Ev} {σ : L2.St} {H H1 H' : Hp} {Q : VK} {p p2 q pos : Pos}
def gSS : D → Option D
  | .node _ .lst xs => (intL xs).bind fun ns => if ns.length ≤ 4000 then some (.node true .lst ((sset ns).map D.int)) else none
  | _ => none
def gLS : D → Option D
  | .node _ .lst xs => (intL xs).bind fun ns => if ns.length ≤ 4000 then some (.int ((sset ns).length : Nat)) else none
  | _ => none
theorem prim_ss : Prim1 K (fun x H1 Q => ∃ l ns, x = V.ref l ∧ SqL K H1 l (ns.map V.int) ∧ ns.length ≤ 4000 ∧ ∀ p, H1 p = none → Q (.ref p) (upd H1 p (.lst ((sset ns).map V.int)))) gSS := by
  intro H R x d1 f1 d Q r1 n e h
  unfold gSS at e
  split at e
  · rename_i xs
    cases e1 : intL xs with
    | none => rw [e1] at e; cases e
    | some ns =>
      rw [e1] at e
      dsimp only [Option.bind] at e
      split at e
      · cases e
        obtain ⟨a, rfl, hs⟩ := r1.intsL e1
        exact ⟨a, ns, rfl, hs, by assumption, fun p hp => newLst RepL.ints List.nodup_nil (fun c hc => by cases hc) h hp⟩
      · cases e
  · cases e
theorem prim_ls : Prim1 K (fun x H1 Q => ∃ l ns, x = V.ref l ∧ SqL K H1 l (ns.map V.int) ∧ ns.length ≤ 4000 ∧ Q (.int ((sset ns).length : Nat)) H1) gLS := by
  intro H R x d1 f1 d Q r1 n e h
  unfold gLS at e
  split at e
  · rename_i xs
    cases e1 : intL xs with
    | none => rw [e1] at e; cases e
    | some ns =>
      rw [e1] at e
      dsimp only [Option.bind] at e
      split at e
      · cases e
        obtain ⟨a, rfl, hs⟩ := r1.intsL e1
        exact ⟨a, ns, rfl, hs, by assumption, outI h⟩
      · cases e
  · cases e
theorem ve_sortedSet {a : Expr} {f : Ev → Res (D × List Nat)} (hF : Fam P w K mg base N k X) (hg : ∀ i, Gl (X i) "sorted") (hm : mg "sorted" = none) (hg2 : ∀ i, Gl (X i) "set") (hm2 : mg "set" = none) (ha : VE K mg X a f)
    (na : ∀ i, starEach [a] (X i).env = (false, eval a (X i).env) :: starEach [] (X i).env := by intro _; rfl) : VE K mg X (.Call (.Name "sorted" p) [.Call (.Name "set" p2) [a] [] q] [] pos) (eUn gSS f) := by
  intro W tk
  obtain ⟨t, pa, qa⟩ := ha W tk
  exact ⟨tSortSet K t, fun i => by have q := pe_sortedSet (p := p) (p2 := p2) (q := q) (pos := pos) (hF.calm i) (hg i) (by rw [hF.mm i]; exact hm) (hg2 i) (by rw [hF.mm i]; exact hm2) (pa i) (na i); rw [hF.kk i] at q; exact q, fun S fps ρ σ H Q ok h => un_sem prim_ss qa ok h⟩
theorem ve_lenSet {a : Expr} {f : Ev → Res (D × List Nat)} (hF : Fam P w K mg base N k X) (hg : ∀ i, Gl (X i) "len") (hm : mg "len" = none) (hg2 : ∀ i, Gl (X i) "set") (hm2 : mg "set" = none) (ha : VE K mg X a f)
    (na : ∀ i, starEach [a] (X i).env = (false, eval a (X i).env) :: starEach [] (X i).env := by intro _; rfl) : VE K mg X (.Call (.Name "len" p) [.Call (.Name "set" p2) [a] [] q] [] pos) (eUn gLS f) := by
  intro W tk
  obtain ⟨t, pa, qa⟩ := ha W tk
  exact ⟨tLenSt K t, fun i => by have q := pe_lenSt (p := p) (p2 := p2) (q := q) (pos := pos) (hF.calm i) (hg i) (by rw [hF.mm i]; exact hm) (hg2 i) (by rw [hF.mm i]; exact hm2) (pa i) (na i); rw [hF.kk i] at q; exact q, fun S fps ρ σ H Q ok h => un_sem prim_ls qa ok h⟩
end
end Py

set_option Elab.async false
set_option linter.all false
set_option maxRecDepth 100000
namespace Py
open PySem PySem.Spec L2 PyProof.Rows
section
variable {ι : Type} {X : ι → Cx} {P : Program} {w : World} {K : PySem.W.Frag} {mg : Str → Option Value} {base : Heap} {N : List Str} {k : Nat}
theorem Fam.u65 (hF : Fam P w K mg base N k X) (i : ι) : (X i).A.units + 65 < cLine := by have := (hF.room i).un; omega
theorem Fam.u64 (hF : Fam P w K mg base N k X) (i : ι) : (X i).A.units + 64 < cLine := by have := (hF.room i).un; omega
theorem Fam.u0 (hF : Fam P w K mg base N k X) (i : ι) : (X i).A.units < cLine := by have := (hF.room i).un; omega
/-- x += .. of numbers and texts -/
def rIAdd : R2 := fun x y H Q => rI0 (fun i j => .int (i + j)) x y H Q ∨ ∃ i j, x = .str i ∧ y = .str j ∧ i.length + j.length ≤ sizeLine ∧ Q (.str (i ++ j)) H
theorem iop_addAll {X : Cx} : OpR X (inplaceOp .Add) rIAdd := iop_add.or iop_add_str
def gIAdd : D → D → Option D
  | .int i, .int j => some (.int (i + j))
  | .str a, .str b => if a.length + b.length ≤ sizeLine then some (.str (a ++ b)) else none
  | _, _ => none
theorem prim_iadd : Prim2 K rIAdd gIAdd := by
  intro H R x y d1 d2 f1 f2 d Q r1 r2 n e h
  unfold gIAdd at e
  split at e
  · cases e; cases r1; cases r2
    exact .inl ⟨_, _, rfl, rfl, outI h⟩
  · split at e
    · cases e; cases r1; cases r2
      exact .inr ⟨_, _, rfl, rfl, by assumption, outS h⟩
    · cases e
  · cases e
noncomputable def cFdivP (_ j : Int) : Bool := opq (decide (0 < j) && decide (j < 1073741824))
noncomputable def gFdivP : D → D → Option D := g2I cFdivP fun i j => i / j
def gModP : D → D → Option D := g2I (fun _ j => decide (0 < j)) fun i j => i % j
theorem prim_fdivP : Prim2 K (rI CDiv fun i j => .int (i / j)) gFdivP := prim_g2I fun i j h => by
  unfold cFdivP at h
  rw [opq_eq] at h
  unfold CDiv
  simpa using h
theorem prim_modP : Prim2 K (rI (fun _ j => 0 < j) fun i j => .int (i % j)) gModP := prim_g2I fun i j h => by simpa using h

/-! ### the law's own head -/
def spLaw (K : PySem.W.Frag) : Sp := fun vs H Q _ => ∃ (a : Addr) (ns : List Int), vs = [.ref a] ∧ SqL K H a (ns.map V.int) ∧ ns.length ≤ 63 ∧ ∀ H', Q (.bl true) H'
theorem law_ok {k : Nat} {φ : List D → Res D} {f : Addr} {fd : FuncData} {ps : List Str} (F : FnOk P w K mg base (L2.CX P w) k f fd ps (spD K mg φ 1)) (h : ∀ ns : List Int, ns.length ≤ 63 → φ [.node false .lst (ns.map D.int)] = .ok (.bl true)) :
    FnOk P w K mg base (L2.CX P w) k f fd ps (spLaw K) := by
  refine F.imp fun vs H Q E hs => ?_
  obtain ⟨a, ns, rfl, hS, hl, q⟩ := hs
  have fin : ∀ R : Addr → Prop, Rep K H R (.ref a) (.node false .lst (ns.map D.int)) [] → (∀ b, R b → ∃ o, H b = some o) → spD K mg φ 1 [.ref a] H Q E := fun R r hR => by
    refine ⟨rfl, [.node false .lst (ns.map D.int)], R, RepL.one r, hR, ?_⟩
    rw [h ns hl]
    intro v fp R' H' g rv _ _
    cases rv
    exact q H'
  rcases hS with hS | hS
  · refine fin (fun b => b = a) (.shr rfl trivial rfl hS RepL.ints) fun b hb => ?_
    subst hb
    rcases hS with e | ⟨o, e⟩
    · exact ⟨_, e⟩
    · exact ⟨_, e⟩
  · exact fin (fun _ => False) (.kst hS RepL.ints) fun b z => z.elim
theorem cx_none {P : Program} : ∀ (w : World) (H : Hp) (s : Shared) (e : Value) (s' : Shared), L2.CX P w [] H s (fun _ _ _ => False) e s' → False := by
  intro w H s e s' h
  obtain ⟨_, _, _, _, _, _, _, _, _, _, _, _, z⟩ := h
  exact z
end
end Py
namespace Py
open PySem PySem.Spec L2 PyProof.Rows
theorem has_stuck {P : Program} {w : World} {K : PySem.W.Frag} {mg : Str → Option Value} {base : Heap} {x qual : Str} {st : Stmt} {f : Addr} {fd : FuncData} {ps : List Str} {n k : Nat} {φ : List D → Res D} (Fn : Fun K x qual st f fd) (hm : mg x = some (.ref f)) (hb : L2.Binds K fd ps []) (h : ∀ ds, φ ds = .stuck) :
    Has P w K mg base x φ n k := by
  refine ⟨f, fd, ps, hm, Fn.kp, hb, fun vs H Q E q => ?_, fun A outer s H args us vs Q E hr he hbd hv q => ?_⟩
  · obtain ⟨_, ds, R, _, _, z⟩ := q
    rw [h] at z
    exact z.elim
  · obtain ⟨_, ds, R, _, _, z⟩ := q
    rw [h] at z
    exact z.elim
end Py

set_option Elab.async false
set_option linter.all false
set_option maxRecDepth 100000
/-! plain reckoning with the terms: no program in sight -/
namespace Py
open PySem L2
/-- what comes next, not looked at before the state is known -/
theorem hold_ex : ∃ h : (List Nat → Ev → Out) → List Nat → Ev → Out, ∀ F, h F = F := ⟨fun F => F, fun _ => rfl⟩
noncomputable def hold : (List Nat → Ev → Out) → List Nat → Ev → Out := Classical.choose hold_ex
theorem hold_eq (F : List Nat → Ev → Out) : hold F = F := Classical.choose_spec hold_ex F
/-- a loop, not to be reckoned with by the kernel -/
theorem oFor_ex : ∃ h : (Ev → Res (List D × List Nat)) → (D × List Nat → Ev → Option Ev) → (List Nat → Ev → Out) → List Nat → Ev → Out, h = sFor := ⟨_, rfl⟩
noncomputable def oFor : (Ev → Res (List D × List Nat)) → (D × List Nat → Ev → Option Ev) → (List Nat → Ev → Out) → List Nat → Ev → Out := Classical.choose oFor_ex
theorem oFor_eq : oFor = sFor := Classical.choose_spec oFor_ex
section
variable {g g' : D → D → Option D} {f f1 f2 f3 : Ev → Res (D × List Nat)} {fa : Ev → Res (List D × List Nat)} {c c' : Ev → Res Bool} {F G B : List Nat → Ev → Out} {ρ : Ev} {lk : List Nat} {i : Nat} {d : D}
@[simp] theorem at_eVar : eVar i ρ = match ρ[i]? with | some (some s) => .ok (mk (frz s.d) (i :: s.dp)) | _ => .stuck := Eq.trans rfl rfl
@[simp] theorem at_eK : eK d ρ = .ok (d, []) := Eq.trans rfl rfl
@[simp] theorem at_eBin : eBin g f1 f2 ρ = (f1 ρ).bind fun a => (f2 ρ).bind fun b => match g a.1 b.1 with | some d => .ok (mk d (a.2 ++ b.2)) | none => .stuck := Eq.trans rfl rfl
@[simp] theorem at_eUn {g : D → Option D} : eUn g f1 ρ = (f1 ρ).bind fun a => match g a.1 with | some d => .ok (mk d a.2) | none => .stuck := Eq.trans rfl rfl
@[simp] theorem at_aNil : aNil ρ = .ok ([], []) := Eq.trans rfl rfl
@[simp] theorem at_aCons : aCons f fa ρ = (f ρ).bind fun a => (fa ρ).bind fun b => .ok (a.1 :: b.1, a.2 ++ b.2) := Eq.trans rfl rfl
@[simp] theorem at_eArgs {g : List D → Option D} : eArgs g fa ρ = (fa ρ).bind fun a => match g a.1 with | some d => .ok (mk d a.2) | none => .stuck := Eq.trans rfl rfl
@[simp] theorem at_eCall {φ : List D → Res D} {n : Nat} : eCall φ n fa ρ = (fa ρ).bind fun a => if a.1.length = n then (φ (a.1.map frz)).bind fun d => .ok (mk d a.2) else .stuck := Eq.trans rfl rfl
@[simp] theorem at_eAnd : eAnd f f1 ρ = (f ρ).bind fun a => match tru a.1 with | some true => f1 ρ | some false => .ok a | none => .stuck := Eq.trans rfl rfl
@[simp] theorem at_eOr : eOr f f1 ρ = (f ρ).bind fun a => match tru a.1 with | some true => .ok a | some false => f1 ρ | none => .stuck := Eq.trans rfl rfl
@[simp] theorem at_eNot : eNot f ρ = (f ρ).bind fun a => match tru a.1 with | some b => .ok (.bl (!b), []) | none => .stuck := Eq.trans rfl rfl
@[simp] theorem at_eIf : eIf c f f1 ρ = (c ρ).bind fun b => if b = true then f ρ else f1 ρ := Eq.trans rfl rfl
@[simp] theorem at_eCh : eCh g g' f1 f2 f3 ρ = (f1 ρ).bind fun a => (f2 ρ).bind fun b => match g a.1 b.1 with
    | some (.bl k) => if k = true then (f3 ρ).bind fun c => match g' b.1 c.1 with
        | some (.bl k') => .ok (.bl k', [])
        | _ => .stuck
      else .ok (.bl false, [])
    | _ => .stuck := Eq.trans rfl rfl
@[simp] theorem at_tVal : tVal f ρ = (f ρ).bind fun a => match a.1 with | .bl b => .ok b | _ => .stuck := Eq.trans rfl rfl
@[simp] theorem at_tTru : tTru f ρ = (f ρ).bind fun a => match tru a.1 with | some b => .ok b | none => .stuck := Eq.trans rfl rfl
@[simp] theorem at_tNotB : tNotB c ρ = (c ρ).bind fun b => .ok (!b) := Eq.trans rfl rfl
@[simp] theorem at_tAndB : tAndB c c' ρ = (c ρ).bind fun b => if b = true then c' ρ else .ok false := Eq.trans rfl rfl
@[simp] theorem at_tOrB : tOrB c c' ρ = (c ρ).bind fun b => if b = true then .ok true else c' ρ := Eq.trans rfl rfl
@[simp] theorem at_tT : tT ρ = .ok true := Eq.trans rfl rfl
@[simp] theorem at_eDK : eDK ρ = .ok (.node true (.dK []) [], []) := Eq.trans rfl rfl
@[simp] theorem at_eDT : eDT ρ = .ok (.node true (.dT []) [], []) := Eq.trans rfl rfl
@[simp] theorem at_oN : oN ρ = .ok none := Eq.trans rfl rfl
@[simp] theorem at_oS : oS f ρ = (f ρ).bind fun a => match a.1 with | .int i => .ok (some i) | _ => .stuck := Eq.trans rfl rfl
@[simp] theorem at_eSl {l h : Ev → Res (Option Int)} : eSl f l h ρ = (f ρ).bind fun a => (l ρ).bind fun lo => (h ρ).bind fun hi => match gSl a.1 lo hi with | some d => .ok (mk d a.2) | none => .stuck := Eq.trans rfl rfl
@[simp] theorem at_eRgL {t : Tg} : eRgL t f1 f2 ρ = (f1 ρ).bind fun a => (f2 ρ).bind fun b => match a.1, b.1 with
    | .int i, .int j => if rgOk i j = true then .ok (.node (!t.isT) t (rngI i (j - i).toNat), []) else .stuck
    | _, _ => .stuck := Eq.trans rfl rfl
@[simp] theorem at_iRg : iRg fa ρ = (fa ρ).bind fun a => match rgItems a.1 with | some xs => .ok (xs, []) | none => .stuck := Eq.trans rfl rfl
@[simp] theorem at_iSeq : iSeq f ρ = (f ρ).bind fun a => match items a.1 with | some xs => .ok (xs, a.2) | none => .stuck := Eq.trans rfl rfl
@[simp] theorem at_gNm {r : D × List Nat} : gNm i r ρ = some (asg i r ρ) := Eq.trans rfl rfl
@[simp] theorem at_sNil : sNil lk ρ = .nx ρ := Eq.trans rfl rfl
@[simp] theorem at_sBk : sBk lk ρ = .bk ρ := Eq.trans rfl rfl
@[simp] theorem at_sCt : sCt lk ρ = .ct ρ := Eq.trans rfl rfl
@[simp] theorem at_sRetN : sRetN lk ρ = .rt .non := Eq.trans rfl rfl
@[simp] theorem hold_cons {a : Option Slot} : hold F lk (a :: ρ) = F lk (a :: ρ) := by rw [hold_eq]
@[simp] theorem at_sSeq : sSeq F G lk ρ = match F lk ρ with
  | .nx ρ' => hold G lk ρ'
  | .bk ρ' => .bk ρ'
  | .ct ρ' => .ct ρ'
  | .rt d => .rt d
  | .rs c ρ' => .rs c ρ'
  | .stuck => .stuck := by rw [hold_eq]; exact Eq.trans rfl rfl
@[simp] theorem at_sIf : sIf c F G lk ρ = match c ρ with
  | .ok b => if b = true then F lk ρ else G lk ρ
  | .rs c => .rs c ρ
  | .stuck => .stuck := Eq.trans rfl rfl
@[simp] theorem at_sRet : sRet f lk ρ = match f ρ with
  | .ok r => .rt r.1
  | .rs c => .rs c ρ
  | .stuck => .stuck := Eq.trans rfl rfl
@[simp] theorem at_sRetV : sRetV i lk ρ = match ρ[i]? with
  | some (some s) => if s.dp.contains i then .stuck else .rt s.d
  | _ => .stuck := Eq.trans rfl rfl
@[simp] theorem at_sExp : sExp f lk ρ = match f ρ with
  | .ok _ => .nx ρ
  | .rs c => .rs c ρ
  | .stuck => .stuck := Eq.trans rfl rfl
@[simp] theorem at_sSet : sSet i f lk ρ = match f ρ with
  | .ok r => .nx (asg i r ρ)
  | .rs c => .rs c ρ
  | .stuck => .stuck := Eq.trans rfl rfl
@[simp] theorem at_sFor {fi : Ev → Res (List D × List Nat)} {T : D × List Nat → Ev → Option Ev} : sFor fi T F lk ρ = oFor fi T F lk ρ := by rw [oFor_eq]
theorem at_sFor' {fi : Ev → Res (List D × List Nat)} {T : D × List Nat → Ev → Option Ev} : sFor fi T F lk ρ = match fi ρ with
  | .ok r => forL T (F (r.2 ++ lk)) ρ r.2 r.1 ρ
  | .rs c => .rs c ρ
  | .stuck => .stuck := Eq.trans rfl rfl
end
@[simp] theorem frz_int (i : Int) : frz (.int i) = .int i := Eq.trans rfl rfl
@[simp] theorem frz_bl (i : Bool) : frz (.bl i) = .bl i := Eq.trans rfl rfl
@[simp] theorem frz_str (i : Str) : frz (.str i) = .str i := Eq.trans rfl rfl
@[simp] theorem frz_ty (i : String) : frz (.ty i) = .ty i := Eq.trans rfl rfl
@[simp] theorem frz_non : frz .non = .non := Eq.trans rfl rfl
@[simp] theorem frz_node (o : Bool) (t : Tg) (xs : List D) : frz (.node o t xs) = .node false t (frzL xs) := by rw [frz]
@[simp] theorem frzL_nil : frzL [] = [] := Eq.trans rfl rfl
@[simp] theorem frzL_cons (d : D) (ds : List D) : frzL (d :: ds) = frz d :: frzL ds := by rw [frzL]
@[simp] theorem noShr_int (i : Int) : noShr (.int i) = true := Eq.trans rfl rfl
@[simp] theorem noShr_bl (i : Bool) : noShr (.bl i) = true := Eq.trans rfl rfl
@[simp] theorem noShr_str (i : Str) : noShr (.str i) = true := Eq.trans rfl rfl
@[simp] theorem noShr_ty (i : String) : noShr (.ty i) = true := Eq.trans rfl rfl
@[simp] theorem noShr_non : noShr .non = true := Eq.trans rfl rfl
@[simp] theorem noShr_node (o : Bool) (t : Tg) (xs : List D) : noShr (.node o t xs) = ((o || t.isT) && noShrL xs) := by rw [noShr]
@[simp] theorem noShrL_nil : noShrL [] = true := Eq.trans rfl rfl
@[simp] theorem noShrL_cons (d : D) (ds : List D) : noShrL (d :: ds) = (noShr d && noShrL ds) := by rw [noShrL]
@[simp] theorem isT_lst : Tg.isT .lst = false := Eq.trans rfl rfl
@[simp] theorem isT_tup : Tg.isT .tup = true := Eq.trans rfl rfl
@[simp] theorem isT_dK (ks : List Key) : Tg.isT (.dK ks) = false := Eq.trans rfl rfl
@[simp] theorem isT_dT (ks : List (List Key)) : Tg.isT (.dT ks) = false := Eq.trans rfl rfl
@[simp] theorem rg1 (j : Int) (h : in62 j = true) : rgItems [.int j] = some (rngI 0 j.toNat) := by
  show (if in62 j = true then _ else _) = _
  rw [if_pos h]
@[simp] theorem rg2 (i j : Int) (h : in62 i = true) (h2 : in62 j = true) : rgItems [.int i, .int j] = some (rngI i (j - i).toNat) := by
  show (if (in62 i && in62 j) = true then _ else _) = _
  rw [if_pos (by rw [h, h2]; rfl)]
@[simp] theorem rg3 (i j : Int) (h : in62 i = true) (h2 : in62 j = true) : rgItems [.int i, .int j, .int (-1)] = some (rngC i (-1) (i - j).toNat) := by
  show (if (in62 i && in62 j) = true then _ else _) = _
  rw [if_pos (by rw [h, h2]; rfl)]
@[simp] theorem it_lst (o : Bool) (xs : List D) : items (.node o .lst xs) = some (xs.map frz) := Eq.trans rfl rfl
@[simp] theorem it_tup (o : Bool) (xs : List D) : items (.node o .tup xs) = some (xs.map frz) := Eq.trans rfl rfl
@[simp] theorem at_asg (i : Nat) (r : D × List Nat) (ρ : Ev) : asg i r ρ = (ρ.map (er i)).set i (some ⟨r.1, r.2.filter fun r => r != i⟩) := Eq.trans rfl rfl
@[simp] theorem er_none (i : Nat) : er i none = none := Eq.trans rfl rfl
@[simp] theorem er_some (i : Nat) (s : Slot) : er i (some s) = some ⟨s.d, s.dp.filter fun r => r != i⟩ := Eq.trans rfl rfl
@[simp] theorem clean_def (ρ0 ρ : Ev) : clean ρ0 ρ = cleanA ρ0 ρ0 ρ := Eq.trans rfl rfl
@[simp] theorem cl_none (ρ0 as ss : Ev) (s : Option Slot) : cleanA ρ0 (none :: as) (s :: ss) = none :: cleanA ρ0 as ss := Eq.trans rfl rfl
@[simp] theorem cl_some (ρ0 as ss : Ev) (a : Slot) (s : Option Slot) : cleanA ρ0 (some a :: as) (s :: ss) = (s.map fun s => ⟨s.d, s.dp.filter (kept ρ0)⟩) :: cleanA ρ0 as ss := Eq.trans rfl rfl
@[simp] theorem cl_nil (ρ0 : Ev) : cleanA ρ0 [] [] = [] := Eq.trans rfl rfl
/-! what the operations give -/
@[simp] theorem gAdd_int (i j : Int) : gAdd (.int i) (.int j) = some (.int (i + j)) := Eq.trans rfl rfl
@[simp] theorem gSub_int (i j : Int) : gSub (.int i) (.int j) = some (.int (i - j)) := by unfold gSub g2I; simp
@[simp] theorem gIAdd_int (i j : Int) : gIAdd (.int i) (.int j) = some (.int (i + j)) := Eq.trans rfl rfl
@[simp] theorem gMul_int {i j : Int} (h : cMul i j = true) : gMul (.int i) (.int j) = some (.int (i * j)) := by unfold gMul; simp [h]
@[simp] theorem gMulI_int {i j : Int} (h : cMul i j = true) : gMulI (.int i) (.int j) = some (.int (i * j)) := by unfold gMulI g2I; simp [h]
@[simp] theorem gMod_int {i j : Int} (h : j ≠ 0) : gMod (.int i) (.int j) = some (.int (i.fmod j)) := by unfold gMod g2I cMod; simp [h]
@[simp] theorem gFdiv_int {i j : Int} (h : j ≠ 0) (h2 : j.natAbs < 1073741824) : gFdiv (.int i) (.int j) = some (.int (i.fdiv j)) := by unfold gFdiv g2I cFdiv; simp [h, h2, opq_eq]
@[simp] theorem gModP_int {i j : Int} (h : 0 < j) : gModP (.int i) (.int j) = some (.int (i % j)) := by unfold gModP g2I; simp [h]
@[simp] theorem gFdivP_int {i j : Int} (h : 0 < j) (h2 : j < 1073741824) : gFdivP (.int i) (.int j) = some (.int (i / j)) := by unfold gFdivP g2I cFdivP; simp [h, h2, opq_eq]
@[simp] theorem gPow_int {i j : Int} (h : 0 ≤ j) (h1 : j ≤ 1000000) (h2 : i.natAbs < 2 ^ 64) : gPow (.int i) (.int j) = some (.int (i ^ j.toNat)) := by unfold gPow g2I cPow; simp only [opq_eq, h, h1, h2, decide_true, Bool.and_self, if_true]
@[simp] theorem gNeg_int (i : Int) : gNeg (.int i) = some (.int (-i)) := Eq.trans rfl rfl
@[simp] theorem gLt_int (i j : Int) : gLt (.int i) (.int j) = some (.bl (decide (i < j))) := Eq.trans rfl rfl
@[simp] theorem gLe_int (i j : Int) : gLe (.int i) (.int j) = some (.bl (decide (i ≤ j))) := Eq.trans rfl rfl
@[simp] theorem gGt_int (i j : Int) : gGt (.int i) (.int j) = some (.bl (decide (j < i))) := Eq.trans rfl rfl
@[simp] theorem gGe_int (i j : Int) : gGe (.int i) (.int j) = some (.bl (decide (j ≤ i))) := Eq.trans rfl rfl
@[simp] theorem gIsN_non (d : D) : gIsN d .non = some (.bl (isN d)) := by unfold gIsN; cases d <;> rfl
@[simp] theorem gNotN_non (d : D) : gNotN d .non = some (.bl (!isN d)) := by unfold gNotN; cases d <;> rfl
@[simp] theorem isN_non : isN .non = true := Eq.trans rfl rfl
@[simp] theorem isN_int (i : Int) : isN (.int i) = false := Eq.trans rfl rfl
@[simp] theorem isN_bl (i : Bool) : isN (.bl i) = false := Eq.trans rfl rfl
@[simp] theorem isN_str (i : Str) : isN (.str i) = false := Eq.trans rfl rfl
@[simp] theorem isN_node (o : Bool) (t : Tg) (xs : List D) : isN (.node o t xs) = false := Eq.trans rfl rfl
@[simp] theorem gInt_int (i : Int) : gInt [.int i] = some (.int i) := Eq.trans rfl rfl
@[simp] theorem gInt_bl (b : Bool) : gInt [.bl b] = some (.int (if b then 1 else 0)) := Eq.trans rfl rfl
@[simp] theorem gBool_bl (b : Bool) : gBool [.bl b] = some (.bl b) := Eq.trans rfl rfl
@[simp] theorem gBool_int (b : Int) : gBool [.int b] = some (.bl (b != 0)) := Eq.trans rfl rfl
@[simp] theorem gLen_lst (o : Bool) (xs : List D) : gLen [.node o .lst xs] = some (.int xs.length) := Eq.trans rfl rfl
@[simp] theorem gLen_tup (o : Bool) (xs : List D) : gLen [.node o .tup xs] = some (.int xs.length) := Eq.trans rfl rfl
@[simp] theorem gLen_dK (o : Bool) (ks : List Key) (xs : List D) : gLen [.node o (.dK ks) xs] = some (.int xs.length) := Eq.trans rfl rfl
@[simp] theorem gIx_lst (o : Bool) (xs : List D) (i : Int) : gIx (.node o .lst xs) (.int i) = atI xs i := Eq.trans rfl rfl
@[simp] theorem gIx_tup (o : Bool) (xs : List D) (i : Int) : gIx (.node o .tup xs) (.int i) = atI xs i := Eq.trans rfl rfl
@[simp] theorem gList_lst (o : Bool) (xs : List D) : gList [.node o .lst xs] = some (.node true .lst xs) := Eq.trans rfl rfl
@[simp] theorem gList_tup (o : Bool) (xs : List D) : gList [.node o .tup xs] = some (.node true .lst xs) := Eq.trans rfl rfl
@[simp] theorem gTup_lst (o : Bool) (xs : List D) : gTup [.node o .lst xs] = some (.node false .tup xs) := Eq.trans rfl rfl
@[simp] theorem gTup_tup (xs : List D) : gTup [.node false .tup xs] = some (.node false .tup xs) := Eq.trans rfl rfl
@[simp] theorem gMax_2 (i j : Int) : gMax [.int i, .int j] = some (.int (max i j)) := Eq.trans rfl rfl
@[simp] theorem gMin_2 (i j : Int) : gMin [.int i, .int j] = some (.int (min i j)) := Eq.trans rfl rfl
@[simp] theorem gLstD_0 : gLstD [] = some (.node true .lst []) := by unfold gLstD; simp
theorem gLstD_of {xs : List D} (h : xs.length ≤ 1000) : gLstD xs = some (.node true .lst xs) := by unfold gLstD; rw [if_pos (by rw [sizeLine_eq]; omega)]
theorem gTupD_of {xs : List D} (h : xs.length ≤ 1000) : gTupD xs = some (.node false .tup xs) := by unfold gTupD; rw [if_pos (by rw [sizeLine_eq]; omega)]
@[simp] theorem tru_non : tru .non = some false := Eq.trans rfl rfl
@[simp] theorem tru_bl (b : Bool) : tru (.bl b) = some b := Eq.trans rfl rfl
@[simp] theorem tru_int (i : Int) : tru (.int i) = some (i != 0) := Eq.trans rfl rfl
@[simp] theorem tru_lst (o : Bool) (xs : List D) : tru (.node o .lst xs) = some (!xs.isEmpty) := by unfold tru; cases o <;> rfl
@[simp] theorem tru_tup (o : Bool) (xs : List D) : tru (.node o .tup xs) = some (!xs.isEmpty) := by unfold tru; cases o <;> rfl
@[simp] theorem gIsi_of (d : D) (T : String) : gIsi [d, .ty T] = (tyS d).bind fun s => (isiB s T).map .bl := Eq.trans rfl rfl
@[simp] theorem tyS_non : tyS .non = some "NoneType" := Eq.trans rfl rfl
@[simp] theorem tyS_bl (b : Bool) : tyS (.bl b) = some "bool" := Eq.trans rfl rfl
@[simp] theorem tyS_int (b : Int) : tyS (.int b) = some "int" := Eq.trans rfl rfl
@[simp] theorem tyS_str (b : Str) : tyS (.str b) = some "str" := Eq.trans rfl rfl
@[simp] theorem tyS_lst (o : Bool) (xs : List D) : tyS (.node o .lst xs) = some "list" := by unfold tyS; cases o <;> rfl
@[simp] theorem tyS_tup (o : Bool) (xs : List D) : tyS (.node o .tup xs) = some "tuple" := by unfold tyS; cases o <;> rfl
@[simp] theorem isiB_list (s : String) : isiB s "list" = some (s == "list") := by unfold isiB; simp
@[simp] theorem isiB_tuple (s : String) : isiB s "tuple" = some (s == "tuple") := by unfold isiB; simp
@[simp] theorem isiB_bool (s : String) : isiB s "bool" = some (s == "bool") := by unfold isiB; simp
@[simp] theorem isiB_int (s : String) : isiB s "int" = some (s == "int" || s == "bool") := by unfold isiB; simp
@[simp] theorem isiB_str (s : String) : isiB s "str" = some (s == "str") := by unfold isiB; simp
@[simp] theorem isiB_dict (s : String) : isiB s "dict" = some (s == "dict") := by unfold isiB; simp
/-! loops, item by item -/
theorem forL_ix {T : D × List Nat → Ev → Option Ev} {B : Ev → Out} {ρ0 : Ev} {p : List Nat} : ∀ {xs : List D} {env : Nat → Ev}, (∀ k (h : k < xs.length), ∃ ρ1 ρ2, T (mk xs[k] p) (env k) = some ρ1 ∧ (B ρ1 = .nx ρ2 ∨ B ρ1 = .ct ρ2) ∧ clean ρ0 ρ2 = env (k + 1)) → forL T B ρ0 p xs (env 0) = .nx (env xs.length)
  | [], env, _ => rfl
  | x :: xs, env, h => by
    obtain ⟨ρ1, ρ2, h1, h2, h3⟩ := h 0 (Nat.zero_lt_succ _)
    have ih := forL_ix (T := T) (B := B) (ρ0 := ρ0) (p := p) (xs := xs) (env := fun k => env (k + 1)) fun k hk => h (k + 1) (Nat.succ_lt_succ hk)
    have h1 : T (mk x p) (env 0) = some ρ1 := h1
    unfold forL
    rw [h1]
    dsimp only
    rcases h2 with h2 | h2
    · rw [h2]; dsimp only; rw [h3]; exact ih
    · rw [h2]; dsimp only; rw [h3]; exact ih
theorem wh_ix {c : Ev → Res Bool} {F : List Nat → Ev → Out} {lk : List Nat} {env : Nat → Ev} (n : Nat) (h : ∀ k, k < n → c (env k) = .ok true ∧ ∃ ρ2, (F lk (env k) = .nx ρ2 ∨ F lk (env k) = .ct ρ2) ∧ clean (env 0) ρ2 = env (k + 1)) (hn : c (env n) = .ok false) :
    sWhile c F lk (env 0) = .nx (env n) := by
  refine sWhile_eq (n := n + 1) ?_
  have go : ∀ m k, k + m = n → whF c (F lk) (env 0) (m + 1) (env k) = some (.nx (env n)) := by
    intro m
    induction m with
    | zero =>
      intro k hk
      obtain rfl : k = n := by omega
      unfold whF
      rw [hn]
    | succ m ih =>
      intro k hk
      obtain ⟨h1, ρ2, h2, h3⟩ := h k (by omega)
      unfold whF
      rw [h1]
      dsimp only
      rcases h2 with h2 | h2
      · rw [h2]; dsimp only; rw [h3]; exact ih (k + 1) (by omega)
      · rw [h2]; dsimp only; rw [h3]; exact ih (k + 1) (by omega)
  exact go n 0 (by omega)
/-- what is walked, kept where the test says so, and made into another -/
theorem lcL_ix {T : D × List Nat → Ev → Option Ev} {tst : Ev → Res Bool} {el : Ev → Res (D × List Nat)} {p : List Nat} {ρ : Ev} {α : Type} {P : α → Bool} {j h : α → D} : ∀ {xs : List α}, (∀ x ∈ xs, ∃ ρ1, T (mk (j x) p) ρ = some ρ1 ∧ tst ρ1 = .ok (P x) ∧ (P x = true → el ρ1 = .ok (h x, []))) →
    lcL T tst el p ρ (xs.map j) = .ok ((xs.filter P).map h, [])
  | [], _ => rfl
  | x :: xs, hx => by
    obtain ⟨ρ1, h1, h2, h3⟩ := hx x List.mem_cons_self
    have ih := lcL_ix (xs := xs) fun y hy => hx y (List.mem_cons_of_mem _ hy)
    rw [List.map_cons]
    unfold lcL
    rw [h1]
    dsimp only
    rw [h2]
    cases hp : P x with
    | true =>
      rw [h3 hp, ih]
      simp [nors, hp]
    | false =>
      rw [ih]
      simp [nors, hp]
/-! numbers in lists -/
theorem atI_at {α : Type} {xs : List α} {k : Nat} (h : k < xs.length) : atI xs (k : Int) = some xs[k] := by
  rw [atI_nat (j := k) (by rw [List.getElem?_eq_getElem h])]
@[simp] theorem noShr_ints (ns : List Int) : noShrL (ns.map D.int) = true := by rw [noShrL_eq, List.all_map, List.all_eq_true]; intro _ _; rfl
@[simp] theorem frzL_ints (ns : List Int) : frzL (ns.map D.int) = ns.map D.int := by rw [frzL_eq, List.map_map]; rfl
@[simp] theorem frz_ints (ns : List Int) : (ns.map D.int).map frz = ns.map D.int := by rw [List.map_map]; rfl
@[simp] theorem toPyL_ints (ns : List Int) : toPyL (ns.map D.int) = some (ns.map PyData.int) := by
  induction ns with
  | nil => rfl
  | cons n ns ih => rw [List.map_cons, toPyL, ih]; rfl
@[simp] theorem canLay_ints (ns : List Int) : PyData.canLayAll0 (ns.map PyData.int) = true := by
  induction ns with
  | nil => rfl
  | cons n ns ih => rw [List.map_cons, PyData.canLayAll0, ih]; rfl
@[simp] theorem depth_ints (ns : List Int) : PyData.depthAll (ns.map PyData.int) = 0 := by
  induction ns with
  | nil => rfl
  | cons n ns ih => rw [List.map_cons, PyData.depthAll, ih]; rfl
theorem shaped_ints (ns : List Int) : SeqAt.shaped (.list (ns.map PyData.int)) = true := by
  unfold SeqAt.shaped
  rw [PyData.canLay0, PyData.depth, canLay_ints, depth_ints]
  rfl
@[simp] theorem eqv_ints (ns ms : List Int) : PyData.eqvAll (ns.map PyData.int) (ms.map PyData.int) = decide (ns = ms) := by
  induction ns generalizing ms with
  | nil => cases ms <;> simp [PyData.eqvAll]
  | cons n ns ih =>
    cases ms with
    | nil => simp [PyData.eqvAll]
    | cons m ms =>
      rw [List.map_cons, List.map_cons, PyData.eqvAll, ih]
      simp [PyData.eqv, Bool.beq_eq_decide_eq]
theorem gNe_ints (o o' : Bool) (ns ms : List Int) : gNe (.node o .lst (ns.map D.int)) (.node o' .lst (ms.map D.int)) = some (.bl (decide (ns ≠ ms))) := by
  unfold gNe
  simp [toPy, sh2, shaped_ints, PyData.eqv]
theorem gEq_ints (o o' : Bool) (ns ms : List Int) : gEq (.node o .lst (ns.map D.int)) (.node o' .lst (ms.map D.int)) = some (.bl (decide (ns = ms))) := by
  unfold gEq
  simp [toPy, sh2, shaped_ints, PyData.eqv]
@[simp] theorem gEq_int (i j : Int) : gEq (.int i) (.int j) = some (.bl (decide (i = j))) := by
  unfold gEq
  simp [toPy, sh2, SeqAt.shaped, PyData.eqv, PyData.canLay0, PyData.depth, Bool.beq_eq_decide_eq]
@[simp] theorem gNe_int (i j : Int) : gNe (.int i) (.int j) = some (.bl (decide (i ≠ j))) := by
  unfold gNe
  simp [toPy, sh2, SeqAt.shaped, PyData.eqv, PyData.canLay0, PyData.depth, Bool.beq_eq_decide_eq]
theorem inB_ints (o : Bool) (i : Int) (ns : List Int) : inB (.int i) (.node o .lst (ns.map D.int)) = some (decide (i ∈ ns)) := by
  unfold inB
  have h1 : sh2 (.int i) (.list (ns.map PyData.int)) = true := by
    unfold sh2
    rw [shaped_ints]
    rfl
  simp only [toPy, toPyL_ints, Option.bind_some, h1, if_true]
  congr 1
  clear h1
  induction ns with
  | nil => rfl
  | cons n ns ih =>
    rw [List.map_cons, List.any_cons, ih, PyData.eqv, Bool.beq_eq_decide_eq]
    by_cases h : n = i
    · subst h; simp
    · have : ¬ i = n := fun e => h e.symm
      simp [h, this]
end Py

set_option Elab.async false
set_option linter.all false
set_option maxRecDepth 100000
/-! loops by an invariant -/
namespace Py
open PySem L2
theorem forL_ex {T : D × List Nat → Ev → Option Ev} {B : Ev → Out} {ρ0 : Ev} {p : List Nat} (Inv : Nat → Ev → Prop) : ∀ (xs : List D) (j : Nat) (ρ : Ev), Inv j ρ → (∀ k (h : k < xs.length) ρ, Inv (j + k) ρ → ∃ ρ1 ρ2, T (mk xs[k] p) ρ = some ρ1 ∧ (B ρ1 = .nx ρ2 ∨ B ρ1 = .ct ρ2) ∧ Inv (j + k + 1) (clean ρ0 ρ2)) →
    ∃ ρe, forL T B ρ0 p xs ρ = .nx ρe ∧ Inv (j + xs.length) ρe
  | [], j, ρ, h0, _ => ⟨ρ, rfl, h0⟩
  | x :: xs, j, ρ, h0, h => by
    obtain ⟨ρ1, ρ2, h1, h2, h3⟩ := h 0 (Nat.zero_lt_succ _) ρ h0
    have h1 : T (mk x p) ρ = some ρ1 := h1
    obtain ⟨ρe, e1, e2⟩ := forL_ex Inv xs (j + 1) (clean ρ0 ρ2) h3 fun k hk ρ' hi => by
      have e : j + (k + 1) = j + 1 + k := by omega
      have := h (k + 1) (Nat.succ_lt_succ hk) ρ' (by rw [e]; exact hi)
      rw [e] at this
      exact this
    refine ⟨ρe, ?_, by rw [List.length_cons]; have e : j + (xs.length + 1) = j + 1 + xs.length := by omega
                       rw [e]; exact e2⟩
    unfold forL
    rw [h1]
    dsimp only
    rcases h2 with h2 | h2
    · rw [h2]; exact e1
    · rw [h2]; exact e1
/-- one turn, run to its end -/
@[simp] def turnOk (T : D × List Nat → Ev → Option Ev) (B : Ev → Out) (p : List Nat) (ρ0 : Ev) (x : D) (ρ : Ev) (Q : Ev → Prop) : Prop := match T (mk x p) ρ with
  | none => False
  | some ρ1 => match B ρ1 with
    | .nx ρ2 => Q (clean ρ0 ρ2)
    | .ct ρ2 => Q (clean ρ0 ρ2)
    | _ => False
theorem turnOk_ex {T : D × List Nat → Ev → Option Ev} {B : Ev → Out} {p : List Nat} {ρ0 : Ev} {x : D} {ρ : Ev} {Q : Ev → Prop} (h : turnOk T B p ρ0 x ρ Q) : ∃ ρ1 ρ2, T (mk x p) ρ = some ρ1 ∧ (B ρ1 = .nx ρ2 ∨ B ρ1 = .ct ρ2) ∧ Q (clean ρ0 ρ2) := by
  unfold turnOk at h
  cases e1 : T (mk x p) ρ with
  | none => rw [e1] at h; exact h.elim
  | some ρ1 =>
    rw [e1] at h
    dsimp only at h
    cases e2 : B ρ1 with
    | nx ρ2 => rw [e2] at h; exact ⟨ρ1, ρ2, rfl, .inl e2, h⟩
    | ct ρ2 => rw [e2] at h; exact ⟨ρ1, ρ2, rfl, .inr e2, h⟩
    | _ => rw [e2] at h; exact h.elim
theorem for_ex {fi : Ev → Res (List D × List Nat)} {T : D × List Nat → Ev → Option Ev} {F : List Nat → Ev → Out} {lk : List Nat} {ρ : Ev} {xs : List D} {p : List Nat} (hfi : fi ρ = .ok (xs, p)) (Inv : Nat → Ev → Prop) (h0 : Inv 0 ρ)
    (h : ∀ k (h : k < xs.length) ρ', Inv k ρ' → turnOk T (F (p ++ lk)) p ρ xs[k] ρ' (Inv (k + 1))) : ∃ ρe, sFor fi T F lk ρ = .nx ρe ∧ Inv xs.length ρe := by
  obtain ⟨ρe, e1, e2⟩ := forL_ex (T := T) (B := F (p ++ lk)) (ρ0 := ρ) (p := p) Inv xs 0 ρ h0 fun k hk ρ' hi => by
    rw [Nat.zero_add] at hi ⊢
    exact turnOk_ex (h k hk ρ' hi)
  refine ⟨ρe, ?_, by rwa [Nat.zero_add] at e2⟩
  rw [at_sFor', hfi]
  exact e1
/-- Inv n ρ: the loop has n turns left -/
theorem while_ex {c : Ev → Res Bool} {F : List Nat → Ev → Out} {lk : List Nat} {ρ : Ev} (Inv : Nat → Ev → Prop) {n : Nat} (h0 : Inv n ρ)
    (h : ∀ k ρ', Inv (k + 1) ρ' → c ρ' = .ok true ∧ turnOk (fun _ ρ => some ρ) (F lk) [] ρ .non ρ' (Inv k)) (hn : ∀ ρ', Inv 0 ρ' → c ρ' = .ok false) : ∃ ρe, sWhile c F lk ρ = .nx ρe ∧ Inv 0 ρe := by
  have go : ∀ m ρ', Inv m ρ' → ∃ ρe, whF c (F lk) ρ (m + 1) ρ' = some (.nx ρe) ∧ Inv 0 ρe := by
    intro m
    induction m with
    | zero =>
      intro ρ' hi
      refine ⟨ρ', ?_, hi⟩
      unfold whF
      rw [hn ρ' hi]
    | succ m ih =>
      intro ρ' hi
      obtain ⟨h1, hh⟩ := h m ρ' hi
      obtain ⟨ρ1, ρ2, e0, h2, h3⟩ := turnOk_ex hh
      cases e0
      obtain ⟨ρe, e1, e2⟩ := ih _ h3
      refine ⟨ρe, ?_, e2⟩
      unfold whF
      rw [h1]
      dsimp only
      rcases h2 with h2 | h2
      · rw [h2]; exact e1
      · rw [h2]; exact e1
  obtain ⟨ρe, e1, e2⟩ := go n ρ h0
  exact ⟨ρe, sWhile_eq e1, e2⟩
@[simp] theorem at_sApp {i : Nat} {f : Ev → Res (D × List Nat)} {lk : List Nat} {ρ : Ev} : sApp i f lk ρ = match ρ[i]? with
  | some (some ⟨.node true .lst xs, dp⟩) => match f ρ with
    | .ok r => if (lk.contains i || (dp ++ r.2).contains i || decide (sizeLine ≤ xs.length)) = true then .stuck else .nx (putE i (.node true .lst (xs ++ [r.1]), dp ++ r.2) ρ)
    | .rs c => .rs c ρ
    | .stuck => .stuck
  | _ => .stuck := Eq.trans rfl rfl
theorem rngI_at {lo : Int} {n k : Nat} (h : k < (rngI lo n).length) : (rngI lo n)[k] = .int (lo + k) := by
  have e : (rngI lo n)[k]? = some (rngI lo n)[k] := List.getElem?_eq_getElem h
  exact rngI_get e
@[simp] theorem len_rngI (lo : Int) (n : Nat) : (rngI lo n).length = n := rngI_length lo n
theorem map_snoc (l : List Int) (x : Int) : l.map D.int ++ [.int x] = (l ++ [x]).map D.int := by rw [List.map_append]; rfl
end Py
namespace Py
/-- a slot that leans on nothing -/
@[simp] def sl (d : D) : Option Slot := some ⟨d, []⟩
end Py
namespace Py
open PySem L2
theorem for_run {fi : Ev → Res (List D × List Nat)} {T : D × List Nat → Ev → Option Ev} {F : List Nat → Ev → Out} {lk : List Nat} {ρ : Ev} {o : Out} (hq : oFor fi T F lk ρ = o) (xs : List D) (p : List Nat) (hfi : fi ρ = .ok (xs, p)) (Inv : Nat → Ev → Prop) (h0 : Inv 0 ρ)
    (h : ∀ k (h : k < xs.length) ρ', Inv k ρ' → turnOk T (F (p ++ lk)) p ρ xs[k] ρ' (Inv (k + 1))) : ∃ ρe, o = .nx ρe ∧ Inv xs.length ρe := by
  rw [← hq, oFor_eq]
  exact for_ex hfi Inv h0 h
theorem while_run {c : Ev → Res Bool} {F : List Nat → Ev → Out} {lk : List Nat} {ρ : Ev} {o : Out} (hq : sWhile c F lk ρ = o) (Inv : Nat → Ev → Prop) (n : Nat) (h0 : Inv n ρ)
    (h : ∀ k ρ', Inv (k + 1) ρ' → c ρ' = .ok true ∧ turnOk (fun _ ρ => some ρ) (F lk) [] ρ .non ρ' (Inv k)) (hn : ∀ ρ', Inv 0 ρ' → c ρ' = .ok false) : ∃ ρe, o = .nx ρe ∧ Inv 0 ρe := by
  rw [← hq]
  exact while_ex Inv h0 h hn
end Py
namespace Py
open PySem L2
theorem cMul_r {z w : Int} (h1 : 0 ≤ w) (h2 : w < 4294967296) : cMul z w = true := by
  rw [cMul_eq]
  simp only [Bool.or_eq_true, Bool.and_eq_true, decide_eq_true_eq]
  omega
theorem cMul_l {z w : Int} (h1 : 0 ≤ z) (h2 : z < 4294967296) : cMul z w = true := by
  rw [cMul_eq]
  simp only [Bool.or_eq_true, Bool.and_eq_true, decide_eq_true_eq]
  omega
theorem fmod_nn (z : Int) {w : Int} (h : 0 < w) : 0 ≤ z.fmod w := Int.fmod_nonneg_of_pos z h
theorem fmod_lt (z : Int) {w : Int} (h : 0 < w) : z.fmod w < w := Int.fmod_lt_of_pos z h
end Py
namespace Py
open PySem L2
theorem rngI0_at {n k : Nat} (h : k < (rngI 0 n).length) : (rngI 0 n)[k] = .int k := by
  rw [rngI_at h, Int.zero_add]
end Py
namespace Py
open PySem L2
theorem rngI_var {lo : Int} {n k : Nat} (h : k < (rngI lo n).length) : ∃ x : Int, (rngI lo n)[k] = .int x ∧ x = lo + k := ⟨_, rngI_at h, rfl⟩
end Py

set_option Elab.async false
set_option linter.all false
set_option maxRecDepth 100000
/-! the defs that every law has -/
namespace Py
open PySem L2
noncomputable section
def cellF : List Nat → Ev → Out := (sSeq (sIf (tVal (eBin gLt (eVar 1) (eArgs gLen (aCons (eVar 0) aNil)))) (sRet (eArgs gInt (aCons (eBin gIx (eVar 0) (eVar 1)) aNil))) sNil) (sRet (eK (.int 0))))
def numF : List Nat → Ev → Out := (sSeq (sSet 3 (eArgs gLstD aNil)) (sSeq (sIf (tVal (eBin gGe (eVar 0) (eBin gPow (eK (.int 10)) (eK (.int 18))))) (sSeq (sFor (iRg (aCons (eVar 1) aNil)) (gNm 4) (sSeq (sApp 3 (eBin gMod (eArgs gInt (aCons (eVar 0) aNil)) (eVar 2))) (sSet 0 (eBin gFdiv (eArgs gInt (aCons (eVar 0) aNil)) (eVar 2))))) (sRetV 3)) sNil) (sSeq (sFor (iRg (aCons (eVar 1) aNil)) (gNm 4) (sSeq (sSet 5 (eBin gMod (eArgs gInt (aCons (eBin gAdd (eBin gAdd (eBin gMul (eVar 0) (eK (.int 48271))) (eBin gMul (eVar 4) (eK (.int 69621)))) (eK (.int 7))) aNil)) (eK (.int 2147483647)))) (sSeq (sSet 5 (eBin gMod (eArgs gInt (aCons (eBin gAdd (eBin gAdd (eBin gAdd (eBin gMul (eVar 5) (eVar 5)) (eBin gMul (eVar 5) (eK (.int 40692)))) (eBin gMul (eVar 4) (eK (.int 16807)))) (eK (.int 11))) aNil)) (eK (.int 2147483399)))) (sApp 3 (eBin gMod (eArgs gInt (aCons (eBin gFdiv (eVar 5) (eK (.int 32))) aNil)) (eVar 2)))))) (sRetV 3))))
def sameF (self : List D → Res D) : List Nat → Ev → Out := (sSeq (sIf (tTru (eArgs gIsi (aCons (eVar 1) (aCons (eK (.ty "list")) aNil)))) (sIf (tOrB (tNotB (tTru (eArgs gIsi (aCons (eVar 0) (aCons (eK (.ty "list")) aNil))))) (tVal (eBin gNe (eArgs gLen (aCons (eVar 0) aNil)) (eArgs gLen (aCons (eVar 1) aNil))))) (sRet (eK (.bl false))) sNil) (sIf (tTru (eArgs gIsi (aCons (eVar 1) (aCons (eK (.ty "tuple")) aNil)))) (sIf (tOrB (tNotB (tTru (eArgs gIsi (aCons (eVar 0) (aCons (eK (.ty "tuple")) aNil))))) (tVal (eBin gNe (eArgs gLen (aCons (eVar 0) aNil)) (eArgs gLen (aCons (eVar 1) aNil))))) (sRet (eK (.bl false))) sNil) (sIf (tVal (eBin gIsN (eVar 1) (eK .non))) (sRet (eBin gIsN (eVar 0) (eK .non))) (sIf (tTru (eArgs gIsi (aCons (eVar 1) (aCons (eK (.ty "bool")) aNil)))) (sRet (eAnd (eArgs gIsi (aCons (eVar 0) (aCons (eK (.ty "bool")) aNil))) (eBin gEq (eVar 0) (eVar 1)))) (sIf (tTru (eArgs gIsi (aCons (eVar 1) (aCons (eK (.ty "int")) aNil)))) (sRet (eAnd (eArgs gIsi (aCons (eVar 0) (aCons (eK (.ty "int")) aNil))) (eAnd (eNot (eArgs gIsi (aCons (eVar 0) (aCons (eK (.ty "bool")) aNil)))) (eBin gEq (eVar 0) (eVar 1))))) (sRet (eAnd (eArgs gIsi (aCons (eVar 0) (aCons (eK (.ty "str")) aNil))) (eBin gEq (eVar 0) (eVar 1))))))))) (sSeq (sFor (iRg (aCons (eArgs gLen (aCons (eVar 1) aNil)) aNil)) (gNm 2) (sIf (tNotB (tTru (eCall self 2 (aCons (eBin gIx (eVar 0) (eVar 2)) (aCons (eBin gIx (eVar 1) (eVar 2)) aNil))))) (sRet (eK (.bl false))) sNil)) (sRet (eK (.bl true)))))
end
theorem v_cell (ns : List Int) (k : Nat) : run cellF 2 [.node false .lst (ns.map .int), .int k] = .ok (.int (ns.getD k 0)) := by
  by_cases h : k < ns.length
  · simp [cellF, run, start, h, atI_at]
  · simp [cellF, run, start, h, atI_at]
theorem in62_of {c : Int} (h0 : 0 ≤ c) (h1 : c ≤ 100000) : in62 c = true := in62_iff.mpr ⟨Int.le_trans (by decide) h0, Int.lt_of_le_of_lt h1 (by decide)⟩
theorem hc_num (z w : Int) : cMul (z.fmod 2147483647) w = true := cMul_l (fmod_nn z (by decide)) (Int.lt_trans (fmod_lt z (by decide)) (by decide))
theorem hd_num (z w : Int) (h : w = 48271 ∨ w = 69621 ∨ w = 40692 ∨ w = 16807) : cMul z w = true := by
  rcases h with rfl | rfl | rfl | rfl <;> exact cMul_r (by decide) (by decide)
theorem v_numbers (cell count limit : Int) (hc0 : 0 ≤ count) (hc : count ≤ 100000) (h0 : 0 < limit) (h1 : limit < 1073741824) :
    ∃ L : List Int, L.length = count.toNat ∧ (∀ x ∈ L, 0 ≤ x ∧ x < limit) ∧ run numF 6 [.int cell, .int count, .int limit] = .ok (.node true .lst (L.map .int)) := by
  have hl0 : ¬ limit = 0 := by omega
  have hla : limit.natAbs < 1073741824 := by omega
  have hin : in62 count = true := in62_of hc0 hc
  unfold numF run
  simp [start]
  by_cases h : (1000000000000000000 : Int) ≤ cell
  · simp [h]
    generalize hq : oFor _ _ _ _ _ = o
    obtain ⟨ρe, rfl, h2⟩ := for_run hq (rngI 0 count.toNat) [] (by simp [hin]) (fun k ρ => k ≤ count.toNat ∧ ∃ (c : Int) (l : List Int), l.length = k ∧ (∀ x ∈ l, 0 ≤ x ∧ x < limit) ∧ ρ = [sl (.int c), sl (.int count), sl (.int limit), sl (.node true .lst (l.map .int)), none, none]) ⟨by simp, cell, [], rfl, by simp, rfl⟩ fun k hk ρ hi => by
      obtain ⟨hk2, c, l, hl, hb, rfl⟩ := hi
      obtain ⟨x, hx, _⟩ := rngI_var hk
      have hk : k < count.toNat := by rw [len_rngI] at hk; exact hk
      have hs : ¬ sizeLine ≤ k := by rw [sizeLine_eq]; omega
      simp [hx, hl, putE, kd, hs, hl0, hla]
      refine ⟨by omega, c.fdiv limit, l ++ [c.fmod limit], ?_, ?_, rfl, map_snoc _ _⟩
      · simp [hl]
      · intro x hx
        rcases List.mem_append.mp hx with hx | hx
        · exact hb x hx
        · obtain rfl : x = c.fmod limit := by simpa using hx
          exact ⟨fmod_nn _ h0, fmod_lt _ h0⟩
    obtain ⟨_, c, l, hl, hb, rfl⟩ := h2
    exact ⟨l, by simpa using hl, hb, by simp⟩
  · simp [h]
    generalize hq : oFor _ _ _ _ _ = o
    obtain ⟨ρe, rfl, h2⟩ := for_run hq (rngI 0 count.toNat) [] (by simp [hin]) (fun k ρ => k ≤ count.toNat ∧ ∃ (l : List Int), l.length = k ∧ (∀ x ∈ l, 0 ≤ x ∧ x < limit) ∧ ρ = [sl (.int cell), sl (.int count), sl (.int limit), sl (.node true .lst (l.map .int)), none, none]) ⟨by simp, [], rfl, by simp, rfl⟩ fun k hk ρ hi => by
      obtain ⟨hk2, l, hl, hb, rfl⟩ := hi
      obtain ⟨x, hx, _⟩ := rngI_var hk
      have hk : k < count.toNat := by rw [len_rngI] at hk; exact hk
      have hs : ¬ sizeLine ≤ k := by rw [sizeLine_eq]; omega
      simp [hx, hl, putE, kd, hs, hc_num, hd_num, hl0]
      refine ⟨by omega, _, ?_, ?_, map_snoc _ _⟩
      · simp [hl]
      · intro x hx
        rcases List.mem_append.mp hx with hx | hx
        · exact hb x hx
        · rw [List.mem_singleton] at hx
          rw [hx]
          exact ⟨fmod_nn _ h0, fmod_lt _ h0⟩
    obtain ⟨_, l, hl, hb, rfl⟩ := h2
    exact ⟨l, by simpa using hl, hb, by simp⟩
/-! _law_same of plain things -/
theorem v_same_int (self : List D → Res D) (a b : Int) : run (sameF self) 3 [.int a, .int b] = .ok (.bl (decide (a = b))) := by
  simp [sameF, run, start]
theorem v_same_bl (self : List D → Res D) (a b : Bool) : run (sameF self) 3 [.bl a, .bl b] = .ok (.bl (decide (a = b))) := by
  simp [sameF, run, start, gEq, toPy, sh2, SeqAt.shaped, PyData.eqv, PyData.canLay0, PyData.depth]
  cases a <;> cases b <;> rfl
theorem v_same_nn (self : List D → Res D) : run (sameF self) 3 [.non, .non] = .ok (.bl true) := by
  simp [sameF, run, start]
end Py

set_option Elab.async false
set_option linter.all false
set_option maxRecDepth 100000
namespace Py
open PySem L2
/-! comprehensions -/
theorem lcL_ints {T : D × List Nat → Ev → Option Ev} {tst : Ev → Res Bool} {el : Ev → Res (D × List Nat)} {p : List Nat} {ρ : Ev} : ∀ {xs : List D}, (∀ x ∈ xs, ∃ ρ1, T (mk x p) ρ = some ρ1 ∧ (tst ρ1 = .ok true ∧ (∃ i, el ρ1 = .ok (.int i, [])) ∨ tst ρ1 = .ok false)) →
    ∃ ns : List Int, ns.length ≤ xs.length ∧ lcL T tst el p ρ xs = .ok (ns.map D.int, [])
  | [], _ => ⟨[], Nat.le_refl _, rfl⟩
  | x :: xs, h => by
    obtain ⟨ns, h1, h2⟩ := lcL_ints (xs := xs) fun y hy => h y (List.mem_cons_of_mem _ hy)
    obtain ⟨ρ1, e1, e2⟩ := h x List.mem_cons_self
    rcases e2 with ⟨e2, i, e3⟩ | e2
    · refine ⟨i :: ns, by simp; omega, ?_⟩
      unfold lcL
      rw [e1]
      dsimp only
      rw [e2]
      dsimp only [nors, Res.bind]
      rw [if_pos rfl, e3, h2]
      rfl
    · refine ⟨ns, by simp; omega, ?_⟩
      unfold lcL
      rw [e1]
      dsimp only
      rw [e2]
      dsimp only [nors, Res.bind]
      rw [if_neg (by decide), h2]
theorem eLc_ints {vs : List Nat} {f : Ev → Res (List D × List Nat)} {T : D × List Nat → Ev → Option Ev} {tst : Ev → Res Bool} {el : Ev → Res (D × List Nat)} {ρ : Ev} {r : Res (D × List Nat)} (hq : eLc vs f T tst el ρ = r) (xs : List D) (p : List Nat) (hf : f ρ = .ok (xs, p)) (hl : xs.length ≤ 100000)
    (h : ∀ x ∈ xs, ∃ ρ1, T (mk x p) (wipeE ρ vs) = some ρ1 ∧ (tst ρ1 = .ok true ∧ (∃ i, el ρ1 = .ok (.int i, [])) ∨ tst ρ1 = .ok false)) : ∃ ns : List Int, ns.length ≤ xs.length ∧ r = .ok (.node true .lst (ns.map D.int), []) := by
  obtain ⟨ns, h1, h2⟩ := lcL_ints h
  refine ⟨ns, h1, ?_⟩
  rw [← hq]
  unfold eLc
  rw [hf]
  dsimp only [Res.bind]
  rw [h2]
  dsimp only
  rw [if_pos (by rw [List.length_map, sizeLine_eq]; omega)]
  simp
/-- .. exactly -/
theorem eLc_map {α : Type} {vs : List Nat} {f : Ev → Res (List D × List Nat)} {T : D × List Nat → Ev → Option Ev} {tst : Ev → Res Bool} {el : Ev → Res (D × List Nat)} {ρ : Ev} {r : Res (D × List Nat)} (hq : eLc vs f T tst el ρ = r) (xs : List α) (j : α → D) (P : α → Bool) (g : α → Int) (p : List Nat) (hf : f ρ = .ok (xs.map j, p)) (hl : xs.length ≤ 100000)
    (h : ∀ x ∈ xs, ∃ ρ1, T (mk (j x) p) (wipeE ρ vs) = some ρ1 ∧ tst ρ1 = .ok (P x) ∧ (P x = true → el ρ1 = .ok (.int (g x), []))) : r = .ok (.node true .lst (((xs.filter P).map g).map D.int), []) := by
  have h2 := lcL_ix (h := fun x => D.int (g x)) h
  rw [← hq]
  unfold eLc
  rw [hf]
  dsimp only [Res.bind]
  rw [h2]
  dsimp only
  have h3 := List.length_filter_le P xs
  rw [if_pos (by rw [List.length_map, sizeLine_eq]; omega)]
  have : List.map (fun x => D.int (g x)) (List.filter P xs) = ((xs.filter P).map g).map D.int := by rw [List.map_map]; rfl
  rw [this]
  show Res.ok (mk _ _) = _
  unfold mk
  rw [if_pos (by rw [noShr_node, noShr_ints]; rfl)]
theorem mem_rngI {lo : Int} {n : Nat} {x : D} (h : x ∈ rngI lo n) : ∃ i : Int, x = .int i ∧ lo ≤ i ∧ i < lo + n := by
  unfold rngI at h
  obtain ⟨k, hk, rfl⟩ := List.mem_map.mp h
  have := List.mem_range.mp hk
  exact ⟨_, rfl, by omega, by omega⟩
theorem rngI_ints (lo : Int) (n : Nat) : rngI lo n = ((List.range n).map fun k => lo + ((k : Nat) : Int)).map D.int := by unfold rngI; rw [List.map_map]; rfl
@[simp] theorem wipe0 (ρ : Ev) : wipeE ρ [] = ρ := Eq.trans rfl rfl
@[simp] theorem wipe1 (ρ : Ev) (v : Nat) (vs : List Nat) : wipeE ρ (v :: vs) = (wipeE ρ vs).set v none := Eq.trans rfl rfl
/-- xs[i] of ints -/
theorem atI_int {L : List Int} {i : Int} (h0 : 0 ≤ i) (h1 : i < L.length) : atI (L.map D.int) i = some (.int (L.getD i.toNat 0)) := by
  obtain ⟨k, rfl⟩ := Int.eq_ofNat_of_zero_le h0
  have hk : k < L.length := by omega
  have e : (L.map D.int)[k]? = some (.int (L.getD k 0)) := by
    rw [List.getElem?_map, List.getElem?_eq_getElem hk]
    simp [hk]
  rw [Int.toNat_natCast]
  exact atI_nat (j := k) e
@[simp] theorem gSS_of {o : Bool} {ns : List Int} (h : ns.length ≤ 4000) : gSS (.node o .lst (ns.map D.int)) = some (.node true .lst ((sset ns).map D.int)) := by
  unfold gSS
  simp only [intL_map, Option.bind_some, h, if_true]
@[simp] theorem gIn_ints (o : Bool) (i : Int) (ns : List Int) : gIn (.int i) (.node o .lst (ns.map D.int)) = some (.bl (decide (i ∈ ns))) := by
  unfold gIn; rw [inB_ints]; rfl
@[simp] theorem gNotIn_ints (o : Bool) (i : Int) (ns : List Int) : gNotIn (.int i) (.node o .lst (ns.map D.int)) = some (.bl (decide (i ∉ ns))) := by
  unfold gNotIn; rw [inB_ints]; simp
end Py
namespace Py
open PySem L2
theorem while_dec {c : Ev → Res Bool} {F : List Nat → Ev → Out} {lk : List Nat} {ρ : Ev} {o : Out} (hq : sWhile c F lk ρ = o) (Inv : Nat → Ev → Prop) (Post : Ev → Prop) (n : Nat) (h0 : Inv n ρ)
    (h : ∀ k ρ', Inv k ρ' → (c ρ' = .ok false ∧ Post ρ') ∨ (c ρ' = .ok true ∧ turnOk (fun _ ρ => some ρ) (F lk) [] ρ .non ρ' fun ρ'' => ∃ j, j < k ∧ Inv j ρ'')) : ∃ ρe, o = .nx ρe ∧ Post ρe := by
  have go : ∀ m ρ', Inv m ρ' → ∃ t ρe, whF c (F lk) ρ t ρ' = some (.nx ρe) ∧ Post ρe := by
    intro m
    induction m using Nat.strongRecOn with
    | _ m ih =>
      intro ρ' hi
      rcases h m ρ' hi with ⟨h1, h2⟩ | ⟨h1, h2⟩
      · refine ⟨1, ρ', ?_, h2⟩
        unfold whF
        rw [h1]
      · obtain ⟨ρ1, ρ2, e0, e1, j, hj, hI⟩ := turnOk_ex h2
        cases e0
        obtain ⟨t, ρe, e2, e3⟩ := ih j hj _ hI
        refine ⟨t + 1, ρe, ?_, e3⟩
        unfold whF
        rw [h1]
        dsimp only
        rcases e1 with e1 | e1
        · rw [e1]; exact e2
        · rw [e1]; exact e2
  obtain ⟨t, ρe, e1, e2⟩ := go n ρ h0
  exact ⟨ρe, by rw [← hq]; exact sWhile_eq e1, e2⟩
end Py
namespace Py
open PySem L2
/-! dicts, found and put -/
theorem dput_same {κ : Type} [DecidableEq κ] : ∀ {ks : List κ} {xs : List D} {k : κ} {v : D}, ks.length = xs.length → (dput ks xs k v).1.length = (dput ks xs k v).2.length := dput_len
theorem dput_le {κ : Type} [DecidableEq κ] : ∀ {ks : List κ} {xs : List D} {k : κ} {v : D}, (dput ks xs k v).2.length ≤ xs.length + 1
  | [], xs, k, v => by unfold dput; cases xs <;> simp
  | k' :: ks, [], k, v => by unfold dput; simp
  | k' :: ks, x :: xs, k, v => by
    have := dput_le (ks := ks) (xs := xs) (k := k) (v := v)
    unfold dput
    split
    · simp
    · simp; omega
theorem dfind_dput {κ : Type} [DecidableEq κ] : ∀ {ks : List κ} {xs : List D} {k j : κ} {v : D}, ks.length = xs.length → dfind (dput ks xs k v).1 (dput ks xs k v).2 j = if j = k then some v else dfind ks xs j
  | [], [], k, j, v, _ => by
    unfold dput
    by_cases h : k = j
    · subst h; simp [dfind]
    · have h' : ¬ j = k := fun e => h e.symm
      simp [dfind, h, h']
  | k' :: ks, x :: xs, k, j, v, e => by
    have ih := dfind_dput (ks := ks) (xs := xs) (k := k) (j := j) (v := v) (by simpa using e)
    unfold dput
    by_cases h : k' = k
    · rw [if_pos h]
      subst h
      by_cases hj : k' = j
      · subst hj; simp [dfind]
      · have h' : ¬ j = k' := fun e => hj e.symm
        simp [dfind, hj, h']
    · rw [if_neg h]
      simp only [dfind]
      rw [ih]
      by_cases hj : k' = j
      · subst hj
        simp [h]
      · simp [hj]
  | [], _ :: _, _, _, _, e => by cases e
  | _ :: _, [], _, _, _, e => by cases e
theorem dstore_dK {ks : List Key} {xs : List D} {i : Int} {v : D} (h : xs.length < 1000000) : dstore (.dK ks) xs (.int i) v = some (.dK (dput ks xs (.inl i) v).1, (dput ks xs (.inl i) v).2) := by
  unfold dstore
  simp only [dkey, Option.bind_some]
  rw [if_pos (by rw [sizeLine_eq]; omega)]
@[simp] theorem gNotIn_dK (o : Bool) (ks : List Key) (xs : List D) (i : Int) : gNotIn (.int i) (.node o (.dK ks) xs) = some (.bl (!(dfind ks xs (.inl i)).isSome)) := Eq.trans rfl rfl
@[simp] theorem gIn_dK (o : Bool) (ks : List Key) (xs : List D) (i : Int) : gIn (.int i) (.node o (.dK ks) xs) = some (.bl (dfind ks xs (.inl i)).isSome) := Eq.trans rfl rfl
@[simp] theorem at_sSub {i : Nat} {fk fe : Ev → Res (D × List Nat)} {lk : List Nat} {ρ : Ev} : sSub i fk fe lk ρ = match fe ρ with
  | .ok r => match ρ[i]? with
    | some (some ⟨.node true t xs, dp⟩) => match fk ρ with
      | .ok kk => match dstore t xs kk.1 r.1 with
        | some (t', xs') => if (lk.contains i || (dp ++ r.2).contains i) = true then .stuck else .nx (putE i (.node true t' xs', dp ++ r.2) ρ)
        | none => .stuck
      | .rs c => .rs c ρ
      | .stuck => .stuck
    | _ => .stuck
  | .rs c => .rs c ρ
  | .stuck => .stuck := Eq.trans rfl rfl
end Py
namespace Py
open PySem L2
/-- .. the items told one by one -/
theorem for_at {fi : Ev → Res (List D × List Nat)} {T : D × List Nat → Ev → Option Ev} {F : List Nat → Ev → Out} {lk : List Nat} {ρ : Ev} {o : Out} (hq : oFor fi T F lk ρ = o) (xs : List D) (p : List Nat) (n : Nat) (hn : xs.length = n) (hfi : fi ρ = .ok (xs, p)) (Inv : Nat → Ev → Prop) (h0 : Inv 0 ρ)
    (h : ∀ k x, xs[k]? = some x → k < n → ∀ ρ', Inv k ρ' → turnOk T (F (p ++ lk)) p ρ x ρ' (Inv (k + 1))) : ∃ ρe, o = .nx ρe ∧ Inv n ρe := by
  subst hn
  exact for_run hq xs p hfi Inv h0 fun k hk ρ' hi => h k xs[k] (List.getElem?_eq_getElem hk) hk ρ' hi
/-- .. of a range from lo -/
theorem for_rng {fi : Ev → Res (List D × List Nat)} {T : D × List Nat → Ev → Option Ev} {F : List Nat → Ev → Out} {lk : List Nat} {ρ : Ev} {o : Out} (hq : oFor fi T F lk ρ = o) (lo : Int) (n : Nat) (p : List Nat) (hfi : fi ρ = .ok (rngI lo n, p)) (Inv : Nat → Ev → Prop) (h0 : Inv 0 ρ)
    (h : ∀ (k : Nat) (x : Int), x = lo + k → k < n → ∀ ρ', Inv k ρ' → turnOk T (F (p ++ lk)) p ρ (.int x) ρ' (Inv (k + 1))) : ∃ ρe, o = .nx ρe ∧ Inv n ρe :=
  for_at hq _ p n (rngI_length lo n) hfi Inv h0 fun k x hx hk ρ' hi => by rw [rngI_get hx]; exact h k _ rfl hk ρ' hi
/-- .. of a list of ints -/
theorem for_ints {fi : Ev → Res (List D × List Nat)} {T : D × List Nat → Ev → Option Ev} {F : List Nat → Ev → Out} {lk : List Nat} {ρ : Ev} {o : Out} (hq : oFor fi T F lk ρ = o) (ns : List Int) (p : List Nat) (hfi : fi ρ = .ok (ns.map D.int, p)) (Inv : Nat → Ev → Prop) (h0 : Inv 0 ρ)
    (h : ∀ k x, x ∈ ns → ns.take (k + 1) = ns.take k ++ [x] → k < ns.length → ∀ ρ', Inv k ρ' → turnOk T (F (p ++ lk)) p ρ (.int x) ρ' (Inv (k + 1))) : ∃ ρe, o = .nx ρe ∧ Inv ns.length ρe :=
  for_at hq _ p ns.length (List.length_map ..) hfi Inv h0 fun k x hx hk ρ' hi => by
    rw [List.getElem?_map, List.getElem?_eq_getElem hk] at hx
    cases hx
    exact h k _ (List.getElem_mem hk) (by rw [List.take_succ_eq_append_getElem hk]) hk ρ' hi
end Py
namespace Py
open PySem L2
theorem frzL_dput {κ : Type} [DecidableEq κ] : ∀ {ks : List κ} {xs : List D} {k : κ} {v : D}, frzL xs = xs → frz v = v → frzL (dput ks xs k v).2 = (dput ks xs k v).2
  | [], xs, k, v, h1, h2 => by unfold dput; cases xs <;> simp [h2]
  | k' :: ks, [], k, v, h1, h2 => by unfold dput; simp [h2]
  | k' :: ks, x :: xs, k, v, h1, h2 => by
    rw [frzL_cons] at h1
    injection h1 with h3 h4
    have ih := frzL_dput (ks := ks) (xs := xs) (k := k) (v := v) h4 h2
    unfold dput
    split
    · simp [h2, h4]
    · simp [h3, ih]
end Py
namespace Py
open PySem L2
theorem turnOk_imp {T : D × List Nat → Ev → Option Ev} {B : Ev → Out} {p : List Nat} {ρ0 : Ev} {x : D} {ρ : Ev} {Q Q' : Ev → Prop} (h : turnOk T B p ρ0 x ρ Q) (hi : ∀ ρ, Q ρ → Q' ρ) : turnOk T B p ρ0 x ρ Q' := by
  unfold turnOk at h ⊢
  cases e1 : T (mk x p) ρ with
  | none => rw [e1] at h; exact h
  | some ρ1 =>
    rw [e1] at h
    dsimp only at h ⊢
    cases e2 : B ρ1 with
    | nx ρ2 => rw [e2] at h; exact hi _ h
    | ct ρ2 => rw [e2] at h; exact hi _ h
    | _ => rw [e2] at h; exact h
end Py

set_option Elab.async false
set_option linter.all false
set_option maxRecDepth 100000
/-! more rules: tuple targets, constants of the module, any and all, xs[::-1], enumerate, zip, pop -/
namespace Py
open PySem PySem.Spec L2 PyProof.Rows
/-- target = e, what e gives is only read from here on -/
def sAsgG (G : D × List Nat → Ev → Option Ev) (f : Ev → Res (D × List Nat)) : List Nat → Ev → Out := fun _ ρ => match f ρ with
  | .ok r => match G (mk (frz r.1) r.2) ρ with
    | some ρ' => .nx ρ'
    | none => .stuck
  | .rs c => .rs c ρ
  | .stuck => .stuck
def boolL : List D → Option (List Bool)
  | [] => some []
  | .bl b :: ds => (boolL ds).map fun r => b :: r
  | _ :: _ => none
theorem boolL_map : ∀ bs : List Bool, boolL (bs.map D.bl) = some bs
  | [] => rfl
  | b :: bs => by rw [List.map_cons, boolL, boolL_map bs]; rfl
theorem boolL_eq : ∀ {ds : List D} {bs : List Bool}, boolL ds = some bs → ds = bs.map D.bl
  | [], _, h => by cases h; rfl
  | d :: ds, _, h => by
    cases d with
    | bl i =>
      rw [boolL] at h
      cases e : boolL ds with
      | none => rw [e] at h; cases h
      | some r => rw [e] at h; cases h; rw [boolL_eq e]; rfl
    | _ => cases h
def gAny : List D → Option D
  | [.node _ .lst xs] => (boolL xs).map fun bs => .bl (bs.any id)
  | _ => none
def gAll : List D → Option D
  | [.node _ .lst xs] => (boolL xs).map fun bs => .bl (bs.all id)
  | _ => none
def gRevL : D → Option D
  | .node _ .lst xs => some (.node true .lst xs.reverse)
  | _ => none
def gGcd : List D → Option D
  | [.int i, .int j] => some (.int ((Int.gcd i j : Nat) : Int))
  | _ => none
/-- enumerate(list) -/
def enumD (i : Nat) : List D → List D
  | [] => []
  | d :: ds => .node false .tup [.int (i : Nat), d] :: enumD (i + 1) ds
def iEn (f : Ev → Res (D × List Nat)) : Ev → Res (List D × List Nat) := fun ρ => (f ρ).bind fun a => match a.1 with
  | .node _ .lst xs => .ok (enumD 0 (xs.map frz), a.2)
  | _ => .stuck
section
variable {K : PySem.W.Frag}
theorem bools_inv {H : Hp} {R : Addr → Prop} : ∀ {ns : List Bool} {vs : List V} {fp : List Addr}, RepL K H R vs (ns.map D.bl) fp → vs = ns.map V.bl
  | [], _, _, .nil => rfl
  | n :: ns, _, _, .cons h l => by
    rw [bools_inv l]
    cases h
    rfl
theorem prim_any : PrimL K (rAny K) gAny := by
  intro H R xs ds f d Q r n e h
  unfold gAny at e
  split at e
  · rename_i xs
    cases e1 : boolL xs with
    | none => rw [e1] at e; cases e
    | some bs =>
      rw [e1] at e
      cases e
      obtain ⟨v, rfl, r1⟩ := r.r1
      obtain ⟨a, vs, f', rfl, hs, l, s⟩ := r1.sqL
      rw [boolL_eq e1] at l
      rw [bools_inv l] at hs
      exact ⟨a, bs, rfl, hs, out1 h⟩
  · cases e
theorem prim_all : PrimL K (rAll K) gAll := by
  intro H R xs ds f d Q r n e h
  unfold gAll at e
  split at e
  · rename_i xs
    cases e1 : boolL xs with
    | none => rw [e1] at e; cases e
    | some bs =>
      rw [e1] at e
      cases e
      obtain ⟨v, rfl, r1⟩ := r.r1
      obtain ⟨a, vs, f', rfl, hs, l, s⟩ := r1.sqL
      rw [boolL_eq e1] at l
      rw [bools_inv l] at hs
      exact ⟨a, bs, rfl, hs, out1 h⟩
  · cases e
theorem prim_gcd : PrimL K rGcd gGcd := by
  intro H R xs ds f d Q r n e h
  unfold gGcd at e
  split at e
  · cases e
    exact ⟨_, _, r.i2, outI h⟩
  · cases e
theorem RepL.rev {H : Hp} {R : Addr → Prop} {vs : List V} {ds : List D} {f : List Addr} (l : RepL K H R vs ds f) (n : f.Nodup) : ∃ g, RepL K H R vs.reverse ds.reverse g ∧ g.Nodup ∧ ∀ a, a ∈ g ↔ a ∈ f := by
  induction vs generalizing ds f with
  | nil => cases l; exact ⟨[], .nil, List.nodup_nil, fun a => Iff.rfl⟩
  | cons v vs ih =>
    cases l with
    | @cons _ _ d ds' f1 f2 h l =>
      obtain ⟨n1, n2, n3⟩ := List.nodup_append.mp n
      obtain ⟨g, lg, ng, mg⟩ := ih l n2
      refine ⟨g ++ f1, ?_, ap_nodup ng n1 fun a h1 h2 => n3 a h2 a ((mg a).mp h1) rfl, fun a => ?_⟩
      · rw [List.reverse_cons, List.reverse_cons]
        exact lg.append (RepL.one h)
      · rw [List.mem_append, List.mem_append, mg]
        exact Or.comm
theorem prim_rev : Prim1 K (fun x H1 Q => ∃ a xs, x = .ref a ∧ SqL K H1 a xs ∧ ∀ p, H1 p = none → Q (.ref p) (upd H1 p (.lst xs.reverse))) gRevL := by
  intro H R x d1 f1 d Q r1 n e h
  unfold gRevL at e
  split at e
  · cases e
    obtain ⟨a, vs, f, rfl, hs, l, s⟩ := r1.sqL
    obtain ⟨g, lg, ng, mg⟩ := l.rev (n.sublist s)
    exact ⟨a, vs, rfl, hs, fun p hp => newLst lg ng (fun c hc => s.subset ((mg c).mp hc)) h hp⟩
  · cases e
theorem enumD_get : ∀ {ds : List D} {i k : Nat} {d : D}, (enumD i ds)[k]? = some d → ∃ e, ds[k]? = some e ∧ d = .node false .tup [.int ((i + k : Nat) : Int), e]
  | [], _, _, _, h => by simp [enumD] at h
  | e :: ds, i, 0, d, h => by
    simp [enumD] at h
    exact ⟨e, by simp, by rw [← h]; rfl⟩
  | e :: ds, i, k + 1, d, h => by
    simp only [enumD, List.getElem?_cons_succ] at h
    obtain ⟨e', h1, h2⟩ := enumD_get (i := i + 1) h
    refine ⟨e', by simpa using h1, ?_⟩
    rw [h2]
    have : i + 1 + k = i + (k + 1) := by omega
    rw [this]
theorem enumD_len : ∀ (ds : List D) (i : Nat), (enumD i ds).length = ds.length
  | [], _ => rfl
  | _ :: ds, i => by simp [enumD, enumD_len ds]
theorem walks_enum {H1 : Hp} {Rg : Addr → Prop} {a : Addr} {vs : List V} {ds : List D} (h : ∀ H2, Stays Rg H1 H2 → SqL K H2 a vs) (l : RepL K H1 Rg vs (ds.map Py.frz) []) : Walks K (Ite K a) H1 Rg (enumD 0 (ds.map Py.frz)) := by
  have el := l.length
  have elen : (enumD 0 (ds.map Py.frz)).length = vs.length := by rw [enumD_len, el]
  refine Walks.of (G := fun H => SqL K H a vs) (by rw [elen]; exact walk_enum) h (fun i H2 s hi => ⟨vs, h H2 s, by omega⟩) fun i H2 x H3 d s y e => ?_
  obtain ⟨T, v1, v2, rfl, hT, rfl, e1, e2⟩ := y
  obtain ⟨e', h1, rfl⟩ := enumD_get e
  obtain ⟨v, f, ev, r, sf⟩ := l.get h1
  have e2 : vs[i]? = some v2 := e2
  have e1 : some (V.int ((i : Nat) : Int)) = some v1 := e1
  rw [ev] at e2; cases e2
  cases e1
  cases List.sublist_nil.mp sf
  have sm : Same H2 (upd H2 T (.tup [V.int (i : Nat), v2])) := same_upd hT
  refine ⟨sm, ?_⟩
  have r2 : Rep K (upd H2 T (.tup [V.int (i : Nat), v2])) Rg v2 e' [] := (r.stays s).same (fun _ z => z) sm
  refine .tup upd_same (RepL.cons (f := []) (g := []) ?_ (RepL.one r2))
  rw [Nat.zero_add]
  exact .int _
end
section
variable {ι : Type} {X : ι → Cx} {P : Program} {w : World} {K : PySem.W.Frag} {mg : Str → Option Value} {base : Heap} {N : List Str} {k : Nat} {W : WX} {pos : Pos}
theorem vs_asgT {tg e : Expr} {f : Ev → Res (D × List Nat)} {G : D × List Nat → Ev → Option Ev} {ts : List Nat} (he : VE K mg X e f) (hg : VG K X tg ts G) (hs : ∀ i, swapsWithSole [tg] e pos.line (X i).env = pure false := by intro _; rfl) (hw : ∀ i, swappedStores [tg] e (X i).env = pure none := by intro _; rfl)
    (h1 : ∀ i, (assignEach [tg] (X i).env).map (·.2) = [assign tg (X i).env] := by intro _; rfl) : VS K mg X (.Assign [tg] e pos) (sAsgG G f) := by
  intro W tk
  obtain ⟨t, p, q⟩ := he W tk
  obtain ⟨g, pg, qg⟩ := hg
  refine ⟨tAsg t g, fun i => ps_asg (p i) (pg i) (hs i) (hw i) (h1 i), fun lk S fps ρ σ H E ok h => ?_⟩
  unfold sAsgG at h
  refine q S fps ρ σ H _ ok ?_
  cases e1 : f ρ with
  | stuck => rw [e1] at h; exact h
  | rs c => rw [e1] at h; exact rs_grow ok h
  | ok r =>
    rw [e1] at h
    intro v fp S1 H1 g1 rv n1 z1
    dsimp only at h
    obtain ⟨g2, r1, r2⟩ := region (p := r.2) ok g1 z1 rv.dom
    have rf := rv.frz r1 r2
    cases e2 : G (mk (frz r.1) r.2) ρ with
    | none => rw [e2] at h; exact h.elim
    | some ρ' =>
      rw [e2] at h
      exact qg _ fps lk ρ σ H1 v (mk (frz r.1) r.2) ρ' _ (ok.grow g2) rf.mkd e2 fun S2 fps2 σ2 ok2 st2 _ => h S2 fps2 σ2 H1 ((g2.step ok).trans (ok.grow g2) st2) ok2
/-- a number of the module -/
theorem ve_globI {x : Str} {n : Int} {pos : Pos} (hF : Fam P w K mg base N k X) (hg : ∀ i, Gl (X i) x) (h : ∃ u, mg x = some u ∧ RelV (.int n) u) (hd : (x == ("__debug__" : Str)) = false := by decide) : VE K mg X (.Name x pos) (eK (.int n)) :=
  let ⟨_, h1, h2⟩ := h; ve_glob hF hg h1 h2 (fun _ => .int n) hd
theorem ve_globS {x s : Str} {pos : Pos} (hF : Fam P w K mg base N k X) (hg : ∀ i, Gl (X i) x) (h : ∃ u, mg x = some u ∧ RelV (.str s) u) (hd : (x == ("__debug__" : Str)) = false := by decide) : VE K mg X (.Name x pos) (eK (.str s)) :=
  let ⟨_, h1, h2⟩ := h; ve_glob hF hg h1 h2 (fun _ => .str s) hd
theorem ve_rev {e : Expr} {f : Ev → Res (D × List Nat)} {kk : Nat} {p1 p2 p3 : Pos} (hF : Fam P w K mg base N k X) (he : VE K mg X e f) : VE K mg X (.Subscript e (.Slice none none (some (.UnaryOp .USub (.Constant (.int 1) kk p1) p2)) p3) pos) (eUn gRevL f) := by
  intro W tk
  obtain ⟨t, p, q⟩ := he W tk
  exact ⟨tRevL K t, fun i => by have z := pe_revL (k := kk) (p1 := p1) (p2 := p2) (p3 := p3) (pos := pos) (p i); rw [hF.kk i] at z; exact z, fun S fps ρ σ H Q ok h => un_sem prim_rev q ok h⟩
theorem ve_gcd {x : Str} {p : Pos} {e : Expr} {es : List Expr} {f : Ev → Res (List D × List Nat)} (hF : Fam P w K mg base N k X) (hg : ∀ i, Gl (X i) x) (hm : mg x = some (.builtin "math.gcd")) (ha : VA K mg X (e :: es) f)
    (hdb : (x == ("__debug__" : Str)) = false := by decide) (he : ∀ i, starEach (e :: es) (X i).env = (false, eval e (X i).env) :: starEach es (X i).env := by intro _; rfl) (hpl : ∀ i, (backTo pos (starEach es (X i).env)).any (·.1) = false := by intro _; rfl) :
    VE K mg X (.Call (.Name x p) (e :: es) [] pos) (eArgs gGcd f) := by
  intro W tk
  obtain ⟨t, pa, q⟩ := ha W tk
  exact ⟨_, fun i => pe_callBfun cr_gcd (hg i) (by rw [hF.mm i]; exact hm) (pa i) hdb (he i) (hpl i), fun S fps ρ σ H Q ok h => args_sem prim_gcd q ok h⟩
theorem vi_enum {e : Expr} {f : Ev → Res (D × List Nat)} {p tpos : Pos} {elts : List Expr} {kk : Nat} (hF : Fam P w K mg base N k X) (hg : ∀ i, Gl (X i) "enumerate") (hm : mg "enumerate" = none) (ha : VE K mg X e f) (hs : ∀ i, starEach [e] (X i).env = [(false, eval e (X i).env)] := by intro _; rfl) :
    VI K mg X (.Tuple elts kk tpos) (.Call (.Name "enumerate" p) [e] [] pos) (iEn f) := by
  intro W tk
  obtain ⟨t, pa, q⟩ := ha W tk
  refine ⟨iEnum K (tCons t tNil), fun i => by have z := pi_enum (p := p) (pos := pos) (tpos := tpos) (elts := elts) (kk := kk) (hg i) (by rw [hF.mm i]; exact hm) (pa_cons (pa i) pa_nil (hs i)) (hs i); rw [hF.kk i] at z; exact z, fun S fps ρ σ H R ok h => ?_⟩
  unfold iEn at h
  refine q S fps ρ σ H _ ok ?_
  cases e1 : f ρ with
  | stuck => rw [e1] at h; exact h
  | rs c => rw [e1] at h; exact h
  | ok r =>
    obtain ⟨d, dp⟩ := r
    rw [e1] at h
    intro v fp S1 H1 g rv n z
    dsimp only [Res.bind] at h
    cases d with
    | node o tt ds =>
      cases tt with
      | lst =>
        obtain ⟨g2, r1, r2⟩ := region (p := dp) ok g z rv.dom
        obtain ⟨a, vs, rfl, hs, rl, _⟩ := rv.lst r1 r2
        exact ⟨a, vs, rfl, hs H1 Stays.refl, h _ _ _ g2 (walks_enum hs rl)⟩
      | _ => exact h.elim
    | _ => exact h.elim
end
end Py

set_option Elab.async false
set_option linter.all false
set_option maxRecDepth 100000
/-! ys.append(xs.pop(e)), y = xs.pop(e) -/
namespace Py
open PySem PySem.Spec L2 PyProof.Rows
/-- the item popped, and what is left -/
noncomputable def popD (xs : List D) (n : Int) : Option (D × List D) := if opq (decide (-(2 ^ 63) ≤ n) && decide (n < 2 ^ 63)) = true then (seqIndex? n xs.length).bind fun k => (xs[k]?).bind fun d => if flat d = true then some (d, xs.eraseIdx k) else none else none
/-- what a pop does -/
noncomputable def popE (j : Nat) (fe : Ev → Res (D × List Nat)) (lk : List Nat) (ρ : Ev) : Res (D × Ev) := match ρ[j]? with
  | some (some ⟨.node true .lst xs, dp⟩) => match fe ρ with
    | .ok r => match r.1 with
      | .int n => match popD xs n with
        | some (d, xs') => if (lk.contains j || dp.contains j) = true then .stuck else .ok (d, putE j (.node true .lst xs', dp) ρ)
        | none => .stuck
      | _ => .stuck
    | .rs c => .rs c
    | .stuck => .stuck
  | _ => .stuck
noncomputable def sAppPop (i j : Nat) (fe : Ev → Res (D × List Nat)) : List Nat → Ev → Out := fun lk ρ => match ρ[i]? with
  | some (some ⟨.node true .lst _, _⟩) => match popE j fe lk ρ with
    | .ok (d, ρ1) => match ρ1[i]? with
      | some (some ⟨.node true .lst ys, dp⟩) => if (lk.contains i || dp.contains i || decide (sizeLine ≤ ys.length)) = true then .stuck else .nx (putE i (.node true .lst (ys ++ [d]), dp) ρ1)
      | _ => .stuck
    | .rs c => .rs c ρ
    | .stuck => .stuck
  | _ => .stuck
noncomputable def sSetPop (i j : Nat) (fe : Ev → Res (D × List Nat)) : List Nat → Ev → Out := fun lk ρ => match popE j fe lk ρ with
  | .ok (d, ρ1) => .nx (asg i (d, []) ρ1)
  | .rs c => .rs c ρ
  | .stuck => .stuck
section
variable {K : PySem.W.Frag}
theorem RepL.erase {H : Hp} {R : Addr → Prop} : ∀ {vs : List V} {ds : List D} {f : List Addr} (k : Nat), RepL K H R vs ds f → ∃ g, RepL K H R (vs.eraseIdx k) (ds.eraseIdx k) g ∧ g.Sublist f
  | _, _, _, _, .nil => ⟨[], .nil, List.Sublist.refl _⟩
  | _, _, _, 0, .cons (f := f) (g := g) h l => ⟨g, l, List.sublist_append_right _ _⟩
  | _, _, _, k + 1, .cons (f := f) (g := g) h l => by
    obtain ⟨g', l', s⟩ := l.erase k
    exact ⟨f ++ g', .cons h l', List.Sublist.append (List.Sublist.refl _) s⟩
mutual
theorem noShr_of_frz : ∀ d : D, noShr (Py.frz d) = true → noShr d = true
  | .node o t xs, h => by
    rw [Py.frz, noShr] at h
    rw [noShr]
    obtain ⟨h1, h2⟩ := Bool.and_eq_true_iff.mp h
    rw [noShrL_of_frz xs h2]
    have h1 : t.isT = true := h1
    rw [h1]
    cases o <;> rfl
  | .non, _ => rfl
  | .bl _, _ => rfl
  | .int _, _ => rfl
  | .str _, _ => rfl
  | .ty _, _ => rfl
theorem noShrL_of_frz : ∀ ds : List D, noShrL (Py.frzL ds) = true → noShrL ds = true
  | [], _ => rfl
  | d :: ds, h => by
    rw [Py.frzL, noShrL] at h
    obtain ⟨h1, h2⟩ := Bool.and_eq_true_iff.mp h
    rw [noShrL, noShr_of_frz d h1, noShrL_of_frz ds h2]
    rfl
end
variable {ι : Type} {X : ι → Cx} {P : Program} {w : World} {mg : Str → Option Value} {base : Heap} {N : List Str} {k : Nat} {W : WX} {pos : Pos}
theorem pop_sem {S : Addr → Prop} {fps : Nat → List Addr} {lk : List Nat} {ρ : Ev} {σ : L2.St} {H : Hp} {j : Nat} {fe : Ev → Res (D × List Nat)} {te : TE} {Q : VK} (q : ∀ S fps ρ σ H Q, Ok K S fps ρ σ H → EPost K mg W S fps σ H (fe ρ) Q → te σ H Q) (ok : Ok K S fps ρ σ H)
    (h : match popE j fe lk ρ with
      | .ok (d, ρ1) => ∀ S' fps' H' v, Step S fps lk H S' fps' H' → Ok K S' fps' ρ1 σ H' → Rep K H' (fun _ => False) v d [] → Q v H'
      | .rs c => ∀ C H', mg c = some (.ref C) → Same H H' → W (.ref C) none σ H'
      | .stuck => False) : tBM K "list" rPopAt (tVar j) (tCons te tNil) σ H Q := by
  unfold popE at h
  split at h
  · rename_i d ρ1 e0
    revert e0
    split
    · rename_i xs dp e
      intro e0
      obtain ⟨a, vs, f0, hσ, ha, ht, hw, rl, hi⟩ := ok.mine e
      refine ⟨.ref a, hσ, .inl ⟨rfl, vs, .inl (.inl ha)⟩, q S fps ρ σ H _ ok ?_⟩
      revert e0
      cases e1 : fe ρ with
      | stuck => intro e0; cases e0
      | rs c => intro e0; cases e0
      | ok r =>
        dsimp only
        obtain ⟨rd, rp⟩ := r
        dsimp only
        cases rd with
        | int n =>
          dsimp only
          cases e2 : popD xs n with
          | none => intro e0; cases e0
          | some pr =>
            obtain ⟨d', xs'⟩ := pr
            dsimp only
            split
            · intro e0; cases e0
            · rename_i hc
              intro e0
              cases e0
              simp only [Bool.or_eq_true, not_or, List.contains_eq_mem, decide_eq_true_eq] at hc
              obtain ⟨hlk, hdp⟩ := hc
              unfold popD at e2
              rw [opq_eq] at e2
              split at e2
              · rename_i hb
                simp only [Bool.and_eq_true, decide_eq_true_eq] at hb
                cases e3 : seqIndex? n xs.length with
                | none => rw [e3] at e2; cases e2
                | some kk =>
                  rw [e3] at e2
                  dsimp only [Option.bind] at e2
                  cases e4 : xs[kk]? with
                  | none => rw [e4] at e2; cases e2
                  | some dd =>
                    rw [e4] at e2
                    dsimp only at e2
                    split at e2
                    · rename_i hflat
                      cases e2
                      intro v fp S1 H1 g rv nv zv
                      cases rv
                      have ha1 := g.same a _ ha
                      have rl1 : RepL K H1 (Reg S1 fps dp) vs xs f0 := rl.same (Reg.mono g.sub fun _ z => z) g.same
                      obtain ⟨y, fy, ey, ry, sy⟩ := rl1.get e4
                      obtain ⟨gq, rl2, sg⟩ := rl1.erase kk
                      have nd0 : (a :: f0).Nodup := hi ▸ ok.nd j
                      have nd : (a :: gq).Nodup := nd0.sublist (sg.cons_cons a)
                      obtain ⟨S', fps', ok2, st2⟩ := put_ok (lk := lk) (t' := .lst) ok g e hσ hi ha1 ht hdp rfl trivial rl2 hdp nd (fun b hb => .inl (sg.subset hb)) hlk
                      refine ⟨a, vs, n, kk, y, rfl, rfl, ha1, hb.1, hb.2, by rw [rl1.length]; exact e3, ey, h S' fps' _ y st2 ok2 ?_⟩
                      have fy0 : fy = [] := ry.flat hflat
                      subst fy0
                      have ra := ry.alone (R' := fun _ => False) (noShr_of_frz _ hflat) fun _ _ z => z
                      refine ra.mono (fun _ z => z) (fun b hb => hb.elim (fun z => z.elim) fun z => by cases z) fun b ws eb => ?_
                      rw [upd_ne]; exact eb
                      rintro rfl
                      rw [ha1] at eb; cases eb
                    · cases e2
              · cases e2
        | _ => intro e0; cases e0
    · intro e0; cases e0
  · rename_i c e0
    revert e0
    split
    · rename_i xs dp e
      intro e0
      obtain ⟨a, vs, f0, hσ, ha, ht, hw, rl, hi⟩ := ok.mine e
      refine ⟨.ref a, hσ, .inl ⟨rfl, vs, .inl (.inl ha)⟩, q S fps ρ σ H _ ok ?_⟩
      revert e0
      cases e1 : fe ρ with
      | stuck => intro e0; cases e0
      | rs c => intro e0; cases e0; exact h
      | ok r =>
        dsimp only
        obtain ⟨rd, rp⟩ := r
        cases rd with
        | int n =>
          dsimp only
          split
          · split <;> (intro e0; cases e0)
          · intro e0; cases e0
        | _ => intro e0; cases e0
    · intro e0; cases e0
  · exact h.elim
theorem vs_appPop {i j : Nat} {x y : Str} {xp yp apos cpos apos2 cpos2 : Pos} {e : Expr} {fe : Ev → Res (D × List Nat)} (hF : Fam P w K mg base N k X) (he : VE K mg X e fe)
    (hN : ∀ i', (X i').N[i]? = some x := by intro _; rfl) (hv : ∀ i, Vis (X i).env.scope x := by intro _; first | exact Or.inl rfl | exact Or.inr (Or.inl rfl) | exact Or.inr (Or.inr rfl)) (hd : (x == ("__debug__" : Str)) = false := by decide) (hcd : (x == ("__classdict__" : Str)) = false := by decide)
    (hN2 : ∀ i', (X i').N[j]? = some y := by intro _; rfl) (hv2 : ∀ i, Vis (X i).env.scope y := by intro _; first | exact Or.inl rfl | exact Or.inr (Or.inl rfl) | exact Or.inr (Or.inr rfl)) (hd2 : (y == ("__debug__" : Str)) = false := by decide) (hcd2 : (y == ("__classdict__" : Str)) = false := by decide)
    (hbase : ∀ i, attributeBase (.Name x xp) "append" (X i).env (eval (.Name x xp) (X i).env) = eval (.Name x xp) (X i).env := by intro _; rfl)
    (hbase2 : ∀ i, attributeBase (.Name y yp) "pop" (X i).env (eval (.Name y yp) (X i).env) = eval (.Name y yp) (X i).env := by intro _; rfl)
    (hfew : ∀ i, ((backTo cpos (starEach [.Call (.Attribute (.Name y yp) "pop" apos2) [e] [] cpos2] (X i).env)).all (fun x => !x.1) && (backToKw cpos (keywordEach [] (X i).env)).all (fun x => x.1.isSome) && decide (([.Call (.Attribute (.Name y yp) "pop" apos2) [e] [] cpos2] : List Expr).length + ([] : List Keyword).length + (if ([] : List Keyword).isEmpty then 0 else 1) < 30)) = true := by intro _; rfl)
    (hfew2 : ∀ i, ((backTo cpos2 (starEach [e] (X i).env)).all (fun x => !x.1) && (backToKw cpos2 (keywordEach [] (X i).env)).all (fun x => x.1.isSome) && decide (([e] : List Expr).length + ([] : List Keyword).length + (if ([] : List Keyword).isEmpty then 0 else 1) < 30)) = true := by intro _; rfl)
    (hline : (apos.endLine == cpos.line) = true := by rfl) (hline2 : (apos2.endLine == cpos2.line) = true := by rfl)
    (hs : ∀ i, starEach [.Call (.Attribute (.Name y yp) "pop" apos2) [e] [] cpos2] (X i).env = (false, eval (.Call (.Attribute (.Name y yp) "pop" apos2) [e] [] cpos2) (X i).env) :: starEach [] (X i).env := by intro _; rfl) (hs2 : ∀ i, starEach [e] (X i).env = (false, eval e (X i).env) :: starEach [] (X i).env := by intro _; rfl)
    (hpl : ∀ i, (backTo cpos (starEach [] (X i).env)).any (·.1) = false := by intro _; rfl) (hpl2 : ∀ i, (backTo cpos2 (starEach [] (X i).env)).any (·.1) = false := by intro _; rfl)
    (hsw : ∀ i, swapsWith (.Call (.Attribute (.Name x xp) "append" apos) [.Call (.Attribute (.Name y yp) "pop" apos2) [e] [] cpos2] [] cpos) none pos.line (X i).env = pure false := by intro _; rfl) :
    VS K mg X (.Expr (.Call (.Attribute (.Name x xp) "append" apos) [.Call (.Attribute (.Name y yp) "pop" apos2) [e] [] cpos2] [] cpos) pos) (sAppPop i j fe) := by
  intro W tk
  obtain ⟨t, p, q⟩ := he W tk
  refine ⟨tDrop (tBM K "list" rAppend (tVar i) (tCons (tBM K "list" rPopAt (tVar j) (tCons t tNil)) tNil)), fun i' => ?_, fun lk S fps ρ σ H E ok h => ?_⟩
  · have q2 := pe_bm (cpos := cpos2) (apos := apos2) PySem.F.plainAttrs_list PySem.F.slot_list_pop PySem.F.type_list_pop mt_popAt (pe_var (pos := yp) (hN2 i') (hv2 i') hd2 hcd2) (pa_cons (p i') pa_nil (hs2 i')) (hbase2 i') (hfew2 i') hline2 (hs2 i') (hpl2 i')
    have q1 := pe_bm (cpos := cpos) (apos := apos) PySem.F.plainAttrs_list PySem.F.slot_list_append PySem.F.type_list_append mt_append (pe_var (pos := xp) (hN i') (hv i') hd hcd) (pa_cons q2 pa_nil (hs i')) (hbase i') (hfew i') hline (hs i') (hpl i')
    rw [hF.kk i'] at q1
    exact ps_expr q1 (hsw i')
  · unfold sAppPop at h
    revert h
    split
    · rename_i ys0 dp0 e0
      intro h
      obtain ⟨b, us, g0, hσb, hb, htb, hwb, rlb, hib⟩ := ok.mine e0
      refine ⟨.ref b, hσb, .inl ⟨rfl, us, .inl (.inl hb)⟩, pop_sem (lk := lk) q ok ?_⟩
      cases e1 : popE j fe lk ρ with
      | stuck => rw [e1] at h; exact h.elim
      | rs c => rw [e1] at h; exact rs_grow ok h
      | ok pr =>
        obtain ⟨d, ρ1⟩ := pr
        rw [e1] at h
        dsimp only at h
        intro S1 fps1 H1 v st1 ok1 rv
        revert h
        split
        · rename_i ys dp e2
          split
          · intro h; exact h.elim
          · rename_i hc
            intro h
            simp only [Bool.or_eq_true, not_or, List.contains_eq_mem, decide_eq_true_eq] at hc
            obtain ⟨⟨hlk, hdp⟩, hsz⟩ := hc
            obtain ⟨b', us', g1, hσb', hb', htb', hwb', rlb', hib'⟩ := ok1.mine e2
            rw [hσb] at hσb'
            cases hσb'
            have rv1 : Rep K H1 (Reg S1 fps1 dp) v d [] := rv.same (fun _ z => z.elim) (Same.refl _)
            have nd : (b :: (g1 ++ [])).Nodup := by rw [List.append_nil]; exact hib' ▸ ok1.nd i
            obtain ⟨S', fps', ok2, st2⟩ := put_ok (lk := lk) (t' := .lst) ok1 Grow.refl e2 hσb hib' hb' htb' hdp rfl trivial (rlb'.append (RepL.one rv1)) hdp nd (fun c hc => .inl (by simpa using hc)) hlk
            exact ⟨b, us', v, rfl, rfl, hb', by rw [rlb'.length]; omega, h S' fps' σ _ (st1.trans ok1 st2) ok2⟩
        · intro h; exact h.elim
    · intro h; exact h.elim
end
end Py

set_option Elab.async false
set_option linter.all false
set_option maxRecDepth 100000
/-! xs.index(i), xs.count(i) of ints -/
namespace Py
open PySem PySem.Spec L2 PyProof.Rows
def gIndex (d e : D) : Option D := match d with
  | .node _ .lst xs => match e with
    | .int i => (intL xs).bind fun ns => if i ∈ ns then some (.int ((ns.idxOf i : Nat) : Int)) else none
    | _ => none
  | _ => none
def gCount (d e : D) : Option D := match d with
  | .node _ .lst xs => match e with
    | .int i => (intL xs).map fun ns => .int ((ns.count i : Nat) : Int)
    | _ => none
  | _ => none
def isLst : D → Bool
  | .node _ .lst _ => true
  | _ => false
/-- a list's method of one argument -/
def eBM (g : D → D → Option D) (f1 f2 : Ev → Res (D × List Nat)) : Ev → Res (D × List Nat) := fun ρ =>
  (f1 ρ).bind fun a => if isLst a.1 = true then (f2 ρ).bind fun b => match g a.1 b.1 with
    | some d => .ok (mk d (a.2 ++ b.2))
    | none => .stuck
  else .stuck
section
variable {ι : Type} {X : ι → Cx} {P : Program} {w : World} {K : PySem.W.Frag} {mg : Str → Option Value} {base : Heap} {N : List Str} {k : Nat} {W : WX} {pos : Pos}
/-- a list's method of one argument that only reads -/
theorem bm1_sem {S : Addr → Prop} {fps : Nat → List Addr} {ρ : Ev} {σ : L2.St} {H : Hp} {Q : VK} {f1 f2 : Ev → Res (D × List Nat)} {g : D → D → Option D} {r : V → List V → Hp → VK → Prop} {ta tb : TE}
    (hp : ∀ H R x y d1 d2 f1 f2 d Q, Rep K H R x d1 f1 → Rep K H R y d2 f2 → g d1 d2 = some d → (∀ v H', Same H H' → Rep K H' R v d [] → Q v H') → r x [y] H Q)
    (qa : ∀ S fps ρ σ H Q, Ok K S fps ρ σ H → EPost K mg W S fps σ H (f1 ρ) Q → ta σ H Q) (qb : ∀ S fps ρ σ H Q, Ok K S fps ρ σ H → EPost K mg W S fps σ H (f2 ρ) Q → tb σ H Q)
    (ok : Ok K S fps ρ σ H) (h : EPost K mg W S fps σ H (eBM g f1 f2 ρ) Q) : tBM K "list" r ta (tCons tb tNil) σ H Q := by
  unfold eBM at h
  refine qa S fps ρ σ H _ ok ?_
  cases e1 : f1 ρ with
  | stuck => rw [e1] at h; exact h
  | rs c => rw [e1] at h; exact h
  | ok a =>
    obtain ⟨d1, p1⟩ := a
    rw [e1] at h
    intro v1 fp1 S1 H1 g1 r1 n1 z1
    dsimp only [Res.bind] at h
    cases d1 with
    | node o t xs =>
      cases t with
      | lst =>
        simp only [isLst, if_true] at h
        obtain ⟨a, vs, f, rfl, hs, l, s⟩ := r1.sqL
        refine ⟨.inl ⟨rfl, vs, hs⟩, qb S1 fps ρ σ H1 _ (ok.grow g1) ?_⟩
        cases e2 : f2 ρ with
        | stuck => rw [e2] at h; exact h.elim
        | rs c => rw [e2] at h; exact EPost.rs h g1.same
        | ok b =>
          obtain ⟨d2, p2⟩ := b
          rw [e2] at h
          dsimp only at h
          cases e3 : g (.node o .lst xs) d2 with
          | none => rw [e3] at h; exact h.elim
          | some d =>
            rw [e3] at h
            intro v2 fp2 S2 H2 g2 r2 n2 z2
            refine hp H2 (Reg S2 fps (p1 ++ p2)) _ v2 _ d2 fp1 fp2 d Q (r1.same (Reg.mono g2.sub fun _ => List.mem_append_left _) g2.same) (r2.same (Reg.mono (fun _ z => z) fun _ => List.mem_append_right _) (Same.refl _)) e3 fun v H3 s3 r3 => ?_
            have gg := g1.trans g2
            exact Val.fin (K := K) h ⟨gg.same.trans s3, gg.sub, fun a hs => (gg.new a hs).imp id fun ⟨q, o⟩ => ⟨q, Same.dom s3 o⟩⟩ r3 List.nodup_nil fun a z => by cases z
      | _ => exact h.elim
    | _ => exact h.elim
theorem prim_index {H : Hp} {R : Addr → Prop} {x y : V} {d1 d2 : D} {f1 f2 : List Addr} {d : D} {Q : VK} (r1 : Rep K H R x d1 f1) (r2 : Rep K H R y d2 f2) (e : gIndex d1 d2 = some d) (h : ∀ v H', Same H H' → Rep K H' R v d [] → Q v H') : rIndex K x [y] H Q := by
  unfold gIndex at e
  split at e
  · rename_i xs
    split at e
    · rename_i i
      cases e1 : intL xs with
      | none => rw [e1] at e; cases e
      | some ns =>
        rw [e1] at e
        dsimp only [Option.bind] at e
        split at e
        · rename_i hm
          cases e
          cases r2
          obtain ⟨a, rfl, hs⟩ := r1.intsL e1
          have hlt : ns.idxOf i < ns.length := List.idxOf_lt_length_of_mem hm
          have hget : ns[ns.idxOf i]? = some i := by rw [List.getElem?_eq_getElem hlt, List.getElem_idxOf hlt]
          refine ⟨a, ns.map V.int, .int i, ns.idxOf i, .int i, rfl, rfl, hs, rfl, by rw [List.all_map, List.all_eq_true]; intro _ _; rfl, by rw [List.getElem?_map, hget]; rfl, by simp [eqV], fun m z' hm' hz => ?_, h _ H (Same.refl _) (.int _)⟩
          rw [List.getElem?_map] at hz
          have hml : m < ns.length := by omega
          rw [List.getElem?_eq_getElem hml] at hz
          cases hz
          have := List.not_of_lt_findIdx (p := (· == i)) hm'
          simpa [eqV] using this
        · cases e
    · cases e
  · cases e
theorem ve_index {o e : Expr} {f1 f2 : Ev → Res (D × List Nat)} {apos : Pos} (hF : Fam P w K mg base N k X) (ha : VE K mg X o f1) (hb : VE K mg X e f2)
    (hbase : ∀ i, attributeBase o "index" (X i).env (eval o (X i).env) = eval o (X i).env := by intro _; rfl)
    (hfew : ∀ i, ((backTo pos (starEach [e] (X i).env)).all (fun x => !x.1) && (backToKw pos (keywordEach [] (X i).env)).all (fun x => x.1.isSome) && decide (([e] : List Expr).length + ([] : List Keyword).length + (if ([] : List Keyword).isEmpty then 0 else 1) < 30)) = true := by intro _; rfl)
    (hline : (apos.endLine == pos.line) = true := by rfl) (hs : ∀ i, starEach [e] (X i).env = (false, eval e (X i).env) :: starEach [] (X i).env := by intro _; rfl) (hpl : ∀ i, (backTo pos (starEach [] (X i).env)).any (·.1) = false := by intro _; rfl) :
    VE K mg X (.Call (.Attribute o "index" apos) [e] [] pos) (eBM gIndex f1 f2) := by
  intro W tk
  obtain ⟨ta, pa, qa⟩ := ha W tk
  obtain ⟨tb, pb, qb⟩ := hb W tk
  refine ⟨tBM K "list" (rIndex K) ta (tCons tb tNil), fun i => ?_, fun S fps ρ σ H Q ok h => bm1_sem (fun H R x y d1 d2 f1 f2 d Q r1 r2 e h => prim_index r1 r2 e h) qa qb ok h⟩
  have q1 := pe_bm (cpos := pos) (apos := apos) PySem.F.plainAttrs_list PySem.F.slot_list_index PySem.F.type_list_index mt_index (pa i) (pa_cons (pb i) pa_nil (hs i)) (hbase i) (hfew i) hline (hs i) (hpl i)
  rw [hF.kk i] at q1
  exact q1
end
end Py

set_option Elab.async false
set_option linter.all false
set_option maxRecDepth 100000
/-! a, b = x, y -/
namespace Py
open PySem PySem.Spec L2 PyProof.Rows
def sPar (i j : Nat) (fa : Ev → Res (List D × List Nat)) : List Nat → Ev → Out := fun _ ρ => match fa ρ with
  | .ok (ds, p) => match ds with
    | [d1, d2] => .nx (asg j (d2, p.filter fun r => r != i) (asg i (d1, p) ρ))
    | _ => .stuck
  | .rs c => .rs c ρ
  | .stuck => .stuck
section
variable {K : PySem.W.Frag}
theorem asg_gen {S1 : Addr → Prop} {fps : Nat → List Addr} {ρ : Ev} {σ : L2.St} {H1 : Hp} {i : Nat} {r : D × List Nat} {v : V} {fp : List Addr} (ok1 : Ok K S1 fps ρ σ H1)
    (rp : Rep K H1 (Reg S1 fps r.2) v r.1 fp) (n : fp.Nodup) (z : ∀ a ∈ fp, (∀ k, a ∉ fps k) ∧ ¬ S1 a) :
    Ok K (fun a => S1 a ∨ a ∈ fps i) (fun j => if j = i then fp else fps j) (asg i r ρ) (σ.set i (some v)) H1 := by
  have reg : ∀ dp a, Reg S1 fps dp a → Reg (fun a => S1 a ∨ a ∈ fps i) (fun j => if j = i then fp else fps j) (dp.filter fun r => r != i) a := fun dp a h => by
    rcases h with h | ⟨q, hq, h⟩
    · exact .inl (.inl h)
    · by_cases e : q = i
      · subst e; exact .inl (.inr h)
      · exact .inr ⟨q, List.mem_filter.mpr ⟨hq, by simpa using e⟩, by show a ∈ if q = i then fp else fps q; rw [if_neg e]; exact h⟩
  refine ⟨?_, fun j s e => ?_, fun j => ?_, fun j k a h1 h2 => ?_, fun j a h1 hs => ?_, fun j a h => ?_, fun a h => ?_⟩
  · rw [asg, List.length_set, List.length_set, List.length_map, ok1.len]
  · unfold asg at e
    by_cases hj : j = i
    · subst hj
      have hlt : j < ρ.length := by
        rw [List.getElem?_set] at e
        simp only [if_true, List.length_map] at e
        split at e
        · assumption
        · cases e
      rw [List.getElem?_set_self (by simpa using hlt)] at e
      cases e
      refine ⟨v, by rw [List.getElem?_set_self (by rw [ok1.len]; exact hlt)], ?_⟩
      rw [if_pos rfl]
      exact rp.same (reg _) (Same.refl _)
    · rw [List.getElem?_set_ne (Ne.symm hj), List.getElem?_map] at e
      cases e2 : ρ[j]? with
      | none => rw [e2] at e; cases e
      | some o =>
        cases o with
        | none => rw [e2] at e; cases e
        | some s0 =>
          rw [e2] at e
          cases e
          obtain ⟨w, hw, r1⟩ := ok1.rep j s0 e2
          refine ⟨w, by rw [List.getElem?_set_ne (Ne.symm hj)]; exact hw, ?_⟩
          rw [if_neg hj]
          exact r1.same (reg _) (Same.refl _)
  · split
    · exact n
    · exact ok1.nd j
  · split at h1 <;> split at h2
    · rw [‹j = i›, ‹k = i›]
    · exact ((z a h1).1 k h2).elim
    · exact ((z a h2).1 j h1).elim
    · exact ok1.dj j k a h1 h2
  · split at h1
    · rcases hs with hs | hs
      · exact (z a h1).2 hs
      · exact (z a h1).1 i hs
    · rename_i hji
      rcases hs with hs | hs
      · exact ok1.ns j a h1 hs
      · exact hji (ok1.dj j i a h1 hs)
  · split at h
    · exact rp.there a h
    · exact ok1.own j a h
  · rcases h with h | h
    · exact ok1.st a h
    · obtain ⟨t, vs, _, q⟩ := ok1.own i a h
      exact ⟨_, q⟩
variable {ι : Type} {X : ι → Cx} {P : Program} {w : World} {mg : Str → Option Value} {base : Heap} {N : List Str} {k : Nat} {W : WX} {pos : Pos}
theorem vs_par {i j : Nat} {x y : Str} {a b : Expr} {fa : Ev → Res (List D × List Nat)} {px py pt pt2 : Pos} {kt k2 : Nat} (hF : Fam P w K mg base N k X) (ha : VA K mg X [a, b] fa) (hij : i ≠ j)
    (hi : ∀ i', (X i').N[i]? = some x := by intro _; rfl) (hj : ∀ i', (X i').N[j]? = some y := by intro _; rfl) (hx : ∀ i, (X i).env.scope.names.lookup x = some .local := by intro _; rfl) (hy : ∀ i, (X i).env.scope.names.lookup y = some .local := by intro _; rfl)
    (hw : ∀ i', swappedStores [.Tuple [.Name x px, .Name y py] kt pt] (.Tuple [a, b] k2 pt2) (X i').env = pure (some [x, y]) := by intro _; rfl)
    (hs : ∀ i', swapsWithSole [.Tuple [.Name x px, .Name y py] kt pt] (.Tuple [a, b] k2 pt2) pos.line (X i').env = pure false := by intro _; rfl) :
    VS K mg X (.Assign [.Tuple [.Name x px, .Name y py] kt pt] (.Tuple [a, b] k2 pt2) pos) (sPar i j fa) := by
  intro W tk
  obtain ⟨t, p, q⟩ := ha W tk
  refine ⟨tPar i j t, fun i' => ps_par (hF.calm i') (by rw [hF.nn i']; exact hF.nd) (hi i') (hj i') hij (hx i') (hy i') (p i') (hw := hw i') (hs := hs i'), fun lk S fps ρ σ H E ok h => ?_⟩
  unfold sPar at h
  refine q S fps ρ σ H _ ok ?_
  cases e1 : fa ρ with
  | stuck => rw [e1] at h; exact h
  | rs c => rw [e1] at h; exact rs_grow ok h
  | ok r =>
    obtain ⟨ds, dp⟩ := r
    rw [e1] at h
    intro vs fp S1 H1 g rv nv zv
    revert h
    dsimp only
    split
    · rename_i d1 d2
      intro h
      obtain ⟨v, u, f1, f2, rfl, r1, r2, rfl⟩ := rv.r2
      obtain ⟨n1, n2, n3⟩ := List.nodup_append.mp nv
      have ok1 := ok.grow g
      have old : ∀ k a, a ∈ fps k → H a ≠ none := fun k a ha e => by
        obtain ⟨_, _, _, q⟩ := ok.own k a ha
        rw [e] at q; cases q
      have okA := asg_gen (i := i) (r := (d1, dp)) ok1 r1 n1 fun a ha => ⟨fun k hk => old k a hk (zv a (List.mem_append_left _ ha)).1, (zv a (List.mem_append_left _ ha)).2⟩
      have r2' : Rep K H1 (Reg (fun a => S1 a ∨ a ∈ fps i) (fun k => if k = i then f1 else fps k) (dp.filter fun r => r != i)) u d2 f2 := r2.same (fun a h0 => by
        rcases h0 with h0 | ⟨q0, hq, h0⟩
        · exact .inl (.inl h0)
        · by_cases e : q0 = i
          · exact .inl (.inr (e ▸ h0))
          · exact .inr ⟨q0, List.mem_filter.mpr ⟨hq, by simpa using e⟩, by show a ∈ if q0 = i then f1 else fps q0; rw [if_neg e]; exact h0⟩) (Same.refl _)
      have okB := asg_gen (i := j) (r := (d2, dp.filter fun r => r != i)) okA r2' n2 fun a ha => ⟨fun k hk => by
        split at hk
        · exact n3 a hk a ha rfl
        · exact old k a hk (zv a (List.mem_append_right _ ha)).1, fun hs => hs.elim (zv a (List.mem_append_right _ ha)).2 fun hk => old i a hk (zv a (List.mem_append_right _ ha)).1⟩
      refine ⟨v, u, rfl, h _ _ _ H1 ⟨fun a o e _ => g.same a o e, fun r hr a ha => ⟨?_, ?_⟩, fun a hs => .inl (.inl (g.sub a hs)), fun a hs => ?_⟩ okB⟩
      · obtain ⟨_, _, _, e⟩ := ok.own r a ha
        rw [g.same a _ e, e]
      · by_cases hri : r = i
        · subst hri; exact .inl (.inl (.inr ha))
        · by_cases hrj : r = j
          · subst hrj
            exact .inl (.inr (by show a ∈ if r = i then f1 else fps r; rw [if_neg hri]; exact ha))
          · exact .inr (by show a ∈ if r = j then f2 else if r = i then f1 else fps r; rw [if_neg hrj, if_neg hri]; exact ha)
      · have old2 : ∀ k, a ∈ (if k = i then f1 else fps k) → S a ∨ (∃ i, a ∈ fps i) ∨ H a = none := fun k hk => by
          split at hk
          · exact .inr (.inr (zv a (List.mem_append_left _ hk)).1)
          · exact .inr (.inl ⟨k, hk⟩)
        rcases hs with ((hs | hs) | hs) | ⟨k, hs⟩
        · exact (g.new a hs).imp id fun q => .inr q.1
        · exact .inr (.inl ⟨i, hs⟩)
        · exact old2 j hs
        · split at hs
          · exact .inr (.inr (zv a (List.mem_append_right _ hs)).1)
          · exact old2 k hs
    · intro h; exact h.elim
end
end Py

set_option Elab.async false
set_option linter.all false
set_option maxRecDepth 100000
/-! for .. in zip(xs, ys), lists -/
namespace Py
open PySem PySem.Spec L2 PyProof.Rows
def zipD : List D → List D → List D
  | d :: ds, e :: es => .node false .tup [d, e] :: zipD ds es
  | _, _ => []
def iZp (fa : Ev → Res (List D × List Nat)) : Ev → Res (List D × List Nat) := fun ρ => (fa ρ).bind fun a => match a.1 with
  | [.node _ .lst xs, .node _ .lst ys] => .ok (zipD (xs.map frz) (ys.map frz), a.2)
  | _ => .stuck
theorem zipD_get : ∀ {ds es : List D} {k : Nat} {d : D}, (zipD ds es)[k]? = some d → ∃ a b, ds[k]? = some a ∧ es[k]? = some b ∧ d = .node false .tup [a, b]
  | d :: ds, e :: es, 0, z, h => by
    simp [zipD] at h
    exact ⟨d, e, by simp, by simp, h.symm⟩
  | d :: ds, e :: es, k + 1, z, h => by
    simp only [zipD, List.getElem?_cons_succ] at h
    obtain ⟨a, b, h1, h2, h3⟩ := zipD_get h
    exact ⟨a, b, by simpa using h1, by simpa using h2, h3⟩
  | [], _, _, _, h => by simp [zipD] at h
  | _ :: _, [], _, _, h => by simp [zipD] at h
theorem zipD_len : ∀ ds es : List D, (zipD ds es).length = min ds.length es.length
  | d :: ds, e :: es => by simp [zipD, zipD_len ds es]
  | [], _ => by simp [zipD]
  | _ :: _, [] => by simp [zipD]
section
variable {ι : Type} {X : ι → Cx} {P : Program} {w : World} {K : PySem.W.Frag} {mg : Str → Option Value} {base : Heap} {N : List Str} {k : Nat} {W : WX} {pos : Pos}
theorem walks_zip {H1 : Hp} {Rg : Addr → Prop} {a b : Addr} {vs ws : List V} {ds es : List D} (h : ∀ H2, Stays Rg H1 H2 → SqL K H2 a vs) (h' : ∀ H2, Stays Rg H1 H2 → SqL K H2 b ws) (l : RepL K H1 Rg vs ds []) (l' : RepL K H1 Rg ws es []) : Walks K (Itz K a b) H1 Rg (zipD ds es) := by
  have e1 := l.length
  have e2 := l'.length
  have elen : (zipD ds es).length = min vs.length ws.length := by rw [zipD_len, e1, e2]
  refine Walks.of (G := fun H => SqL K H a vs ∧ SqL K H b ws) (walk_zip elen) (fun H2 s => ⟨h H2 s, h' H2 s⟩) (fun i H2 s hi => ⟨vs, ws, h H2 s, h' H2 s, by omega⟩) fun i H2 x H3 d s y e => ?_
  obtain ⟨T, v1, v2, rfl, hT, rfl, q1, q2⟩ := y
  obtain ⟨d1, d2, g1, g2, rfl⟩ := zipD_get e
  obtain ⟨u1, f1, ev1, r1, s1⟩ := l.get g1
  obtain ⟨u2, f2, ev2, r2, s2⟩ := l'.get g2
  have q1 : vs[i]? = some v1 := q1
  have q2 : ws[i]? = some v2 := q2
  rw [ev1] at q1; cases q1
  rw [ev2] at q2; cases q2
  cases List.sublist_nil.mp s1
  cases List.sublist_nil.mp s2
  have sm : Same H2 (upd H2 T (.tup [v1, v2])) := same_upd hT
  exact ⟨sm, .tup upd_same (RepL.cons (f := []) (g := []) ((r1.stays s).same (fun _ z => z) sm) (RepL.one ((r2.stays s).same (fun _ z => z) sm)))⟩
theorem vi_zip {e e2 : Expr} {fa : Ev → Res (List D × List Nat)} {p tpos : Pos} {elts : List Expr} {kk : Nat} (hF : Fam P w K mg base N k X) (hg : ∀ i, Gl (X i) "zip") (hm : mg "zip" = none) (ha : VA K mg X [e, e2] fa)
    (hs : ∀ i, starEach [e, e2] (X i).env = (false, eval e (X i).env) :: starEach [e2] (X i).env := by intro _; rfl) (hpl : ∀ i, (backTo pos (starEach [e2] (X i).env)).any (·.1) = false := by intro _; rfl) :
    VI K mg X (.Tuple elts kk tpos) (.Call (.Name "zip" p) [e, e2] [] pos) (iZp fa) := by
  intro W tk
  obtain ⟨t, pa, q⟩ := ha W tk
  refine ⟨iZip K t, fun i => by have z := pi_zip (p := p) (pos := pos) (tpos := tpos) (elts := elts) (kk := kk) (hg i) (by rw [hF.mm i]; exact hm) (pa i) (hs i) (hpl i); rw [hF.kk i] at z; exact z, fun S fps ρ σ H R ok h => ?_⟩
  unfold iZp at h
  refine q S fps ρ σ H _ ok ?_
  cases e1 : fa ρ with
  | stuck => rw [e1] at h; exact h
  | rs c => rw [e1] at h; exact h
  | ok r =>
    obtain ⟨ds, dp⟩ := r
    rw [e1] at h
    intro vs fp S1 H1 g rv n z
    dsimp only [Res.bind] at h
    revert h
    split
    · rename_i o1 xs o2 ys
      intro h
      obtain ⟨v, u, f1, f2, rfl, r1, r2, rfl⟩ := rv.r2
      obtain ⟨g2, k1, k2⟩ := region (p := dp) ok g z rv.dom
      obtain ⟨a, vs1, rfl, hs1, rl1, _⟩ := r1.lst k1 fun b hb => k2 b (List.mem_append_left _ hb)
      obtain ⟨b, vs2, rfl, hs2, rl2, _⟩ := r2.lst k1 fun b hb => k2 b (List.mem_append_right _ hb)
      exact ⟨a, b, vs1, vs2, rfl, hs1 H1 Stays.refl, hs2 H1 Stays.refl, h _ _ _ g2 (walks_zip hs1 hs2 rl1 rl2)⟩
    · intro h; exact h.elim
end
end Py
namespace Py
open PySem PySem.Spec L2
theorem look_rel {env : Env} : ∀ {names : List (Str × NameKind)} {x : Str}, (names.lookup x = some .cell ∨ names.lookup x = some .free) →
    (List.lookup x (names.map fun (n, k) => if (k == NameKind.free && env.scope.kind == .function && env.kindOf n == some .cell) then (n, NameKind.cell) else (n, k)) = some .cell ∨
     List.lookup x (names.map fun (n, k) => if (k == NameKind.free && env.scope.kind == .function && env.kindOf n == some .cell) then (n, NameKind.cell) else (n, k)) = some .free)
  | [], _, h => by simp at h
  | (n, k) :: r, x, h => by
    have ih := @look_rel env r x
    rw [List.map_cons]
    dsimp only
    cases hx : x == n with
    | true =>
      simp only [List.lookup_cons, hx] at h
      by_cases hc : (k == NameKind.free && env.scope.kind == .function && env.kindOf n == some .cell) = true
      · rw [if_pos hc]; left; simp only [List.lookup_cons, hx]
      · rw [if_neg hc]; simp only [List.lookup_cons, hx]; exact h
    | false =>
      simp only [List.lookup_cons, hx] at h
      by_cases hc : (k == NameKind.free && env.scope.kind == .function && env.kindOf n == some .cell) = true
      · rw [if_pos hc]; simp only [List.lookup_cons, hx]; exact ih h
      · rw [if_neg hc]; simp only [List.lookup_cons, hx]; exact ih h
/-- a comprehension within a comprehension -/
theorem blk2 {ι : Type} {X : ι → Cx} {scope0 scope : Scope} {own : List (Str × Nat)} {Nl : List Str} (hN : ∀ i, (X i).N = Nl) (h : BlkOk Nl scope0 scope own) : ∀ q, BlkOk (blkF X scope0 q).N (blkF X scope0 q).env.scope scope own := fun q => by
  have h2 : BlkOk (X q.1).N scope0 scope own := by rw [hN q.1]; exact h
  exact ⟨h2.kind, h2.uniq, h2.ix, fun y hy hf => look_rel (h2.free y hy hf), h2.own⟩
end Py

set_option Elab.async false
set_option linter.all false
set_option maxRecDepth 100000
/-! comprehensions of two clauses -/
namespace Py
open PySem PySem.Spec L2
def lc2L (G : D × List Nat → Ev → Option Ev) (tst : Ev → Res Bool) (vs1 : List Nat) (f1 : Ev → Res (List D × List Nat)) (G1 : D × List Nat → Ev → Option Ev) (tst1 : Ev → Res Bool) (el : Ev → Res (D × List Nat)) (p : List Nat) (ρ : Ev) : List D → Res (List D × List Nat)
  | [] => .ok ([], [])
  | x :: xs => match G (mk x p) ρ with
    | none => .stuck
    | some ρ1 => (nors (tst ρ1)).bind fun b => if b = true then (nors (f1 ρ1)).bind fun a => (lcL G1 tst1 el a.2 (wipeE ρ1 vs1) a.1).bind fun r => (lc2L G tst vs1 f1 G1 tst1 el p ρ xs).bind fun s => .ok (r.1 ++ s.1, r.2 ++ s.2)
      else lc2L G tst vs1 f1 G1 tst1 el p ρ xs
def eLc2 (vs vs1 : List Nat) (f : Ev → Res (List D × List Nat)) (G : D × List Nat → Ev → Option Ev) (tst : Ev → Res Bool) (f1 : Ev → Res (List D × List Nat)) (G1 : D × List Nat → Ev → Option Ev) (tst1 : Ev → Res Bool) (el : Ev → Res (D × List Nat)) : Ev → Res (D × List Nat) := fun ρ =>
  (f ρ).bind fun a => (lc2L G tst vs1 f1 G1 tst1 el a.2 (wipeE ρ vs) a.1).bind fun r => if r.1.length ≤ sizeLine then .ok (mk (.node true .lst r.1) (r.2 ++ vs)) else .stuck
theorem lcL_rs {G : D × List Nat → Ev → Option Ev} {tst : Ev → Res Bool} {el : Ev → Res (D × List Nat)} {p : List Nat} {ρ : Ev} {c : Str} : ∀ {xs : List D}, lcL G tst el p ρ xs ≠ .rs c
  | [], h => by cases h
  | x :: xs, e2 => by
    have ih := lcL_rs (G := G) (tst := tst) (el := el) (p := p) (ρ := ρ) (c := c) (xs := xs)
    unfold lcL at e2
    split at e2
    · cases e2
    · rename_i ρ1 _
      cases t1 : tst ρ1 with
      | ok b =>
        rw [t1] at e2
        dsimp only [nors, Res.bind] at e2
        split at e2
        · cases t2 : el ρ1 with
          | ok d =>
            rw [t2] at e2
            dsimp only [nors, Res.bind] at e2
            cases t3 : lcL G tst el p ρ xs with
            | ok r => rw [t3] at e2; cases e2
            | rs c' => rw [t3] at e2; cases e2; exact ih t3
            | stuck => rw [t3] at e2; cases e2
          | rs c' => rw [t2] at e2; cases e2
          | stuck => rw [t2] at e2; cases e2
        · exact ih e2
      | rs c' => rw [t1] at e2; cases e2
      | stuck => rw [t1] at e2; cases e2
theorem lc2L_rs {G : D × List Nat → Ev → Option Ev} {tst : Ev → Res Bool} {vs1 : List Nat} {f1 : Ev → Res (List D × List Nat)} {G1 : D × List Nat → Ev → Option Ev} {tst1 : Ev → Res Bool} {el : Ev → Res (D × List Nat)} {p : List Nat} {ρ : Ev} {c : Str} : ∀ {xs : List D}, lc2L G tst vs1 f1 G1 tst1 el p ρ xs ≠ .rs c
  | [], h => by cases h
  | x :: xs, e2 => by
    have ih := lc2L_rs (G := G) (tst := tst) (vs1 := vs1) (f1 := f1) (G1 := G1) (tst1 := tst1) (el := el) (p := p) (ρ := ρ) (c := c) (xs := xs)
    unfold lc2L at e2
    split at e2
    · cases e2
    · rename_i ρ1 _
      cases t1 : tst ρ1 with
      | ok b =>
        rw [t1] at e2
        dsimp only [nors, Res.bind] at e2
        split at e2
        · cases t2 : f1 ρ1 with
          | ok a =>
            rw [t2] at e2
            dsimp only [nors, Res.bind] at e2
            cases t4 : lcL G1 tst1 el a.2 (wipeE ρ1 vs1) a.1 with
            | rs c' => exact lcL_rs t4
            | stuck => rw [t4] at e2; cases e2
            | ok r0 =>
              rw [t4] at e2
              dsimp only [Res.bind] at e2
              cases t3 : lc2L G tst vs1 f1 G1 tst1 el p ρ xs with
              | ok r => rw [t3] at e2; cases e2
              | rs c' => rw [t3] at e2; cases e2; exact ih t3
              | stuck => rw [t3] at e2; cases e2
          | rs c' => rw [t2] at e2; cases e2
          | stuck => rw [t2] at e2; cases e2
        · exact ih e2
      | rs c' => rw [t1] at e2; cases e2
      | stuck => rw [t1] at e2; cases e2
section
variable {ι : Type} {X : ι → Cx} {P : Program} {w : World} {K : PySem.W.Frag} {mg : Str → Option Value} {base : Heap} {N : List Str} {k : Nat}
/-- the inner loop: what was there stays but for the list's own object -/
theorem lcIn_sem {g : TG} {tt : TT} {te : TE} {vs ts : List Nat} {G : D × List Nat → Ev → Option Ev} {tst : Ev → Res Bool} {el : Ev → Res (D × List Nat)} (hts : ∀ j ∈ ts, j ∈ vs)
    (qg : ∀ S fps lk ρ σ H v r ρ' Q, Ok K S fps ρ σ H → Rep K H (Reg S fps r.2) v r.1 [] → G r ρ = some ρ' → (∀ S' fps' σ', Ok K S' fps' ρ' σ' H → Step S fps lk H S' fps' H → Puts ts S fps σ S' fps' σ' → Q σ' H) → g v σ H Q)
    (qt : ∀ S fps ρ σ H Q, Ok K S fps ρ σ H → TPost mg (fun _ _ _ _ => False) S σ H (tst ρ) Q → tt σ H Q) (qe : ∀ S fps ρ σ H Q, Ok K S fps ρ σ H → EPost K mg (fun _ _ _ _ => False) S fps σ H (el ρ) Q → te σ H Q)
    {S1 : Addr → Prop} {fps : Nat → List Addr} {ρ : Ev} {σ : L2.St} {H1 : Hp} (ok1 : Ok K S1 fps ρ σ H1) (hz : ∀ j ∈ vs, fps j = []) {J : It} {xs : List Py.D} {p : List Nat} (wk : Walks K J H1 (Reg S1 fps p) xs)
    {D : Addr} {acc0 : List V} (hD : H1 D = some (.lst acc0)) (nS0 : ¬ S1 D) (nF0 : ∀ i, D ∉ fps i) {tot : List Py.D × List Nat} (e2 : lcL G tst el p (wipeE ρ vs) xs = .ok tot) (hsz : acc0.length + tot.1.length ≤ sizeLine) {Nx : Hp → Prop}
    (hN : ∀ (S' : Addr → Prop) (Hn : Hp) (new : List V) (fpa : List Addr), (∀ a o, a ≠ D → H1 a = some o → Hn a = some o) → (∀ a, S1 a → S' a) → (∀ a, S' a → S1 a ∨ (H1 a = none ∧ ∃ o, Hn a = some o)) → ¬ S' D → Hn D = some (.lst (acc0 ++ new)) → RepL K Hn (Reg S' fps tot.2) new tot.1 fpa → fpa.Nodup → D ∉ fpa → (∀ a ∈ fpa, H1 a = none ∧ ¬ S' a) → Nx Hn) :
    ∃ W : Nat → Nat → Hp → Prop, (∃ m, W 0 m H1) ∧ ∀ j k H, W j k H → (J.stop j H ∧ Nx H) ∨ (J.go j H ∧ ∃ Nx1 : Hp → Prop, (∀ H', Nx1 H' → ∃ k', k' < k ∧ W (j + 1) k' H') ∧ ∀ x H', J.yld j H x H' → g x (wipe σ vs) H' fun σ3 H5 => wipe σ3 vs = wipe σ vs ∧ tt σ3 H5 fun b H6 =>
        if b = true then te σ3 H6 fun y H7 => ∃ acc, H7 D = some (.lst acc) ∧ acc.length < sizeLine ∧ Nx1 (upd H7 D (.lst (acc ++ [y]))) else Nx1 H6) := by
  have H1r : ∀ r a, a ∈ fps r → a ≠ D := fun r a ha e => nF0 r (e ▸ ha)
  have okl : Ok K S1 fps (wipeE ρ vs) (wipe σ vs) H1 := by
    refine ⟨by rw [wipe_length, wipeE_length, ok1.len], fun i s e => ?_, ok1.nd, ok1.dj, ok1.ns, ok1.own, ok1.st⟩
    obtain ⟨e, hn⟩ := wipeE_some e
    obtain ⟨v, hv, r⟩ := ok1.rep i s e
    exact ⟨v, by rw [wipe_get, if_neg (fun z => hn z.1)]; exact hv, r⟩
  have offS : ∀ {Hc : Hp}, (∀ a o, a ≠ D → H1 a = some o → Hc a = some o) → ∀ {q : List Nat}, Stays (Reg S1 fps q) H1 Hc := fun {Hc} h {q} => ⟨fun a o ha e => h a o (by
      rintro rfl
      rcases ha with ha | ⟨r, _, ha⟩
      · exact nS0 ha
      · exact nF0 r ha) e, fun a ws e => h a _ (by rintro rfl; rw [hD] at e; cases e) e⟩
  refine ⟨fun i m Hc => m = xs.length - i ∧ i ≤ xs.length ∧ ∃ (Sl : Addr → Prop) (acc : List V) (ads : List Py.D) (fpa : List Addr) (q : List Nat) (rest : List Py.D × List Nat),
    (∀ a o, a ≠ D → H1 a = some o → Hc a = some o) ∧ (∀ a, S1 a → Sl a) ∧ (∀ a, Sl a → S1 a ∨ (H1 a = none ∧ ∃ o, Hc a = some o)) ∧ ¬ Sl D ∧ Hc D = some (.lst (acc0 ++ acc)) ∧ RepL K Hc (Reg Sl fps q) acc ads fpa ∧ fpa.Nodup ∧ D ∉ fpa ∧ (∀ a ∈ fpa, H1 a = none ∧ ¬ Sl a) ∧
    Ok K Sl fps (wipeE ρ vs) (wipe σ vs) Hc ∧ lcL G tst el p (wipeE ρ vs) (xs.drop i) = .ok rest ∧ tot = (ads ++ rest.1, q ++ rest.2),
    ⟨xs.length, rfl, Nat.zero_le _, S1, [], [], [], [], tot, fun _ _ _ z => z, fun _ z => z, fun _ z => .inl z, nS0, by rw [List.append_nil]; exact hD, .nil, List.nodup_nil, (by simp), fun a z => (by cases z), okl, e2, rfl⟩, ?_⟩
  rintro i m Hc ⟨rfl, hi, Sl, acc, ads, fpa, q, rest, sm, sub, new, nSD, eD, rl, nda, nDa, za, okc, er, et⟩
  have sy : Stays (Reg S1 fps p) H1 Hc := offS sm
  have fr : ∀ {a}, Hc a = none → H1 a = none := fun {a} h => by
    cases e : H1 a with
    | none => rfl
    | some o =>
      by_cases ha : a = D
      · subst ha; rw [eD] at h; cases h
      · rw [sm a o ha e] at h; cases h
  by_cases hlt : i < xs.length
  · have edrop : xs.drop i = xs[i] :: xs.drop (i + 1) := List.drop_eq_getElem_cons hlt
    have ei : xs[i]? = some xs[i] := List.getElem?_eq_getElem hlt
    rw [edrop] at er
    generalize xs[i] = d at er ei
    refine .inr ⟨wk.go i Hc sy hlt, fun Hn => ∃ (Sl : Addr → Prop) (acc : List V) (ads : List Py.D) (fpa : List Addr) (q : List Nat) (rest : List Py.D × List Nat),
      (∀ a o, a ≠ D → H1 a = some o → Hn a = some o) ∧ (∀ a, S1 a → Sl a) ∧ (∀ a, Sl a → S1 a ∨ (H1 a = none ∧ ∃ o, Hn a = some o)) ∧ ¬ Sl D ∧ Hn D = some (.lst (acc0 ++ acc)) ∧ RepL K Hn (Reg Sl fps q) acc ads fpa ∧ fpa.Nodup ∧ D ∉ fpa ∧ (∀ a ∈ fpa, H1 a = none ∧ ¬ Sl a) ∧
      Ok K Sl fps (wipeE ρ vs) (wipe σ vs) Hn ∧ lcL G tst el p (wipeE ρ vs) (xs.drop (i + 1)) = .ok rest ∧ tot = (ads ++ rest.1, q ++ rest.2), fun Hn z => ⟨_, by omega, rfl, hlt, z⟩, fun x H2 y => ?_⟩
    obtain ⟨sm2, rx⟩ := wk.yld i Hc x H2 d sy y ei
    unfold lcL at er
    cases eg : G (mk d p) (wipeE ρ vs) with
    | none => rw [eg] at er; cases er
    | some ρ1 =>
      rw [eg] at er
      dsimp only at er
      have ok2 : Ok K Sl fps (wipeE ρ vs) (wipe σ vs) H2 := okc.grow ⟨sm2, fun _ z => z, fun _ z => .inl z⟩
      have rx' : Rep K H2 (Reg Sl fps p) x d [] := rx.same (fun a z => Reg.mono sub (fun _ z => z) a z) (Same.refl _)
      refine qg Sl fps [] (wipeE ρ vs) (wipe σ vs) H2 x (mk d p) ρ1 _ ok2 rx'.mkd eg fun S3 fps3 σ3 ok3 st3 u3 => ⟨(u3.wp vs hts).trans (wipe_wipe σ vs), ?_⟩
      have s3 : ∀ a, S3 a → Sl a := fun a z => by
        rcases u3.st a z with z | ⟨j, hj, z⟩
        · exact z
        · rw [hz j (hts j hj)] at z; cases z
      cases t1 : tst ρ1 with
      | stuck => rw [t1] at er; cases er
      | rs c => rw [t1] at er; cases er
      | ok b =>
        rw [t1] at er
        dsimp only [nors, Res.bind] at er
        refine qt S3 fps3 ρ1 σ3 H2 _ ok3 ?_
        rw [t1]
        intro S4 H3 g4
        have ok4 := ok3.grow g4
        have smc3 : Same Hc H3 := sm2.trans g4.same
        have eD3 : H3 D = some (.lst (acc0 ++ acc)) := smc3 D _ eD
        have n4 : ∀ a, S4 a → Sl a ∨ (Hc a = none ∧ ∃ o, H3 a = some o) := fun a z => by
          rcases g4.new a z with z | ⟨z, o⟩
          · exact .inl (s3 a z)
          · exact .inr ⟨sm2.free z, o⟩
        cases b with
        | false =>
          rw [if_neg Bool.false_ne_true] at er
          rw [if_neg Bool.false_ne_true]
          exact ⟨Sl, acc, ads, fpa, q, rest, fun a o ha e => smc3 a o (sm a o ha e), sub, fun a z => (new a z).imp id fun z => ⟨z.1, Same.dom smc3 z.2⟩, nSD, eD3, rl.same (fun _ z => z) smc3, nda, nDa, za, okc.grow ⟨smc3, fun _ z => z, fun _ z => .inl z⟩, er, et⟩
        | true =>
          rw [if_pos rfl] at er
          rw [if_pos rfl]
          cases t2 : el ρ1 with
          | stuck => rw [t2] at er; cases er
          | rs c => rw [t2] at er; cases er
          | ok r =>
            rw [t2] at er
            dsimp only [nors, Res.bind] at er
            cases t3 : lcL G tst el p (wipeE ρ vs) (xs.drop (i + 1)) with
            | stuck => rw [t3] at er; cases er
            | rs c => rw [t3] at er; cases er
            | ok rest' =>
              rw [t3] at er
              cases er
              refine qe S4 fps3 ρ1 σ3 H3 _ ok4 ?_
              rw [t2]
              intro yv fpy S5 H4 g5 ry ny zy
              have smc4 : Same Hc H4 := smc3.trans g5.same
              have eD4 : H4 D = some (.lst (acc0 ++ acc)) := g5.same D _ eD3
              have n5 : ∀ a, S5 a → Sl a ∨ (Hc a = none ∧ ∃ o, H4 a = some o) := fun a z => by
                rcases g5.new a z with z | ⟨z, o⟩
                · exact (n4 a z).imp id fun z => ⟨z.1, Same.dom g5.same z.2⟩
                · exact .inr ⟨smc3.free z, o⟩
              have nS5 : ¬ S5 D := fun z => by
                rcases n5 D z with z | ⟨z, _⟩
                · exact nSD z
                · rw [eD] at z; cases z
              have la : acc.length = ads.length := rl.length
              have hlen : (acc0 ++ acc).length < sizeLine := by
                have := congrArg (fun t => t.1.length) et
                simp only [List.length_append, List.length_cons] at this ⊢
                omega
              refine ⟨acc0 ++ acc, eD4, hlen, fun a => Sl a ∨ S5 a, acc ++ [yv], ads ++ [r.1], fpa ++ fpy, q ++ r.2, rest', ?_, fun a z => .inl (sub a z), fun a z => ?_, fun z => z.elim nSD nS5, by rw [← List.append_assoc]; exact upd_same, ?_, ?_, ?_, ?_, ?_, rfl, ?_⟩
              · intro a o ha e
                rw [upd_ne ha]
                exact smc4 a o (sm a o ha e)
              · have dm : ∀ a, (∃ o, H4 a = some o) → ∃ o, upd H4 D (.lst (acc0 ++ acc ++ [yv])) a = some o := fun a ⟨o, e⟩ => by
                  by_cases ha : a = D
                  · subst ha; exact ⟨_, upd_same⟩
                  · exact ⟨o, by rw [upd_ne ha]; exact e⟩
                rcases z with z | z
                · exact (new a z).imp id fun z => ⟨z.1, dm a (Same.dom smc4 z.2)⟩
                · rcases n5 a z with z | ⟨z, o⟩
                  · exact (new a z).imp id fun z => ⟨z.1, dm a (Same.dom smc4 z.2)⟩
                  · exact .inr ⟨fr z, dm a o⟩
              · refine RepL.append (rl.mono (Reg.mono (fun _ => .inl) fun _ => List.mem_append_left _) (fun a ha o e => ?_) fun a ws e => ?_) (RepL.one (ry.mono (fun a z => ?_) (fun a ha o e => ?_) fun a ws e => ?_))
                · rw [upd_ne]; exact smc4 a o e
                  rintro rfl
                  rcases ha with (z | ⟨j, _, z⟩) | z
                  · exact nSD z
                  · exact nF0 j z
                  · exact nDa z
                · rw [upd_ne]; exact smc4 a _ e
                  rintro rfl; rw [eD] at e; cases e
                · rcases z with z | ⟨j, hj, z⟩
                  · exact .inl (.inr z)
                  · exact .inr ⟨j, List.mem_append_right _ hj, u3.fp j a z⟩
                · rw [upd_ne]; exact e
                  rintro rfl
                  rcases ha with (z | ⟨j, _, z⟩) | z
                  · exact nS5 z
                  · exact nF0 j (u3.fp j _ z)
                  · have := (zy _ z).1
                    rw [eD3] at this; cases this
                · rw [upd_ne]; exact e
                  rintro rfl; rw [eD4] at e; cases e
              · refine ap_nodup nda ny fun a h1 h2 => ?_
                obtain ⟨o, e⟩ := rl.dom a h1
                have := smc3 a o e
                rw [(zy a h2).1] at this; cases this
              · intro z
                rcases List.mem_append.mp z with z | z
                · exact nDa z
                · have := (zy _ z).1
                  rw [eD3] at this; cases this
              · intro a ha
                rcases List.mem_append.mp ha with z | z
                · refine ⟨(za a z).1, fun hs => ?_⟩
                  rcases hs with hs | hs
                  · exact (za a z).2 hs
                  · rcases n5 a hs with hs | ⟨hs, _⟩
                    · exact (za a z).2 hs
                    · obtain ⟨o, e⟩ := rl.dom a z
                      rw [hs] at e; cases e
                · refine ⟨fr (smc3.free (zy a z).1), fun hs => ?_⟩
                  rcases hs with hs | hs
                  · obtain ⟨o, e⟩ := okc.st a hs
                    have := smc3 a o e
                    rw [(zy a z).1] at this; cases this
                  · exact (zy a z).2 hs
              · exact Ok.off (okc.grow ⟨smc4, fun _ => .inl, fun a z => z.elim .inl (n5 a)⟩) (fun z => z.elim nSD nS5) (fun j z => nF0 j z) eD4
              · rw [et]; simp
  · have eiq : i = xs.length := by omega
    subst eiq
    rw [List.drop_length] at er
    cases er
    refine .inl ⟨wk.stop _ Hc sy (Nat.le_refl _), ?_⟩
    simp only [List.append_nil] at et
    subst et
    exact hN Sl Hc acc fpa sm sub new nSD eD rl nda nDa za
theorem lc2_sem {W : WX} {wi wi1 : TI} {g g1 : TG} {tt tt1 : TT} {te : TE} {vs vs1 ts ts1 : List Nat} {f f1 : Ev → Res (List D × List Nat)} {G G1 : D × List Nat → Ev → Option Ev} {tst tst1 : Ev → Res Bool} {el : Ev → Res (D × List Nat)} (hts : ∀ j ∈ ts, j ∈ vs) (hts1 : ∀ j ∈ ts1, j ∈ vs1) (hv1 : ∀ j ∈ vs1, j ∈ vs)
    (qi : ∀ S fps ρ σ H R, Ok K S fps ρ σ H → IPost K mg W S fps σ H (f ρ) R → wi σ H R)
    (qg : ∀ S fps lk ρ σ H v r ρ' Q, Ok K S fps ρ σ H → Rep K H (Reg S fps r.2) v r.1 [] → G r ρ = some ρ' → (∀ S' fps' σ', Ok K S' fps' ρ' σ' H → Step S fps lk H S' fps' H → Puts ts S fps σ S' fps' σ' → Q σ' H) → g v σ H Q)
    (qt : ∀ S fps ρ σ H Q, Ok K S fps ρ σ H → TPost mg (fun _ _ _ _ => False) S σ H (tst ρ) Q → tt σ H Q)
    (qi1 : ∀ S fps ρ σ H R, Ok K S fps ρ σ H → IPost K mg (fun _ _ _ _ => False) S fps σ H (f1 ρ) R → wi1 σ H R)
    (qg1 : ∀ S fps lk ρ σ H v r ρ' Q, Ok K S fps ρ σ H → Rep K H (Reg S fps r.2) v r.1 [] → G1 r ρ = some ρ' → (∀ S' fps' σ', Ok K S' fps' ρ' σ' H → Step S fps lk H S' fps' H → Puts ts1 S fps σ S' fps' σ' → Q σ' H) → g1 v σ H Q)
    (qt1 : ∀ S fps ρ σ H Q, Ok K S fps ρ σ H → TPost mg (fun _ _ _ _ => False) S σ H (tst1 ρ) Q → tt1 σ H Q)
    (qe : ∀ S fps ρ σ H Q, Ok K S fps ρ σ H → EPost K mg (fun _ _ _ _ => False) S fps σ H (el ρ) Q → te σ H Q)
    {S : Addr → Prop} {fps : Nat → List Addr} {ρ : Ev} {σ : L2.St} {H : Hp} {Q : VK} (ok : Ok K S fps ρ σ H) (h : EPost K mg W S fps σ H (eLc2 vs vs1 f G tst f1 G1 tst1 el ρ) Q) : tLc2 wi g tt wi1 g1 tt1 te vs vs1 σ H Q := by
  unfold eLc2 at h
  refine qi S fps ρ σ H _ ok ?_
  cases e1 : f ρ with
  | stuck => rw [e1] at h; exact h
  | rs c => rw [e1] at h; exact h
  | ok r =>
    obtain ⟨xs, p⟩ := r
    rw [e1] at h
    intro J S1 H1 g1' wk D hD
    dsimp only [Res.bind] at h
    cases e2 : lc2L G tst vs1 f1 G1 tst1 el p (wipeE ρ vs) xs with
    | stuck => rw [e2] at h; exact h.elim
    | rs c => exact (lc2L_rs e2).elim
    | ok tot =>
      rw [e2] at h
      dsimp only at h
      rcases Nat.lt_or_ge sizeLine tot.1.length with hbig | hsz
      · rw [if_neg (by omega)] at h; exact h.elim
      rw [if_pos hsz] at h
      have ok1 := ok.grow g1'
      have H1r : ∀ r a, a ∈ fps r → a ≠ D := fun r a ha e => by
        obtain ⟨t, ws, _, q⟩ := ok1.own r a ha
        rw [e, hD] at q; cases q
      let Sl0 : Addr → Prop := fun a => S1 a ∨ ∃ j ∈ vs, a ∈ fps j
      let fpl : Nat → List Addr := fun j => if j ∈ vs then [] else fps j
      have fplm : ∀ j a, a ∈ fpl j → j ∉ vs ∧ a ∈ fps j := fun j a ha => by
        have ha : a ∈ (if j ∈ vs then [] else fps j) := ha
        split at ha
        · cases ha
        · exact ⟨‹_›, ha⟩
      have fpli : ∀ j a, j ∉ vs → a ∈ fps j → a ∈ fpl j := fun j a hj ha => by
        show a ∈ (if j ∈ vs then [] else fps j)
        rw [if_neg hj]; exact ha
      have regl : ∀ (dp : List Nat) a, Reg S1 fps dp a → Reg Sl0 fpl dp a := fun dp a z => by
        rcases z with z | ⟨r, hr, z⟩
        · exact .inl (.inl z)
        · by_cases hv : r ∈ vs
          · exact .inl (.inr ⟨r, hv, z⟩)
          · exact .inr ⟨r, hr, fpli r a hv z⟩
      have okl : Ok K Sl0 fpl (wipeE ρ vs) (wipe σ vs) H1 := by
        refine ⟨by rw [wipe_length, wipeE_length, ok.len], fun i s e => ?_, fun i => ?_, fun i j a h1 h2 => ok.dj i j a (fplm i a h1).2 (fplm j a h2).2, fun i a h1 h2 => ?_, fun i a h1 => ok1.own i a (fplm i a h1).2, fun a h1 => ?_⟩
        · obtain ⟨e, hn⟩ := wipeE_some e
          obtain ⟨v, hv, r⟩ := ok1.rep i s e
          refine ⟨v, by rw [wipe_get, if_neg (fun z => hn z.1)]; exact hv, ?_⟩
          show Rep K H1 (Reg Sl0 fpl s.dp) v s.d (if i ∈ vs then [] else fps i)
          rw [if_neg hn]
          exact r.same (regl _) (Same.refl _)
        · show (if i ∈ vs then [] else fps i).Nodup
          split
          · exact List.nodup_nil
          · exact ok.nd i
        · rcases h2 with h2 | ⟨j, hj, h2⟩
          · exact ok1.ns i a (fplm i a h1).2 h2
          · have := ok.dj i j a (fplm i a h1).2 h2
            subst this
            exact (fplm _ a h1).1 hj
        · rcases h1 with h1 | ⟨j, _, h1⟩
          · exact ok1.st a h1
          · obtain ⟨t, ws, _, q⟩ := ok1.own j a h1
            exact ⟨_, q⟩
      have sD : ∀ acc : List V, Same H1 (upd H1 D (.lst acc)) := fun _ => same_upd hD
      have nS0 : ¬ Sl0 D := fun z => by
        obtain ⟨o, q⟩ := okl.st D z
        rw [hD] at q; cases q
      refine ⟨fun i m Hc => m = xs.length - i ∧ i ≤ xs.length ∧ ∃ (Sl : Addr → Prop) (acc : List V) (ads : List Py.D) (fpa : List Addr) (q : List Nat) (rest : List Py.D × List Nat),
        Same H1 Hc ∧ (∀ a, Sl0 a → Sl a) ∧ (∀ a, Sl a → Sl0 a ∨ (H1 a = none ∧ ∃ o, Hc a = some o)) ∧ ¬ Sl D ∧ Hc D = some (.lst acc) ∧ RepL K Hc (Reg Sl fpl q) acc ads fpa ∧ fpa.Nodup ∧ D ∉ fpa ∧ (∀ a ∈ fpa, H1 a = none ∧ ¬ Sl a) ∧
        Ok K Sl fpl (wipeE ρ vs) (wipe σ vs) Hc ∧ lc2L G tst vs1 f1 G1 tst1 el p (wipeE ρ vs) (xs.drop i) = .ok rest ∧ tot = (ads ++ rest.1, q ++ rest.2),
        ⟨xs.length, rfl, Nat.zero_le _, Sl0, [], [], [], [], tot, sD [], fun _ z => z, fun _ z => .inl z, nS0, upd_same, .nil, List.nodup_nil, (by simp), fun a z => (by cases z), ?_, e2, rfl⟩, ?_⟩
      · have g2 : Grow Sl0 H1 Sl0 (upd H1 D (.lst [])) := ⟨sD [], fun _ z => z, fun _ z => .inl z⟩
        exact okl.grow g2
      rintro i m Hc ⟨rfl, hi, Sl, acc, ads, fpa, q, rest, sm, sub, new, nSD, eD, rl, nda, nDa, za, okc, er, et⟩
      have sy : Stays (Reg S1 fps p) H1 Hc := Same.stays sm
      by_cases hlt : i < xs.length
      · have edrop : xs.drop i = xs[i] :: xs.drop (i + 1) := List.drop_eq_getElem_cons hlt
        have ei : xs[i]? = some xs[i] := List.getElem?_eq_getElem hlt
        rw [edrop] at er
        generalize xs[i] = d at er ei
        refine .inr ⟨wk.go i Hc sy hlt, fun Hn => ∃ (Sl : Addr → Prop) (acc : List V) (ads : List Py.D) (fpa : List Addr) (q : List Nat) (rest : List Py.D × List Nat),
          Same H1 Hn ∧ (∀ a, Sl0 a → Sl a) ∧ (∀ a, Sl a → Sl0 a ∨ (H1 a = none ∧ ∃ o, Hn a = some o)) ∧ ¬ Sl D ∧ Hn D = some (.lst acc) ∧ RepL K Hn (Reg Sl fpl q) acc ads fpa ∧ fpa.Nodup ∧ D ∉ fpa ∧ (∀ a ∈ fpa, H1 a = none ∧ ¬ Sl a) ∧
          Ok K Sl fpl (wipeE ρ vs) (wipe σ vs) Hn ∧ lc2L G tst vs1 f1 G1 tst1 el p (wipeE ρ vs) (xs.drop (i + 1)) = .ok rest ∧ tot = (ads ++ rest.1, q ++ rest.2), fun Hn z => ⟨_, by omega, rfl, hlt, z⟩, fun x H2 y => ?_⟩
        obtain ⟨sm2, rx⟩ := wk.yld i Hc x H2 d sy y ei
        unfold lc2L at er
        cases eg : G (mk d p) (wipeE ρ vs) with
        | none => rw [eg] at er; cases er
        | some ρ1 =>
          rw [eg] at er
          dsimp only at er
          have ok2 : Ok K Sl fpl (wipeE ρ vs) (wipe σ vs) H2 := okc.grow ⟨sm2, fun _ z => z, fun _ z => .inl z⟩
          have rx' : Rep K H2 (Reg Sl fpl p) x d [] := rx.same (fun a z => Reg.mono sub (fun _ z => z) a (regl p a z)) (Same.refl _)
          refine qg Sl fpl [] (wipeE ρ vs) (wipe σ vs) H2 x (mk d p) ρ1 _ ok2 rx'.mkd eg fun S3 fps3 σ3 ok3 st3 u3 => ⟨(u3.wp vs hts).trans (wipe_wipe σ vs), ?_⟩
          have s3 : ∀ a, S3 a → Sl a := fun a z => by
            rcases u3.st a z with z | ⟨j, hj, z⟩
            · exact z
            · exact ((fplm j a z).1 (hts j hj)).elim
          cases t1 : tst ρ1 with
          | stuck => rw [t1] at er; cases er
          | rs c => rw [t1] at er; cases er
          | ok b =>
            rw [t1] at er
            dsimp only [nors, Res.bind] at er
            refine qt S3 fps3 ρ1 σ3 H2 _ ok3 ?_
            rw [t1]
            intro S4 H3 g4
            have ok4 := ok3.grow g4
            have smc3 : Same Hc H3 := sm2.trans g4.same
            have eD3 : H3 D = some (.lst acc) := smc3 D _ eD
            have n4 : ∀ a, S4 a → Sl a ∨ (Hc a = none ∧ ∃ o, H3 a = some o) := fun a z => by
              rcases g4.new a z with z | ⟨z, o⟩
              · exact .inl (s3 a z)
              · exact .inr ⟨sm2.free z, o⟩
            cases b with
            | false =>
              rw [if_neg Bool.false_ne_true] at er
              rw [if_neg Bool.false_ne_true]
              refine ⟨Sl, acc, ads, fpa, q, rest, sm.trans smc3, sub, fun a z => (new a z).imp id fun z => ⟨z.1, Same.dom smc3 z.2⟩, nSD, eD3, rl.same (fun _ z => z) smc3, nda, nDa, za, okc.grow ⟨smc3, fun _ z => z, fun _ z => .inl z⟩, er, et⟩
            | true =>
              rw [if_pos rfl] at er
              rw [if_pos rfl]
              cases t2 : f1 ρ1 with
              | stuck => rw [t2] at er; cases er
              | rs c => rw [t2] at er; cases er
              | ok a1 =>
                obtain ⟨xs1, p1⟩ := a1
                rw [t2] at er
                dsimp only [nors, Res.bind] at er
                cases t4 : lcL G1 tst1 el p1 (wipeE ρ1 vs1) xs1 with
                | stuck => rw [t4] at er; cases er
                | rs c => exact (lcL_rs t4).elim
                | ok r =>
                  rw [t4] at er
                  dsimp only [Res.bind] at er
                  cases t3 : lc2L G tst vs1 f1 G1 tst1 el p (wipeE ρ vs) (xs.drop (i + 1)) with
                  | stuck => rw [t3] at er; cases er
                  | rs c => exact (lc2L_rs t3).elim
                  | ok rest' =>
                    rw [t3] at er
                    cases er
                    refine qi1 S4 fps3 ρ1 σ3 H3 _ ok4 ?_
                    rw [t2]
                    intro J1 S5 H4 g5 wk1
                    have ok5 := ok4.grow g5
                    have smc4 : Same Hc H4 := smc3.trans g5.same
                    have eD4 : H4 D = some (.lst acc) := g5.same D _ eD3
                    have n5 : ∀ a, S5 a → Sl a ∨ (Hc a = none ∧ ∃ o, H4 a = some o) := fun a z => by
                      rcases g5.new a z with z | ⟨z, o⟩
                      · exact (n4 a z).imp id fun z => ⟨z.1, Same.dom g5.same z.2⟩
                      · exact .inr ⟨smc3.free z, o⟩
                    have nS5 : ¬ S5 D := fun z => by
                      rcases n5 D z with z | ⟨z, _⟩
                      · exact nSD z
                      · rw [eD] at z; cases z
                    have la : acc.length = ads.length := rl.length
                    have hlen : acc.length + r.1.length ≤ sizeLine := by
                      have := congrArg (fun t => t.1.length) et
                      simp only [List.length_append] at this
                      omega
                    refine lcIn_sem hts1 qg1 qt1 qe ok5 (fun j hj => ?_) wk1 eD4 nS5 (fun j z => H1r j D (fplm j D (u3.fp j D z)).2 rfl) t4 hlen ?_
                    · cases e0 : fps3 j with
                      | nil => rfl
                      | cons b bs =>
                        have : b ∈ fpl j := u3.fp j b (by rw [e0]; exact List.mem_cons_self)
                        exact ((fplm j b this).1 (hv1 j hj)).elim
                    intro S' Hn newv fpy smn subn newn nS'n eDn rln ndn nDn zan
                    have smcn : ∀ a o, a ≠ D → Hc a = some o → Hn a = some o := fun a o ha e => smn a o ha (smc4 a o e)
                    have n6 : ∀ a, S' a → Sl a ∨ (Hc a = none ∧ ∃ o, Hn a = some o) := fun a z => by
                      rcases newn a z with z | ⟨z, o⟩
                      · rcases n5 a z with z | ⟨z, o, e⟩
                        · exact .inl z
                        · refine .inr ⟨z, o, smn a o ?_ e⟩
                          rintro rfl; rw [eD] at z; cases z
                      · exact .inr ⟨smc4.free z, o⟩
                    refine ⟨fun a => Sl a ∨ S' a, acc ++ newv, ads ++ r.1, fpa ++ fpy, q ++ r.2, rest', ?_, fun a z => .inl (sub a z), fun a z => ?_, fun z => z.elim nSD nS'n, eDn, ?_, ?_, ?_, ?_, ?_, rfl, ?_⟩
                    · intro a o e
                      exact smcn a o (ne_of_none e hD) (sm a o e)
                    · rcases z with z | z
                      · refine (new a z).imp id fun z => ⟨z.1, ?_⟩
                        obtain ⟨o, e⟩ := z.2
                        by_cases ha : a = D
                        · subst ha; exact ⟨_, eDn⟩
                        · exact ⟨o, smcn a o ha e⟩
                      · rcases n6 a z with z | ⟨z, o⟩
                        · refine (new a z).imp id fun z => ⟨z.1, ?_⟩
                          obtain ⟨o, e⟩ := z.2
                          by_cases ha : a = D
                          · subst ha; exact ⟨_, eDn⟩
                          · exact ⟨o, smcn a o ha e⟩
                        · exact .inr ⟨sm.free z, o⟩
                    · refine RepL.append (rl.mono (Reg.mono (fun _ => .inl) fun _ => List.mem_append_left _) (fun a ha o e => ?_) fun a ws e => ?_) (rln.same (fun a z => ?_) (Same.refl _))
                      · refine smcn a o ?_ e
                        rintro rfl
                        rcases ha with (z | ⟨j, _, z⟩) | z
                        · exact nSD z
                        · exact H1r j _ (fplm j _ z).2 rfl
                        · exact nDa z
                      · refine smcn a _ ?_ e
                        rintro rfl; rw [eD] at e; cases e
                      · rcases z with z | ⟨j, hj, z⟩
                        · exact .inl (.inr z)
                        · exact .inr ⟨j, List.mem_append_right _ hj, u3.fp j a z⟩
                    · refine ap_nodup nda ndn fun a h1 h2 => ?_
                      obtain ⟨o, e⟩ := rl.dom a h1
                      have := smc4 a o e
                      rw [(zan a h2).1] at this; cases this
                    · intro z
                      rcases List.mem_append.mp z with z | z
                      · exact nDa z
                      · exact nDn z
                    · intro a ha
                      rcases List.mem_append.mp ha with z | z
                      · refine ⟨(za a z).1, fun hs => ?_⟩
                        rcases hs with hs | hs
                        · exact (za a z).2 hs
                        · rcases n6 a hs with hs | ⟨hs, _⟩
                          · exact (za a z).2 hs
                          · obtain ⟨o, e⟩ := rl.dom a z
                            rw [hs] at e; cases e
                      · refine ⟨sm.free (smc4.free (zan a z).1), fun hs => ?_⟩
                        rcases hs with hs | hs
                        · obtain ⟨o, e⟩ := okc.st a hs
                          have := smc4 a o e
                          rw [(zan a z).1] at this; cases this
                        · exact (zan a z).2 hs
                    · have okg : Ok K (fun a => Sl a ∨ S' a) fpl (wipeE ρ vs) (wipe σ vs) Hn := by
                        have agr : ∀ j a, a ∈ fpl j → a ≠ D := fun j a z => H1r j a (fplm j a z).2
                        refine ⟨okc.len, fun j s e => ?_, okc.nd, okc.dj, fun j a h1 h2 => ?_, fun j a h1 => ?_, fun a h1 => ?_⟩
                        · obtain ⟨v, hv, rr⟩ := okc.rep j s e
                          refine ⟨v, hv, rr.mono (Reg.mono (fun _ => .inl) fun _ z => z) (fun a ha o e => smcn a o ?_ e) fun a ws e => smcn a _ ?_ e⟩
                          · rintro rfl
                            rcases ha with (z | ⟨j, _, z⟩) | z
                            · exact nSD z
                            · exact agr j _ z rfl
                            · exact agr _ _ z rfl
                          · rintro rfl; rw [eD] at e; cases e
                        · rcases h2 with h2 | h2
                          · exact okc.ns j a h1 h2
                          · rcases n6 a h2 with h2 | ⟨h2, _⟩
                            · exact okc.ns j a h1 h2
                            · obtain ⟨t, ws, _, q⟩ := okc.own j a h1
                              rw [h2] at q; cases q
                        · obtain ⟨t, ws, h2, q⟩ := okc.own j a h1
                          exact ⟨t, ws, h2, smcn a _ (agr j a h1) q⟩
                        · rcases h1 with h1 | h1
                          · obtain ⟨o, e⟩ := okc.st a h1
                            refine ⟨o, smcn a o ?_ e⟩
                            rintro rfl; exact nSD h1
                          · rcases n6 a h1 with h1 | ⟨_, h1⟩
                            · obtain ⟨o, e⟩ := okc.st a h1
                              refine ⟨o, smcn a o ?_ e⟩
                              rintro rfl; exact nSD h1
                            · exact h1
                      exact okg
                    · rw [et]; simp
      · have eiq : i = xs.length := by omega
        subst eiq
        rw [List.drop_length] at er
        cases er
        refine .inl ⟨wk.stop _ Hc sy (Nat.le_refl _), ?_⟩
        simp only [List.append_nil] at et
        subst et
        refine Val.fin (K := K) (S' := fun a => S1 a ∨ (Sl a ∧ H1 a = none)) (fp := D :: fpa) h ⟨g1'.same.trans sm, fun a z => .inl (g1'.sub a z), fun a z => ?_⟩ (.own rfl trivial eD (rl.same (fun a z => ?_) (Same.refl _))) (List.nodup_cons.mpr ⟨nDa, nda⟩) fun a ha => ?_
        · rcases z with z | ⟨z, n⟩
          · exact (g1'.new a z).imp id fun z => ⟨z.1, Same.dom sm z.2⟩
          · rcases new a z with z | z
            · obtain ⟨o, e⟩ := okl.st a z
              rw [n] at e; cases e
            · exact .inr ⟨g1'.same.free z.1, z.2⟩
        · rcases z with z | ⟨j, hj, z⟩
          · rcases new a z with z' | z'
            · rcases z' with z' | ⟨j, hj, z'⟩
              · exact .inl (.inl z')
              · exact .inr ⟨j, List.mem_append_right _ hj, z'⟩
            · exact .inl (.inr ⟨z, z'.1⟩)
          · exact .inr ⟨j, List.mem_append_left _ hj, (fplm j a z).2⟩
        · rcases List.mem_cons.mp ha with rfl | ha
          · refine ⟨g1'.same.free hD, fun z => ?_⟩
            rcases z with z | ⟨z, _⟩
            · obtain ⟨o, e⟩ := ok1.st _ z
              rw [hD] at e; cases e
            · exact nSD z
          · refine ⟨g1'.same.free (za a ha).1, fun z => ?_⟩
            rcases z with z | ⟨z, _⟩
            · exact (za a ha).2 (sub a (.inl z))
            · exact (za a ha).2 z
theorem ve_lc2 {elt tg iter tg1 iter1 : Expr} {ifs ifs1 : List Expr} {scope : Scope} {own : List (Str × Nat)} {vs1 : List Nat} {pos : Pos} {ts ts1 : List Nat} {f f1 : Ev → Res (List D × List Nat)} {G G1 : D × List Nat → Ev → Option Ev} {tst tst1 : Ev → Res Bool} {el : Ev → Res (D × List Nat)}
    (hF : Fam P w K mg base N k X) (hok : ∀ i, BlkOk (X i).N (X i).env.scope scope own) (hi : VI K mg X tg iter f) (hg : VG K (blkF X scope) tg ts G) (ht : VTs K mg (blkF X scope) ifs tst) (hi1 : VI K mg (blkF X scope) tg1 iter1 f1) (hg1 : VG K (blkF X scope) tg1 ts1 G1) (ht1 : VTs K mg (blkF X scope) ifs1 tst1) (he : VE K mg (blkF X scope) elt el)
    (hts : ∀ j ∈ ts, j ∈ own.map (·.2) := by decide) (hts1 : ∀ j ∈ ts1, j ∈ vs1 := by decide) (hv1 : ∀ j ∈ vs1, j ∈ own.map (·.2) := by decide) (hs : ∀ i x, foldedSetIterable iter (X i).env x = pure x := by intro _ _; rfl) (hs1 : ∀ env x, foldedSetIterable iter1 env x = pure x := by intro _ _; rfl) : VE K mg X (.ListComp elt [⟨tg, iter, ifs, 0⟩, ⟨tg1, iter1, ifs1, 0⟩] scope pos) (eLc2 (own.map (·.2)) vs1 f G tst f1 G1 tst1 el) := by
  intro W tk
  obtain ⟨wi, pi, qi⟩ := hi W tk
  obtain ⟨g, pg, qg⟩ := hg
  obtain ⟨tt, pt, qt⟩ := ht _ (fun _ => takesF)
  obtain ⟨wi1, pi1, qi1⟩ := hi1 _ (fun _ => takesF)
  obtain ⟨g1, pg1, qg1⟩ := hg1
  obtain ⟨tt1, pt1, qt1⟩ := ht1 _ (fun _ => takesF)
  obtain ⟨te, pe, qe⟩ := he _ (fun _ => takesF)
  exact ⟨tLc2 wi g tt wi1 g1 tt1 te (own.map (·.2)) vs1, fun i => pe_lc2 (hF.calm i) (by rw [hF.nn i]; exact hF.nd) (pi i) (hok i) hv1 (fun s H C cl fp => pg (i, s, H, C, cl, fp)) (fun s H C cl fp => pt (i, s, H, C, cl, fp)) (fun s H C cl fp => pi1 (i, s, H, C, cl, fp)) (fun s H C cl fp => pg1 (i, s, H, C, cl, fp)) (fun s H C cl fp => pt1 (i, s, H, C, cl, fp)) (fun s H C cl fp => pe (i, s, H, C, cl, fp)) (hs i) hs1,
    fun S fps ρ σ H Q ok h => lc2_sem hts hts1 hv1 qi qg qt qi1 qg1 qt1 qe ok h⟩
theorem vs_setLc2 {i : Nat} {y : Str} {py : Pos} {elt tg iter tg1 iter1 : Expr} {ifs ifs1 : List Expr} {scope : Scope} {own : List (Str × Nat)} {vs1 : List Nat} {pos spos : Pos} {ts ts1 : List Nat} {f f1 : Ev → Res (List D × List Nat)} {G G1 : D × List Nat → Ev → Option Ev} {tst tst1 : Ev → Res Bool} {el : Ev → Res (D × List Nat)}
    (hF : Fam P w K mg base N k X) (hok : ∀ i, BlkOk (X i).N (X i).env.scope scope own) (hi : VI K mg X tg iter f) (hg : VG K (blkF X scope) tg ts G) (ht : VTs K mg (blkF X scope) ifs tst) (hi1 : VI K mg (blkF X scope) tg1 iter1 f1) (hg1 : VG K (blkF X scope) tg1 ts1 G1) (ht1 : VTs K mg (blkF X scope) ifs1 tst1) (he : VE K mg (blkF X scope) elt el)
    (hy : ∀ i', (X i').N[i]? = some y := by intro _; rfl) (hyl : ∀ i', (X i').env.scope.names.lookup y = some .local := by intro _; rfl)
    (hsw : ∀ i', swapsWith (.ListComp elt [⟨tg, iter, ifs, 0⟩, ⟨tg1, iter1, ifs1, 0⟩] scope pos) (some (.Name y py)) spos.line (X i').env = pure true := by intro _; exact sw_true rfl rfl rfl (by decide +kernel))
    (hts : ∀ j ∈ ts, j ∈ own.map (·.2) := by decide) (hts1 : ∀ j ∈ ts1, j ∈ vs1 := by decide) (hv1 : ∀ j ∈ vs1, j ∈ own.map (·.2) := by decide) (hs : ∀ i x, foldedSetIterable iter (X i).env x = pure x := by intro _ _; rfl) (hs1 : ∀ env x, foldedSetIterable iter1 env x = pure x := by intro _ _; rfl) :
    VS K mg X (.Assign [.Name y py] (.ListComp elt [⟨tg, iter, ifs, 0⟩, ⟨tg1, iter1, ifs1, 0⟩] scope pos) spos) (sSet i (eLc2 (own.map (·.2)) vs1 f G tst f1 G1 tst1 el)) := by
  intro W tk
  obtain ⟨wi, pi, qi⟩ := hi W tk
  obtain ⟨g, pg, qg⟩ := hg
  obtain ⟨tt, pt, qt⟩ := ht _ (fun _ => takesF)
  obtain ⟨wi1, pi1, qi1⟩ := hi1 _ (fun _ => takesF)
  obtain ⟨g1, pg1, qg1⟩ := hg1
  obtain ⟨tt1, pt1, qt1⟩ := ht1 _ (fun _ => takesF)
  obtain ⟨te, pe, qe⟩ := he _ (fun _ => takesF)
  exact ⟨tAsg (tLc2 wi g tt wi1 g1 tt1 te (own.map (·.2)) vs1) (gName i), fun i' => ps_setLc2 (hF.calm i') (by rw [hF.nn i']; exact hF.nd) (hy i') (hyl i') (hsw i') (pi i') (hok i') hv1 (fun s H C cl fp => pg (i', s, H, C, cl, fp)) (fun s H C cl fp => pt (i', s, H, C, cl, fp)) (fun s H C cl fp => pi1 (i', s, H, C, cl, fp)) (fun s H C cl fp => pg1 (i', s, H, C, cl, fp)) (fun s H C cl fp => pt1 (i', s, H, C, cl, fp)) (fun s H C cl fp => pe (i', s, H, C, cl, fp)) (hs i') hs1,
    fun lk S fps ρ σ H E ok h => set_sem (fun S fps ρ σ H Q ok h => lc2_sem hts hts1 hv1 qi qg qt qi1 qg1 qt1 qe ok h) ok h⟩
end
end Py

set_option Elab.async false
set_option linter.all false
set_option maxRecDepth 100000
/-! what lies within a name's own container is changed -/
namespace Py
open PySem PySem.Spec L2
def getP : List Nat → D → Option D
  | [], d => some d
  | k :: ks, d => match d with
    | .node true .lst xs => (xs[k]?).bind (getP ks)
    | .node _ .tup xs => (xs[k]?).bind (getP ks)
    | _ => none
def setP : List Nat → D → D → D
  | [], e, _ => e
  | k :: ks, e, d => match d with
    | .node o t xs => match xs[k]? with
      | some x => .node o t (xs.set k (setP ks e x))
      | none => d
    | _ => d
def AtP (H : Hp) : V → List Nat → V → Prop
  | u, [], v => u = v
  | u, k :: ks, v => ∃ a vs w, u = .ref a ∧ (H a = some (.lst vs) ∨ H a = some (.tup vs)) ∧ vs[k]? = some w ∧ AtP H w ks v
theorem AtP.same {H H' : Hp} (h : Same H H') : ∀ {p : List Nat} {u v : V}, AtP H u p v → AtP H' u p v
  | [], _, _, e => e
  | k :: ks, _, _, ⟨a, vs, w, e1, e2, e3, e4⟩ => ⟨a, vs, w, e1, e2.imp (h a _) (h a _), e3, e4.same h⟩
theorem AtP.fun {H : Hp} : ∀ {p : List Nat} {u v v' : V}, AtP H u p v → AtP H u p v' → v = v'
  | [], _, _, _, e, e' => e.symm.trans e'
  | k :: ks, _, _, _, ⟨a, vs, w, e1, e2, e3, e4⟩, ⟨a', vs', w', f1, f2, f3, f4⟩ => by
    rw [e1] at f1; cases f1
    have : vs = vs' := by
      rcases e2 with e2 | e2 <;> rcases f2 with f2 | f2 <;> rw [e2] at f2 <;> cases f2 <;> rfl
    subst this
    rw [e3] at f3; cases f3
    exact e4.fun f4
section
variable {K : PySem.W.Frag} {H : Hp} {R : Addr → Prop}
theorem RepL.split : ∀ {vs : List V} {ds : List D} {fp : List Addr} (k : Nat) {w : V} {dk : D}, RepL K H R vs ds fp → vs[k]? = some w → ds[k]? = some dk → ∃ p f q, fp = p ++ f ++ q ∧ Rep K H R w dk f ∧
    ∀ {H' : Hp} {R' : Addr → Prop} {dk' : D} {f' : List Addr}, (∀ a, R a → R' a) → (∀ a, R a ∨ a ∈ p ∨ a ∈ q → ∀ o, H a = some o → H' a = some o) → (∀ a vs, H a = some (.tup vs) → H' a = some (.tup vs)) → Rep K H' R' w dk' f' → RepL K H' R' vs (ds.set k dk') (p ++ f' ++ q)
  | _, _, _, _, _, _, .nil, e, _ => by simp at e
  | _, _, _, 0, w, dk, .cons (f := f) (g := g) h l, e1, e2 => by
    simp at e1 e2; subst e1; subst e2
    refine ⟨[], f, g, rfl, h, fun hR hH hT r => ?_⟩
    exact .cons r (l.mono hR (fun a ha => hH a (ha.imp id .inr)) hT)
  | _, _, _, k + 1, w, dk, .cons (f := f) (g := g) h l, e1, e2 => by
    obtain ⟨p, f', q, rfl, r, s⟩ := l.split k (by simpa using e1) (by simpa using e2)
    refine ⟨f ++ p, f', q, by simp, r, fun {H' R' dk' f''} hR hH hT r' => ?_⟩
    have := s hR (fun a ha => hH a (ha.imp id fun z => z.imp (fun z => List.mem_append_right _ z) id)) hT r'
    have z := RepL.cons (h.mono hR (fun a ha => hH a (ha.imp id fun z => .inl (List.mem_append_left _ z))) hT) this
    rw [List.append_assoc f p f'', List.append_assoc]
    exact z
/-- what lies at a path, and how it is changed -/
theorem Rep.atP : ∀ {path : List Nat} {u v : V} {d : D} {fp : List Addr} {t : Tg} {xs : List D}, Rep K H R u d fp → getP path d = some (.node true t xs) → AtP H u path v → t.isT = false → fp.Nodup →
    ∃ a vs f pre post, v = .ref a ∧ t.wf vs.length ∧ H a = some (ho t vs) ∧ RepL K H R vs xs f ∧ fp = pre ++ (a :: f) ++ post ∧
      ∀ {H' : Hp} {R' : Addr → Prop} {t' : Tg} {vs' : List V} {xs' : List D} {f' : List Addr}, t'.isT = false → t'.wf vs'.length → (∀ b, R b → R' b) → ¬ R a → (∀ b o, b ≠ a → H b = some o → H' b = some o) → H' a = some (ho t' vs') → RepL K H' R' vs' xs' f' → Rep K H' R' u (setP path (.node true t' xs') d) (pre ++ (a :: f') ++ post)
  | [], u, v, d, fp, t, xs, r, e, at', ht, nd => by
    cases e
    cases at'
    cases r with
    | own h1 h2 h3 l =>
      refine ⟨_, _, _, [], [], rfl, h2, h3, l, by simp, fun ht' hw' _ _ _ ha l' => ?_⟩
      rw [List.nil_append, List.append_nil]
      exact .own ht' hw' ha l'
  | k :: ks, u, v, d, fp, t, xs, r, e, at', ht, nd => by
    obtain ⟨a0, vs0, w, rfl, hv, hk, at2⟩ := at'
    cases r with
    | own h1 h2 h3 l =>
      rename_i t0 vs1 ds fp0
      cases t0 with
      | lst =>
        unfold getP at e
        dsimp only at e
        have : vs0 = vs1 := by
          rcases hv with hv | hv <;> rw [h3] at hv <;> cases hv
          rfl
        subst this
        cases e0 : ds[k]? with
        | none => rw [e0] at e; cases e
        | some dk =>
          rw [e0] at e
          obtain ⟨p, f, q, rfl, rk, s⟩ := l.split k hk e0
          obtain ⟨n1, n2⟩ := List.nodup_cons.mp nd
          have nf : f.Nodup := ((List.nodup_append.mp (List.nodup_append.mp n2).1).2).1
          obtain ⟨a, vs, f1, pre, post, rfl, hw, ha, l1, rfl, up⟩ := rk.atP e at2 ht nf
          refine ⟨a, vs, f1, a0 :: p ++ pre, post ++ q, rfl, hw, ha, l1, by simp, fun {H' R' t' vs' xs' f'} ht' hw' hR hRa hH hHa l' => ?_⟩
          have ham : a ∈ pre ++ (a :: f1) ++ post := by simp
          have hne : a0 ≠ a := fun z => n1 (by rw [z]; simp)
          have kp : ∀ b vs, H b = some (.tup vs) → H' b = some (.tup vs) := fun b ws z => hH b _ (by rintro rfl; rw [ha] at z; exact ho_tup ht (Option.some.inj z).symm) z
          have r1 := up ht' hw' hR hRa hH hHa l'
          have hpq : ∀ b, b ∈ p ∨ b ∈ q → b ≠ a := fun b hb z => by
            subst z
            rcases hb with hb | hb
            · exact (List.nodup_append.mp (List.nodup_append.mp n2).1).2.2 b hb b ham rfl
            · exact (List.nodup_append.mp n2).2.2 b (List.mem_append_right _ ham) b hb rfl
          have l2 := s hR (fun b hb o z => hH b o (by
            rintro rfl
            rcases hb with hb | hb
            · exact hRa hb
            · exact hpq _ hb rfl) z) kp r1
          have e9 : setP (k :: ks) (.node true t' xs') (.node true .lst ds) = .node true .lst (ds.set k (setP ks (.node true t' xs') dk)) := by
            rw [setP]; simp only [e0]
          rw [e9]
          have := Rep.own (t := .lst) rfl trivial (hH a0 _ hne h3) l2
          simpa using this
      | tup => cases h1
      | dK _ => cases e
      | dT _ => cases e
    | tup h3 l =>
      rename_i vs1 ds
      unfold getP at e
      dsimp only at e
      have : vs0 = vs1 := by
        rcases hv with hv | hv
        · rw [show H a0 = _ from h3] at hv; cases hv
        · rw [show H a0 = _ from h3] at hv; cases hv; rfl
      subst this
      cases e0 : ds[k]? with
      | none => rw [e0] at e; cases e
      | some dk =>
        rw [e0] at e
        obtain ⟨p, f, q, rfl, rk, s⟩ := l.split k hk e0
        have nf : f.Nodup := ((List.nodup_append.mp (List.nodup_append.mp nd).1).2).1
        obtain ⟨a, vs, f1, pre, post, rfl, hw, ha, l1, rfl, up⟩ := rk.atP e at2 ht nf
        refine ⟨a, vs, f1, p ++ pre, post ++ q, rfl, hw, ha, l1, by simp, fun {H' R' t' vs' xs' f'} ht' hw' hR hRa hH hHa l' => ?_⟩
        have ham : a ∈ pre ++ (a :: f1) ++ post := by simp
        have kp : ∀ b vs, H b = some (.tup vs) → H' b = some (.tup vs) := fun b ws z => hH b _ (by rintro rfl; rw [ha] at z; exact ho_tup ht (Option.some.inj z).symm) z
        have r1 := up ht' hw' hR hRa hH hHa l'
        have hpq : ∀ b, b ∈ p ∨ b ∈ q → b ≠ a := fun b hb z => by
          subst z
          rcases hb with hb | hb
          · exact (List.nodup_append.mp (List.nodup_append.mp nd).1).2.2 b hb b ham rfl
          · exact (List.nodup_append.mp nd).2.2 b (List.mem_append_right _ ham) b hb rfl
        have l2 := s hR (fun b hb o z => hH b o (by
          rintro rfl
          rcases hb with hb | hb
          · exact hRa hb
          · exact hpq _ hb rfl) z) kp r1
        have e9 : setP (k :: ks) (.node true t' xs') (.node false .tup ds) = .node false .tup (ds.set k (setP ks (.node true t' xs') dk)) := by
          rw [setP]; simp only [e0]
        rw [e9]
        have := Rep.tup (kp a0 _ h3) l2
        simpa using this
    | shr h1 h2 h3 h4 l =>
      rename_i t0 _ _
      cases t0 with
      | lst => cases e
      | tup => cases h1
      | dK _ => cases e
      | dT _ => cases e
    | kst _ _ => cases e
theorem put_gen {S0 S : Addr → Prop} {fps : Nat → List Addr} {lk : List Nat} {ρ : Ev} {σ : L2.St} {H0 H : Hp} {i : Nat} {t t' : Tg} {s : Slot} {d' : D} {dp' : List Nat} {a : Addr} {vs vs' : List V} {fp' : List Addr} {v : V}
    (ok0 : Ok K S0 fps ρ σ H0) (g : Grow S0 H0 S H) (e : ρ[i]? = some (some s)) (hσ : σ[i]? = some (some v)) (hai : a ∈ fps i) (ha : H a = some (ho t vs)) (htt : t.isT = false) (hdp : i ∉ s.dp) (ht' : t'.isT = false)
    (rp : Rep K (upd H a (ho t' vs')) (Reg S fps dp') v d' fp') (hdp' : i ∉ dp') (nd : fp'.Nodup) (hf : ∀ b ∈ fp', b ∈ fps i ∨ (H0 b = none ∧ ¬ S b)) (hlk : i ∉ lk) :
    ∃ S' fps', Ok K S' fps' (putE i (d', dp') ρ) σ (upd H a (ho t' vs')) ∧ Step S0 fps lk H0 S' fps' (upd H a (ho t' vs')) := by
  have ok := ok0.grow g
  have nk : kd i ρ i = false := by
    unfold kd
    rw [e]
    simpa using hdp
  have other : ∀ j b, j ≠ i → b ∈ fps j → b ≠ a := fun j b hj hb e => hj (ok.dj j i b hb (e ▸ hai))
  have nSa : ¬ S a := ok.ns i a hai
  have reg : ∀ q b, Reg S fps q b → Reg (fun b => S b ∨ ∃ j, kd i ρ j = true ∧ b ∈ fps j) (fun j => if j = i then fp' else if kd i ρ j = true then [] else fps j) (q.filter fun j => !kd i ρ j) b ∨ i ∈ q := fun q b h => by
    rcases h with h | ⟨r, hr, h⟩
    · exact .inl (.inl (.inl h))
    · by_cases hri : r = i
      · exact .inr (hri ▸ hr)
      · cases hk : kd i ρ r with
        | true => exact .inl (.inl (.inr ⟨r, hk, h⟩))
        | false => exact .inl (.inr ⟨r, List.mem_filter.mpr ⟨hr, by rw [hk]; rfl⟩, by show b ∈ (if r = i then fp' else if kd i ρ r = true then [] else fps r); rw [if_neg hri, hk]; exact h⟩)
  have tupk : ∀ b ws, H b = some (.tup ws) → upd H a (ho t' vs') b = some (.tup ws) := fun b ws q => by
    rw [upd_ne]; exact q
    rintro rfl
    rw [ha] at q
    exact ho_tup htt (Option.some.inj q).symm
  have fpm : ∀ j b, b ∈ (if j = i then fp' else if kd i ρ j = true then [] else fps j) → (j = i ∧ b ∈ fp') ∨ (j ≠ i ∧ kd i ρ j = false ∧ b ∈ fps j) := fun j b h => by
    split at h
    · exact .inl ⟨‹_›, h⟩
    · split at h
      · cases h
      · exact .inr ⟨‹_›, by simpa using ‹¬ kd i ρ j = true›, h⟩
  have nsf : ∀ b ∈ fp', ¬ S b := fun b hb z => (hf b hb).elim (fun q => ok.ns i b q z) fun q => q.2 z
  have djf : ∀ j b, j ≠ i → b ∈ fp' → b ∉ fps j := fun j b hj hb z => (hf b hb).elim (fun q => hj (ok.dj j i b z q)) fun q => by
    obtain ⟨t, ws, _, w⟩ := ok0.own j b z
    rw [q.1] at w; cases w
  refine ⟨fun b => S b ∨ ∃ j, kd i ρ j = true ∧ b ∈ fps j, fun j => if j = i then fp' else if kd i ρ j = true then [] else fps j, ⟨?_, fun j s q => ?_, fun j => ?_, fun j l b h1 h2 => ?_, fun j b h1 h2 => ?_, fun j b h => ?_, fun b h => ?_⟩, ⟨fun b o q hn => ?_, fun r hr b hb => ?_, fun b h => .inl (g.sub b h), fun b h => ?_⟩⟩
  · unfold putE
    rw [List.length_set, List.length_map, ok.len]
  · unfold putE at q
    by_cases hj : j = i
    · subst hj
      have hlt : j < ρ.length := (List.getElem?_eq_some_iff.mp e).1
      rw [List.getElem?_set_self (by simpa using hlt)] at q
      cases q
      refine ⟨v, hσ, ?_⟩
      rw [if_pos rfl]
      exact rp.same (fun b z => (reg dp' b z).resolve_right hdp') (Same.refl _)
    · rw [List.getElem?_set_ne (Ne.symm hj), List.getElem?_map] at q
      cases e2 : ρ[j]? with
      | none => rw [e2] at q; cases q
      | some o =>
        cases o with
        | none => rw [e2] at q; cases q
        | some s0 =>
          rw [e2] at q
          simp only [Option.map_some] at q
          split at q
          · cases q
          · rename_i hc
            cases q
            have hc : i ∉ s0.dp := by simpa using hc
            have hk : kd i ρ j = false := by unfold kd; rw [e2]; simpa using hc
            obtain ⟨v, hv, r⟩ := ok.rep j s0 e2
            refine ⟨v, hv, ?_⟩
            rw [if_neg hj, hk]
            refine r.mono (fun b z => (reg _ b z).resolve_right hc) (fun b z o q => ?_) tupk
            rw [upd_ne]; exact q
            rintro rfl
            rcases z with (z | ⟨r, hr, z⟩) | z
            · exact nSa z
            · exact hc ((ok.dj r i _ z hai) ▸ hr)
            · exact other j _ hj z rfl
  · split
    · exact nd
    · split
      · exact List.nodup_nil
      · exact ok.nd j
  · rcases fpm j b h1 with ⟨rfl, h1'⟩ | ⟨hj, _, h1'⟩ <;> rcases fpm l b h2 with ⟨rfl, h2'⟩ | ⟨hl, _, h2'⟩
    · rfl
    · exact (djf l b hl h1' h2').elim
    · exact (djf j b hj h2' h1').elim
    · exact ok.dj j l b h1' h2'
  · rcases fpm j b h1 with ⟨rfl, h1'⟩ | ⟨hj, hk, h1'⟩
    · rcases h2 with h2 | ⟨l, hl, h2⟩
      · exact nsf b h1' h2
      · have hlj : l ≠ j := fun e => by rw [e, nk] at hl; cases hl
        exact djf l b hlj h1' h2
    · rcases h2 with h2 | ⟨l, hl, h2⟩
      · exact ok.ns j b h1' h2
      · have := ok.dj j l b h1' h2
        subst this
        rw [hk] at hl; cases hl
  · rcases fpm j b h with ⟨rfl, h'⟩ | ⟨hj, hk, h'⟩
    · exact rp.there b h'
    · obtain ⟨t2, ws, h2, q⟩ := ok.own j b h'
      exact ⟨t2, ws, h2, by rw [upd_ne (other j b hj h')]; exact q⟩
  · have dm : (∃ o, H b = some o) → ∃ o, upd H a (ho t' vs') b = some o := fun ⟨o, q⟩ => by
      by_cases hb : b = a
      · subst hb; exact ⟨_, upd_same⟩
      · exact ⟨o, by rw [upd_ne hb]; exact q⟩
    rcases h with h | ⟨j, _, h⟩
    · exact dm (ok.st b h)
    · obtain ⟨t2, ws, _, q⟩ := ok.own j b h
      exact dm ⟨_, q⟩
  · rw [upd_ne]; exact g.same b o q
    rintro rfl; exact hn i hai
  · have hri : r ≠ i := fun e => hlk (e ▸ hr)
    refine ⟨?_, ?_⟩
    · rw [upd_ne (other r b hri hb)]
      obtain ⟨t2, ws, _, q⟩ := ok0.own r b hb
      rw [g.same b _ q, q]
    · by_cases hk : kd i ρ r = true
      · exact .inl (.inr ⟨r, hk, hb⟩)
      · exact .inr (by show b ∈ (if r = i then fp' else if kd i ρ r = true then [] else fps r); rw [if_neg hri, if_neg hk]; exact hb)
  · rcases h with (h | ⟨j, _, h⟩) | ⟨j, h⟩
    · exact (g.new b h).imp id fun q => .inr q.1
    · exact .inr (.inl ⟨j, h⟩)
    · rcases fpm j b h with ⟨rfl, h'⟩ | ⟨hj, hk, h'⟩
      · rcases hf b h' with h' | h'
        · exact .inr (.inl ⟨j, h'⟩)
        · exact .inr (.inr h'.1)
      · exact .inr (.inl ⟨j, h'⟩)
end
end Py

set_option Elab.async false
set_option linter.all false
set_option maxRecDepth 100000
namespace Py
open PySem PySem.Spec L2
theorem Rep.getAt {K : PySem.W.Frag} {H : Hp} {R : Addr → Prop} : ∀ {path : List Nat} {u v : V} {d d1 : D} {fp : List Addr}, Rep K H R u d fp → getP path d = some d1 → AtP H u path v → ∃ f, Rep K H R v d1 f ∧ ∀ a ∈ f, a ∈ fp
  | [], u, v, d, d1, fp, r, e, at' => by
    cases e
    cases at'
    exact ⟨fp, r, fun _ z => z⟩
  | k :: ks, u, v, d, d1, fp, r, e, at' => by
    obtain ⟨a0, vs0, w, rfl, hv, hk, at2⟩ := at'
    cases r with
    | own h1 h2 h3 l =>
      rename_i t0 vs1 ds fp0
      cases t0 with
      | lst =>
        unfold getP at e
        dsimp only at e
        have : vs0 = vs1 := by
          rcases hv with hv | hv <;> rw [h3] at hv <;> cases hv
          rfl
        subst this
        cases e0 : ds[k]? with
        | none => rw [e0] at e; cases e
        | some dk =>
          rw [e0] at e
          obtain ⟨w', f, ew, rk, sf⟩ := l.get e0
          rw [hk] at ew; cases ew
          obtain ⟨f1, r1, s1⟩ := rk.getAt e at2
          exact ⟨f1, r1, fun a z => List.mem_cons_of_mem _ (sf.subset (s1 a z))⟩
      | tup => cases h1
      | dK _ => cases e
      | dT _ => cases e
    | tup h3 l =>
      rename_i vs1 ds
      unfold getP at e
      dsimp only at e
      have : vs0 = vs1 := by
        rcases hv with hv | hv
        · rw [show H a0 = _ from h3] at hv; cases hv
        · rw [show H a0 = _ from h3] at hv; cases hv; rfl
      subst this
      cases e0 : ds[k]? with
      | none => rw [e0] at e; cases e
      | some dk =>
        rw [e0] at e
        obtain ⟨w', f, ew, rk, sf⟩ := l.get e0
        rw [hk] at ew; cases ew
        obtain ⟨f1, r1, s1⟩ := rk.getAt e at2
        exact ⟨f1, r1, fun a z => sf.subset (s1 a z)⟩
    | shr h1 h2 h3 h4 l =>
      rename_i t0 _ _
      cases t0 with
      | lst => cases e
      | tup => cases h1
      | dK _ => cases e
      | dT _ => cases e
    | kst _ _ => cases e
theorem AtP.snoc {H : Hp} {a : Addr} {vs : List V} {w : V} {j : Nat} (h : H a = some (.lst vs) ∨ H a = some (.tup vs)) (e : vs[j]? = some w) : ∀ {p : List Nat} {u : V}, AtP H u p (.ref a) → AtP H u (p ++ [j]) w
  | [], u, at' => by
    cases at'
    exact ⟨a, vs, w, rfl, h, e, rfl⟩
  | k :: ks, u, ⟨a0, vs0, w0, e1, e2, e3, e4⟩ => ⟨a0, vs0, w0, e1, e2, e3, e4.snoc h e⟩
def PPost (mg : Str → Option Value) (W : WX) (S : Addr → Prop) (σ : L2.St) (H : Hp) (i : Nat) (r : Res (List Nat)) (Q : VK) : Prop := match r with
  | .ok p => ∀ v u S' H', Grow S H S' H' → σ[i]? = some (some u) → AtP H' u p v → Q v H'
  | .rs c => ∀ C H', mg c = some (.ref C) → Same H H' → W (.ref C) none σ H'
  | .stuck => False
/-- an expression that names what lies at a path of slot i -/
def VP (K : PySem.W.Frag) (mg : Str → Option Value) {ι : Type} (X : ι → Cx) (e : Expr) (i : Nat) (f : Ev → Res (List Nat)) : Prop :=
  ∀ W, (∀ i, Takes (X i) W) → ∃ t, (∀ i', PE (X i') e t) ∧ ∀ S fps ρ σ H Q, Ok K S fps ρ σ H → PPost mg W S σ H i (f ρ) Q → t σ H Q
def pNm (i : Nat) : Ev → Res (List Nat) := fun ρ => match ρ[i]? with
  | some (some _) => .ok []
  | _ => .stuck
def pIx (i : Nat) (fp : Ev → Res (List Nat)) (fk : Ev → Res (D × List Nat)) : Ev → Res (List Nat) := fun ρ => (fp ρ).bind fun p => (fk ρ).bind fun k => match ρ[i]? with
  | some (some s) => match getP p s.d with
    | some (.node true .lst xs) => match k.1 with
      | .int z => match ixN xs.length z with
        | some j => .ok (p ++ [j])
        | none => .stuck
      | _ => .stuck
    | some (.node _ .tup xs) => match k.1 with
      | .int z => match ixN xs.length z with
        | some j => .ok (p ++ [j])
        | none => .stuck
      | _ => .stuck
    | _ => .stuck
  | _ => .stuck
/-- .append(r) at a path of slot i -/
def appAt (i : Nat) (p : List Nat) (r : D × List Nat) (lk : List Nat) (ρ : Ev) : Out := match ρ[i]? with
  | some (some s) => match getP p s.d with
    | some (.node true .lst xs) => if (lk.contains i || (s.dp ++ r.2).contains i || decide (sizeLine ≤ xs.length)) = true then .stuck else .nx (putE i (setP p (.node true .lst (xs ++ [r.1])) s.d, s.dp ++ r.2) ρ)
    | _ => .stuck
  | _ => .stuck
def lstAt (i : Nat) (p : List Nat) (ρ : Ev) : Bool := match ρ[i]? with
  | some (some s) => match getP p s.d with
    | some (.node true .lst _) => true
    | _ => false
  | _ => false
/-- the argument, and then .append at a path -/
def appF (i : Nat) (f : Ev → Res (D × List Nat)) (p lk : List Nat) (ρ : Ev) : Out := if lstAt i p ρ = true then match f ρ with
    | .ok r => appAt i p r lk ρ
    | .rs c => .rs c ρ
    | .stuck => .stuck
  else .stuck
def sAppP (i : Nat) (pf : Ev → Res (List Nat)) (f : Ev → Res (D × List Nat)) : List Nat → Ev → Out := fun lk ρ => match pf ρ with
  | .ok p => appF i f p lk ρ
  | .rs c => .rs c ρ
  | .stuck => .stuck
/-- p[k] = r at a path of slot i -/
def subAt (i : Nat) (p : List Nat) (k : D) (r : D × List Nat) (lk : List Nat) (ρ : Ev) : Out := match ρ[i]? with
  | some (some s) => match getP p s.d with
    | some (.node true t xs) => match dstore t xs k r.1 with
      | some (t', xs') => if (lk.contains i || (s.dp ++ r.2).contains i || t.isT) = true then .stuck else .nx (putE i (setP p (.node true t' xs') s.d, s.dp ++ r.2) ρ)
      | none => .stuck
    | _ => .stuck
  | _ => .stuck
def sSubP (i : Nat) (pf : Ev → Res (List Nat)) (fk fe : Ev → Res (D × List Nat)) : List Nat → Ev → Out := fun lk ρ => match fe ρ with
  | .ok r => match pf ρ with
    | .ok p => match fk ρ with
      | .ok kk => subAt i p kk.1 r lk ρ
      | .rs c => .rs c ρ
      | .stuck => .stuck
    | .rs c => .rs c ρ
    | .stuck => .stuck
  | .rs c => .rs c ρ
  | .stuck => .stuck
section
variable {ι : Type} {X : ι → Cx} {P : Program} {w : World} {K : PySem.W.Frag} {mg : Str → Option Value} {base : Heap} {N : List Str} {k : Nat} {pos : Pos}
theorem vp_name {i : Nat} {x : Str} {pos : Pos} (hN : ∀ i', (X i').N[i]? = some x := by intro _; rfl) (hv : ∀ i, Vis (X i).env.scope x := by intro _; first | exact Or.inl rfl | exact Or.inr (Or.inl rfl) | exact Or.inr (Or.inr rfl)) (hd : (x == ("__debug__" : Str)) = false := by decide)
    (hcd : (x == ("__classdict__" : Str)) = false := by decide) : VP K mg X (.Name x pos) i (pNm i) := by
  intro W tk
  refine ⟨_, fun i' => pe_var (hN i') (hv i') hd hcd, fun S fps ρ σ H Q ok h => ?_⟩
  unfold pNm at h
  revert h
  split
  · intro h
    rename_i s e
    obtain ⟨v, e1, r⟩ := ok.rep i s e
    exact ⟨v, e1, h v v S H Grow.refl e1 rfl⟩
  · intro h; exact h.elim
theorem vp_ix {i : Nat} {a b : Expr} {fp : Ev → Res (List Nat)} {fk : Ev → Res (D × List Nat)} {pos : Pos} (hF : Fam P w K mg base N k X) (ha : VP K mg X a i fp) (hb : VE K mg X b fk) (hs : PlainIx b := by exact fun _ _ => rfl) : VP K mg X (.Subscript a b pos) i (pIx i fp fk) := by
  intro W tk
  obtain ⟨ta, pa, qa⟩ := ha W tk
  obtain ⟨tb, pb, qb⟩ := hb W tk
  refine ⟨tOp (rIxAll K) ta tb, fun i' => by have z := pe_ix (pos := pos) (ix_all (X := X i') (hF.u65 i')) (pa i') (pb i') hs; rw [hF.kk i'] at z; exact z, fun S fps ρ σ H Q ok h => ?_⟩
  unfold pIx at h
  refine qa S fps ρ σ H _ ok ?_
  cases e1 : fp ρ with
  | stuck => rw [e1] at h; exact h
  | rs c => rw [e1] at h; exact h
  | ok p =>
    rw [e1] at h
    intro v u S1 H1 g1 hu at1
    refine qb S1 fps ρ σ H1 _ (ok.grow g1) ?_
    cases e2 : fk ρ with
    | stuck => rw [e2] at h; exact h
    | rs c => rw [e2] at h; exact EPost.rs h g1.same
    | ok kk =>
      obtain ⟨dk, pk⟩ := kk
      rw [e2] at h
      intro y fy S2 H2 g2 ry ny zy
      dsimp only [Res.bind] at h
      have gg := g1.trans g2
      have ok2 := ok.grow gg
      have at2 := at1.same g2.same
      revert h
      split
      · rename_i s e3
        obtain ⟨u', hu', r⟩ := ok2.rep i s e3
        rw [hu] at hu'; cases hu'
        split
        · rename_i xs e4
          obtain ⟨f, rv, _⟩ := r.getAt e4 at2
          split
          · rename_i z
            split
            · rename_i j ej
              intro h
              cases ry
              cases rv with
              | @own a0 t0 vs ds0 f0 h1 h2 h3 l =>
                have hj : j < xs.length := (ixN_seq ej).2.1
                obtain ⟨w', f', ew, _, _⟩ := l.get (List.getElem?_eq_getElem hj)
                have ei : atI vs z = some w' := by unfold L2.atI; rw [l.length, ej]; exact ew
                exact .inl (.inl ⟨a0, vs, z, w', rfl, rfl, .inl (.inl h3), ei, h w' u S2 H2 gg hu (at2.snoc (.inl h3) ew)⟩)
            · intro h; exact h.elim
          · intro h; exact h.elim
        · rename_i xs e4
          obtain ⟨f, rv, _⟩ := r.getAt e4 at2
          split
          · rename_i z
            split
            · rename_i j ej
              intro h
              cases ry
              have hj : j < xs.length := (ixN_seq ej).2.1
              cases rv with
              | own h1 => cases h1
              | shr h1 => cases h1
              | tup h3 l =>
                rename_i a0 vs
                obtain ⟨w', f', ew, _, _⟩ := l.get (List.getElem?_eq_getElem hj)
                have ei : atI vs z = some w' := by unfold L2.atI; rw [l.length, ej]; exact ew
                exact .inl (.inr (.inl ⟨a0, vs, z, w', rfl, rfl, .inl (.inl h3), ei, h w' u S2 H2 gg hu (at2.snoc (.inr h3) ew)⟩))
            · intro h; exact h.elim
          · intro h; exact h.elim
        · intro h; exact h.elim
      · intro h; exact h.elim
theorem upd_at {S S1 : Addr → Prop} {fps : Nat → List Addr} {lk : List Nat} {ρ : Ev} {σ : L2.St} {H H1 : Hp} {i : Nat} {s : Slot} {u v : V} {p : List Nat} {t : Tg} {xs : List D} (ok : Ok K S fps ρ σ H) (g : Grow S H S1 H1) (e : ρ[i]? = some (some s)) (hσ : σ[i]? = some (some u)) (eg : getP p s.d = some (.node true t xs)) (at1 : AtP H1 u p v) (ht : t.isT = false) (hdp : i ∉ s.dp) (hlk : i ∉ lk) :
    ∃ a vs f, v = .ref a ∧ t.wf vs.length ∧ H1 a = some (ho t vs) ∧ RepL K H1 (Reg S1 fps s.dp) vs xs f ∧ (a :: f).Nodup ∧ (∀ b ∈ a :: f, b ∈ fps i) ∧
      ∀ {q : List Nat} {t' : Tg} {vs' : List V} {xs' : List D} {f' : List Addr}, i ∉ q → t'.isT = false → t'.wf vs'.length → RepL K H1 (Reg S1 fps (s.dp ++ q)) vs' xs' f' → f'.Nodup → a ∉ f' → (∀ b ∈ f', b ∈ f ∨ (H b = none ∧ ¬ S1 b)) →
        ∃ S' fps', Ok K S' fps' (putE i (setP p (.node true t' xs') s.d, s.dp ++ q) ρ) σ (upd H1 a (ho t' vs')) ∧ Step S fps lk H S' fps' (upd H1 a (ho t' vs')) := by
  have ok1 := ok.grow g
  obtain ⟨u', hu', r⟩ := ok1.rep i s e
  rw [hσ] at hu'; cases hu'
  obtain ⟨a, vs, f, pre, post, rfl, hw, ha, l, efp, up⟩ := r.atP eg at1 ht (ok.nd i)
  have hai : a ∈ fps i := by rw [efp]; simp
  have hfi : ∀ b ∈ a :: f, b ∈ fps i := fun b hb => by
    rw [efp]
    exact List.mem_append_left _ (List.mem_append_right _ hb)
  have nfp := ok.nd i
  rw [efp] at nfp
  have n1 := (List.nodup_append.mp nfp).1
  have naf : (a :: f).Nodup := (List.nodup_append.mp n1).2.1
  refine ⟨a, vs, f, rfl, hw, ha, l, naf, hfi, fun {q t' vs' xs' f'} hq ht' hw' l' nd' na' hf' => ?_⟩
  have old : ∀ b, b ∈ fps i → H b ≠ none := fun b hb z => by
    obtain ⟨_, _, _, w⟩ := ok.own i b hb
    rw [z] at w; cases w
  have nSa : ¬ S1 a := ok1.ns i a hai
  have regn : ∀ {dp : List Nat}, i ∉ dp → ¬ Reg S1 fps dp a := fun {dp} hd z => by
    rcases z with z | ⟨r, hr, z⟩
    · exact nSa z
    · exact hd ((ok.dj r i a z hai) ▸ hr)
  have hdq : i ∉ s.dp ++ q := fun z => (List.mem_append.mp z).elim hdp hq
  have inpre : ∀ b ∈ pre, b ∈ fps i := fun b hb => by rw [efp]; simp [hb]
  have inpost : ∀ b ∈ post, b ∈ fps i := fun b hb => by rw [efp]; simp [hb]
  have infr : ∀ b ∈ a :: f', b ∈ a :: f ∨ H b = none := fun b hb => by
    rcases List.mem_cons.mp hb with rfl | hb
    · exact .inl List.mem_cons_self
    · exact (hf' b hb).imp (List.mem_cons_of_mem _) fun z => z.1
  have rp : Rep K (upd H1 a (ho t' vs')) (Reg S1 fps (s.dp ++ q)) u (setP p (.node true t' xs') s.d) (pre ++ (a :: f') ++ post) := by
    refine up ht' hw' (Reg.mono (fun _ z => z) fun _ => List.mem_append_left _) (regn hdp) (fun b o hb z => by rw [upd_ne hb]; exact z) upd_same (l'.mono (fun _ z => z) (fun b hb o z => ?_) fun b ws z => ?_)
    · rw [upd_ne]; exact z
      rintro rfl
      rcases hb with hb | hb
      · exact regn hdq hb
      · exact na' hb
    · rw [upd_ne]; exact z
      rintro rfl
      rw [ha] at z
      exact ho_tup ht (Option.some.inj z).symm
  refine put_gen ok g e hσ hai ha ht hdp ht' rp hdq ?_ (fun b hb => ?_) hlk
  · refine ap_nodup (ap_nodup (List.nodup_append.mp n1).1 (List.nodup_cons.mpr ⟨na', nd'⟩) fun b h1 h2 => ?_) (List.nodup_append.mp nfp).2.1 fun b h1 h2 => ?_
    · rcases infr b h2 with h2 | h2
      · exact (List.nodup_append.mp n1).2.2 b h1 b h2 rfl
      · exact old b (inpre b h1) h2
    · rcases List.mem_append.mp h1 with h1 | h1
      · exact (List.nodup_append.mp nfp).2.2 b (List.mem_append_left _ h1) b h2 rfl
      · rcases infr b h1 with h1 | h1
        · exact (List.nodup_append.mp nfp).2.2 b (List.mem_append_right _ h1) b h2 rfl
        · exact old b (inpost b h2) h1
  · rcases List.mem_append.mp hb with hb | hb
    · rcases List.mem_append.mp hb with hb | hb
      · exact .inl (inpre b hb)
      · rcases List.mem_cons.mp hb with rfl | hb
        · exact .inl hai
        · exact (hf' b hb).imp (fun z => hfi b (List.mem_cons_of_mem _ z)) id
    · exact .inl (inpost b hb)
theorem app_at {S S1 : Addr → Prop} {fps : Nat → List Addr} {lk : List Nat} {ρ ρ' : Ev} {σ : L2.St} {H H1 : Hp} {i : Nat} {u v y : V} {p : List Nat} {r : D × List Nat} {fp : List Addr} (ok : Ok K S fps ρ σ H) (g : Grow S H S1 H1) (hσ : σ[i]? = some (some u)) (at1 : AtP H1 u p v)
    (rv : Rep K H1 (Reg S1 fps r.2) y r.1 fp) (nv : fp.Nodup) (zv : ∀ b ∈ fp, H b = none ∧ ¬ S1 b) (h : appAt i p r lk ρ = .nx ρ') :
    ∃ a vs, v = .ref a ∧ H1 a = some (.lst vs) ∧ vs.length < sizeLine ∧ ∃ S' fps', Ok K S' fps' ρ' σ (upd H1 a (.lst (vs ++ [y]))) ∧ Step S fps lk H S' fps' (upd H1 a (.lst (vs ++ [y]))) := by
  unfold appAt at h
  split at h
  · rename_i s e
    split at h
    · rename_i xs eg
      split at h
      · cases h
      · rename_i hc
        cases h
        simp only [Bool.or_eq_true, not_or, decide_eq_true_eq, List.contains_eq_mem, List.mem_append, decide_eq_true_eq] at hc
        obtain ⟨⟨hlk, hd1, hd2⟩, hsz⟩ := hc
        obtain ⟨a, vs, f, rfl, hw, ha, l, n, hfi, put⟩ := upd_at (lk := lk) ok g e hσ eg at1 rfl hd1 hlk
        have old : ∀ b, b ∈ fps i → b ∉ fp := fun b hb z => by
          obtain ⟨_, _, _, w⟩ := ok.own i b hb
          rw [(zv b z).1] at w; cases w
        obtain ⟨S', fps', ok2, st2⟩ := put (q := r.2) (t' := .lst) (vs' := vs ++ [y]) (xs' := xs ++ [r.1]) (f' := f ++ fp) hd2 rfl trivial ((l.same (Reg.mono (fun _ z => z) fun _ => List.mem_append_left _) (Same.refl _)).append (RepL.one (rv.same (Reg.mono (fun _ z => z) fun _ => List.mem_append_right _) (Same.refl _))))
          (ap_nodup (List.nodup_cons.mp n).2 nv fun b h1 h2 => old b (hfi b (List.mem_cons_of_mem _ h1)) h2) (fun z => (List.mem_append.mp z).elim (List.nodup_cons.mp n).1 (old a (hfi a List.mem_cons_self))) fun b hb => (List.mem_append.mp hb).imp id (zv b)
        exact ⟨a, vs, rfl, ha, by rw [l.length]; omega, S', fps', ok2, st2⟩
    · cases h
  · cases h
theorem appAt_out {i : Nat} {p : List Nat} {r : D × List Nat} {lk : List Nat} {ρ : Ev} : (∃ ρ', appAt i p r lk ρ = .nx ρ') ∨ appAt i p r lk ρ = .stuck := by
  unfold appAt
  split
  · split
    · split
      · exact .inr rfl
      · exact .inl ⟨_, rfl⟩
    · exact .inr rfl
  · exact .inr rfl
theorem lst_at {S1 : Addr → Prop} {fps : Nat → List Addr} {ρ : Ev} {σ : L2.St} {H1 : Hp} {i : Nat} {u v : V} {p : List Nat} (ok1 : Ok K S1 fps ρ σ H1) (hσ : σ[i]? = some (some u)) (at1 : AtP H1 u p v) (h : lstAt i p ρ = true) : ∃ a vs, v = .ref a ∧ H1 a = some (.lst vs) := by
  unfold lstAt at h
  split at h
  · rename_i s e
    split at h
    · rename_i xs eg
      obtain ⟨u', hu', r⟩ := ok1.rep i s e
      rw [hσ] at hu'; cases hu'
      obtain ⟨f, rv, _⟩ := r.getAt eg at1
      cases rv with
      | own h1 h2 h3 l => exact ⟨_, _, rfl, h3⟩
    · cases h
  · cases h
theorem appF_sem {W : WX} {i : Nat} {f : Ev → Res (D × List Nat)} {t : TE} {S S1 : Addr → Prop} {fps : Nat → List Addr} {lk : List Nat} {ρ : Ev} {σ : L2.St} {H H1 : Hp} {E : Ends} {u v : V} {path : List Nat} (ok : Ok K S fps ρ σ H) (g : Grow S H S1 H1) (hu : σ[i]? = some (some u)) (at1 : AtP H1 u path v)
    (q : ∀ S fps ρ σ H Q, Ok K S fps ρ σ H → EPost K mg W S fps σ H (f ρ) Q → t σ H Q) (h : SPost K mg W S fps lk H E (appF i f path lk ρ)) : tyV K "list" v H1 ∧ tCons t tNil σ H1 fun xs H2 => rAppend v xs H2 fun _ H3 => E.nx σ H3 := by
  have ok1 := ok.grow g
  unfold appF at h
  split at h
  · rename_i hl
    obtain ⟨a, vs, rfl, ha⟩ := lst_at ok1 hu at1 hl
    refine ⟨.inl ⟨rfl, vs, .inl (.inl ha)⟩, q S1 fps ρ σ H1 _ ok1 ?_⟩
    cases e1 : f ρ with
    | stuck => rw [e1] at h; exact h.elim
    | rs c => rw [e1] at h; exact EPost.rs (rs_grow ok h) g.same
    | ok r =>
      rw [e1] at h
      dsimp only at h
      intro y fp S2 H2 g2 rv nv zv
      have gg := g.trans g2
      rcases appAt_out (i := i) (p := path) (r := r) (lk := lk) (ρ := ρ) with ⟨ρ', e2⟩ | e2
      · rw [e2] at h
        obtain ⟨a', vs', ea, ha', hz, S', fps', ok3, st3⟩ := app_at (lk := lk) ok gg hu (at1.same g2.same) rv nv (fun b hb => ⟨g.same.free (zv b hb).1, (zv b hb).2⟩) e2
        cases ea
        exact ⟨a, vs', y, rfl, rfl, ha', hz, h S' fps' σ _ st3 ok3⟩
      · rw [e2] at h; exact h.elim
  · exact h.elim
theorem vs_appendP {i : Nat} {o : Expr} {apos cpos : Pos} {e : Expr} {pf : Ev → Res (List Nat)} {f : Ev → Res (D × List Nat)} (hF : Fam P w K mg base N k X) (ho : VP K mg X o i pf) (he : VE K mg X e f)
    (hbase : ∀ i, attributeBase o "append" (X i).env (eval o (X i).env) = eval o (X i).env := by intro _; rfl)
    (hfew : ∀ i, ((backTo cpos (starEach [e] (X i).env)).all (fun x => !x.1) && (backToKw cpos (keywordEach [] (X i).env)).all (fun x => x.1.isSome) && decide ([e].length + ([] : List Keyword).length + (if ([] : List Keyword).isEmpty then 0 else 1) < 30)) = true := by intro _; rfl)
    (hline : (apos.endLine == cpos.line) = true := by rfl) (hs : ∀ i, starEach [e] (X i).env = (false, eval e (X i).env) :: starEach [] (X i).env := by intro _; rfl) (hpl : ∀ i, (backTo cpos (starEach [] (X i).env)).any (·.1) = false := by intro _; rfl)
    (hsw : ∀ i, swapsWith (.Call (.Attribute o "append" apos) [e] [] cpos) none pos.line (X i).env = pure false := by intro _; rfl) :
    VS K mg X (.Expr (.Call (.Attribute o "append" apos) [e] [] cpos) pos) (sAppP i pf f) := by
  intro W tk
  obtain ⟨to, po, qo⟩ := ho W tk
  obtain ⟨t, p, q⟩ := he W tk
  refine ⟨tDrop (tBM K "list" rAppend to (tCons t tNil)), fun i' => ?_, fun lk S fps ρ σ H E ok h => ?_⟩
  · have q1 := pe_bm (cpos := cpos) (apos := apos) PySem.F.plainAttrs_list PySem.F.slot_list_append PySem.F.type_list_append mt_append (po i') (pa_cons (p i') pa_nil (hs i')) (hbase i') (hfew i') hline (hs i') (hpl i')
    rw [hF.kk i'] at q1
    exact ps_expr q1 (hsw i')
  · unfold sAppP at h
    refine qo S fps ρ σ H _ ok ?_
    cases e0 : pf ρ with
    | stuck => rw [e0] at h; exact h.elim
    | rs c => rw [e0] at h; exact rs_grow ok h
    | ok path =>
      rw [e0] at h
      intro v u S1 H1 g hu at1
      exact appF_sem ok g hu at1 q h
theorem sub_at {S S1 : Addr → Prop} {fps : Nat → List Addr} {lk : List Nat} {ρ ρ' : Ev} {σ : L2.St} {H H1 : Hp} {i : Nat} {u v x y : V} {p : List Nat} {kd : D} {r : D × List Nat} {fv fy : List Addr} {R2 : Addr → Prop} {Q : Hp → Prop} (ok : Ok K S fps ρ σ H) (g : Grow S H S1 H1) (hσ : σ[i]? = some (some u)) (at1 : AtP H1 u p v)
    (ry : Rep K H1 R2 y kd fy) (rv : Rep K H1 (Reg S1 fps r.2) x r.1 fv) (nv : fv.Nodup) (zv : ∀ b ∈ fv, H b = none ∧ ¬ S1 b) (h : subAt i p kd r lk ρ = .nx ρ')
    (hq : ∀ S' fps' H', Ok K S' fps' ρ' σ H' → Step S fps lk H S' fps' H' → Q H') : rSetAll v y x H1 Q := by
  unfold subAt at h
  split at h
  · rename_i s e
    split at h
    · rename_i t xs eg
      split at h
      · rename_i t' xs' es
        split at h
        · cases h
        · rename_i hc
          cases h
          simp only [Bool.or_eq_true, not_or, List.contains_eq_mem, List.mem_append, decide_eq_true_eq, Bool.not_eq_true] at hc
          obtain ⟨⟨hlk, hd1, hd2⟩, ht⟩ := hc
          obtain ⟨a, vs, f, rfl, hw, ha, l, n, hfi, put⟩ := upd_at (lk := lk) ok g e hσ eg at1 ht hd1 hlk
          have old : ∀ b, b ∈ fps i → b ∉ fv := fun b hb z => by
            obtain ⟨_, _, _, w⟩ := ok.own i b hb
            rw [(zv b z).1] at w; cases w
          obtain ⟨vs', f', l', n', m', ht', hwf, pt⟩ := store_rep ha hw (l.same (Reg.mono (fun _ z => z) fun _ => List.mem_append_left _) (Same.refl _)) ry (rv.same (Reg.mono (fun _ z => z) fun _ => List.mem_append_right _) (Same.refl _))
            (ap_nodup (List.nodup_cons.mp n).2 nv fun b h1 h2 => old b (hfi b (List.mem_cons_of_mem _ h1)) h2) es
          obtain ⟨S', fps', ok2, st2⟩ := put (q := r.2) hd2 ht' hwf l' n' (fun z => (List.mem_append.mp (m' a z)).elim (List.nodup_cons.mp n).1 (old a (hfi a List.mem_cons_self))) fun b hb => (List.mem_append.mp (m' b hb)).imp id (zv b)
          exact pt _ (hq S' fps' _ ok2 st2)
      · cases h
    · cases h
  · cases h
theorem subAt_out {i : Nat} {p : List Nat} {kd : D} {r : D × List Nat} {lk : List Nat} {ρ : Ev} : (∃ ρ', subAt i p kd r lk ρ = .nx ρ') ∨ subAt i p kd r lk ρ = .stuck := by
  unfold subAt
  split
  · split
    · split
      · split
        · exact .inr rfl
        · exact .inl ⟨_, rfl⟩
      · exact .inr rfl
    · exact .inr rfl
  · exact .inr rfl
theorem vs_subP {i : Nat} {o : Expr} {spos : Pos} {ek e : Expr} {pf : Ev → Res (List Nat)} {fk fe : Ev → Res (D × List Nat)} (hF : Fam P w K mg base N k X) (ho : VP K mg X o i pf) (hk : VE K mg X ek fk) (he : VE K mg X e fe)
    (ha : ∀ i v, assign (.Subscript o ek spos) (X i).env v = (do
      let ov ← holding [v] (eval o (X i).env)
      let iv ← holding [v, ov] (eval ek (X i).env)
      standAt spos
      holding [v, ov, iv] (setItem ov iv v)
      release [v, ov, iv] []) := by intro _ _; rfl)
    (hs : ∀ i, swapsWithSole [.Subscript o ek spos] e pos.line (X i).env = pure false := by intro _; rfl) (hw : ∀ i, swappedStores [.Subscript o ek spos] e (X i).env = pure none := by intro _; rfl)
    (h1 : ∀ i, (assignEach [.Subscript o ek spos] (X i).env).map (·.2) = [assign (.Subscript o ek spos) (X i).env] := by intro _; rfl) :
    VS K mg X (.Assign [.Subscript o ek spos] e pos) (sSubP i pf fk fe) := by
  intro W tk
  obtain ⟨te, pe, qe⟩ := he W tk
  obtain ⟨to, po, qo⟩ := ho W tk
  obtain ⟨tk', pk, qk⟩ := hk W tk
  refine ⟨tAsg te (L2.gSub to tk' rSetAll), fun i' => ps_asg (pe i') (pg_sub (po i') (pk i') (set_all (by have := (hF.room i').un; omega)) (ha i')) (hs i') (hw i') (h1 i'), fun lk S fps ρ σ H E ok h => ?_⟩
  unfold sSubP at h
  refine qe S fps ρ σ H _ ok ?_
  cases e1 : fe ρ with
  | stuck => rw [e1] at h; exact h.elim
  | rs c => rw [e1] at h; exact rs_grow ok h
  | ok r =>
    rw [e1] at h
    intro v fv S1 H1 g1 rv nv zv
    dsimp only at h
    have ok1 := ok.grow g1
    refine qo S1 fps ρ σ H1 _ ok1 ?_
    cases e0 : pf ρ with
    | stuck => rw [e0] at h; exact h.elim
    | rs c => rw [e0] at h; exact EPost.rs (rs_grow ok h) g1.same
    | ok path =>
      rw [e0] at h
      intro vo u S2 H2 g2 hu at1
      dsimp only at h
      have g12 := g1.trans g2
      have ok2 := ok.grow g12
      refine qk S2 fps ρ σ H2 _ ok2 ?_
      cases e2 : fk ρ with
      | stuck => rw [e2] at h; exact h.elim
      | rs c => rw [e2] at h; exact EPost.rs (rs_grow ok h) g12.same
      | ok kk =>
        rw [e2] at h
        dsimp only at h
        intro y fy S3 H3 g3 ry ny zy
        have g23 := g2.trans g3
        have gg := g12.trans g3
        have nS : ∀ b ∈ fv, ¬ S3 b := fun b z hs => by
          rcases g23.new b hs with w | ⟨w, _⟩
          · exact (zv b z).2 w
          · obtain ⟨_, _, _, e⟩ := rv.there b z
            rw [w] at e; cases e
        rcases subAt_out (i := i) (p := path) (kd := kk.1) (r := r) (lk := lk) (ρ := ρ) with ⟨ρ', e3⟩ | e3
        · rw [e3] at h
          exact sub_at (lk := lk) ok gg hu (at1.same g3.same) ry (rv.same (Reg.mono g23.sub fun _ z => z) g23.same) nv (fun b hb => ⟨(zv b hb).1, nS b hb⟩) e3 fun S' fps' H' ok3 st3 => h S' fps' σ _ st3 ok3
        · rw [e3] at h; exact h.elim
/-! a name for what lies at a path, changed through it -/
def VSA (K : PySem.W.Frag) (mg : Str → Option Value) {ι : Type} (X : ι → Cx) (i j : Nat) (st : Stmt) (F : List Nat → List Nat → Ev → Out) : Prop :=
  ∀ W, (∀ i, Takes (X i) W) → ∃ t, (∀ i', PS (X i') st t) ∧ ∀ p lk S fps ρ σ H E u v, Ok K S fps ρ σ H → σ[i]? = some (some u) → σ[j]? = some (some v) → AtP H u p v → SPost K mg W S fps lk H E (F p lk ρ) → t E σ H
def VSAs (K : PySem.W.Frag) (mg : Str → Option Value) {ι : Type} (X : ι → Cx) (i j : Nat) (st : List Stmt) (F : List Nat → List Nat → Ev → Out) : Prop :=
  ∀ W, (∀ i, Takes (X i) W) → ∃ t, (∀ i', PSs (X i') st t) ∧ ∀ p lk S fps ρ σ H E u v, Ok K S fps ρ σ H → σ[i]? = some (some u) → σ[j]? = some (some v) → AtP H u p v → SPost K mg W S fps lk H E (F p lk ρ) → t E σ H
def aNil' : List Nat → List Nat → Ev → Out := fun _ _ ρ => .nx ρ
theorem vsas_nil {i j : Nat} : VSAs K mg X i j [] aNil' := fun W tk => ⟨_, fun _ => pss_nil, fun p lk S fps ρ σ H E u v ok _ _ _ h => h S fps σ H Step.refl ok⟩
theorem vsas_one {i j : Nat} {st : Stmt} {F : List Nat → List Nat → Ev → Out} (h : VSA K mg X i j st F) : VSAs K mg X i j [st] F := fun W tk => let ⟨t, p, q⟩ := h W tk; ⟨t, fun i => pss_one (p i), q⟩
def aIf (c : Ev → Res Bool) (F G : List Nat → List Nat → Ev → Out) : List Nat → List Nat → Ev → Out := fun p lk ρ => match c ρ with
  | .ok b => if b = true then F p lk ρ else G p lk ρ
  | .rs c => .rs c ρ
  | .stuck => .stuck
theorem vsa_if {i j : Nat} {c : Expr} {a b : List Stmt} {f : Ev → Res Bool} {F G : List Nat → List Nat → Ev → Out} (hc : VT K mg X c f) (ha : VSAs K mg X i j a F) (hb : VSAs K mg X i j b G) : VSA K mg X i j (.If c a b pos) (aIf f F G) := by
  intro W tk
  obtain ⟨tc, pc, qc⟩ := hc W tk
  obtain ⟨ta, pa, qa⟩ := ha W tk
  obtain ⟨tb, pb, qb⟩ := hb W tk
  refine ⟨_, fun i => ps_if (pc i) (pa i) (pb i), fun p lk S fps ρ σ H E u v ok hu hv at1 h => ?_⟩
  unfold aIf at h
  refine qc S fps ρ σ H _ ok ?_
  cases e : f ρ with
  | stuck => rw [e] at h; exact h
  | rs c => rw [e] at h; exact rs_grow ok h
  | ok b =>
    rw [e] at h
    intro S1 H1 g
    cases b with
    | true => exact qa p lk S1 fps ρ σ H1 E u v (ok.grow g) hu hv (at1.same g.same) (SPost.step h (g.step ok) (ok.grow g))
    | false => exact qb p lk S1 fps ρ σ H1 E u v (ok.grow g) hu hv (at1.same g.same) (SPost.step h (g.step ok) (ok.grow g))
theorem vsa_append {i j : Nat} {x : Str} {xp apos cpos : Pos} {e : Expr} {f : Ev → Res (D × List Nat)} (hF : Fam P w K mg base N k X) (he : VE K mg X e f)
    (hN : ∀ i', (X i').N[j]? = some x := by intro _; rfl) (hv : ∀ i, Vis (X i).env.scope x := by intro _; first | exact Or.inl rfl | exact Or.inr (Or.inl rfl) | exact Or.inr (Or.inr rfl)) (hd : (x == ("__debug__" : Str)) = false := by decide) (hcd : (x == ("__classdict__" : Str)) = false := by decide)
    (hbase : ∀ i, attributeBase (.Name x xp) "append" (X i).env (eval (.Name x xp) (X i).env) = eval (.Name x xp) (X i).env := by intro _; rfl)
    (hfew : ∀ i, ((backTo cpos (starEach [e] (X i).env)).all (fun x => !x.1) && (backToKw cpos (keywordEach [] (X i).env)).all (fun x => x.1.isSome) && decide ([e].length + ([] : List Keyword).length + (if ([] : List Keyword).isEmpty then 0 else 1) < 30)) = true := by intro _; rfl)
    (hline : (apos.endLine == cpos.line) = true := by rfl) (hs : ∀ i, starEach [e] (X i).env = (false, eval e (X i).env) :: starEach [] (X i).env := by intro _; rfl) (hpl : ∀ i, (backTo cpos (starEach [] (X i).env)).any (·.1) = false := by intro _; rfl)
    (hsw : ∀ i, swapsWith (.Call (.Attribute (.Name x xp) "append" apos) [e] [] cpos) none pos.line (X i).env = pure false := by intro _; rfl) :
    VSA K mg X i j (.Expr (.Call (.Attribute (.Name x xp) "append" apos) [e] [] cpos) pos) (appF i f) := by
  intro W tk
  obtain ⟨t, p, q⟩ := he W tk
  refine ⟨tDrop (tBM K "list" rAppend (tVar j) (tCons t tNil)), fun i' => ?_, fun path lk S fps ρ σ H E u v ok hu hvv at1 h => ?_⟩
  · have q1 := pe_bm (cpos := cpos) (apos := apos) PySem.F.plainAttrs_list PySem.F.slot_list_append PySem.F.type_list_append mt_append (pe_var (pos := xp) (hN i') (hv i') hd hcd) (pa_cons (p i') pa_nil (hs i')) (hbase i') (hfew i') hline (hs i') (hpl i')
    rw [hF.kk i'] at q1
    exact ps_expr q1 (hsw i')
  · exact ⟨v, hvv, appF_sem ok Grow.refl hu at1 q h⟩
def sAlias (i j : Nat) (pf : Ev → Res (List Nat)) (F : List Nat → List Nat → Ev → Out) : List Nat → Ev → Out := fun lk ρ => match pf ρ with
  | .ok p => match ρ[i]? with
    | some (some s) => match getP p s.d with
      | some d => if j < ρ.length then F p lk (asg j (mk (frz d) (i :: s.dp)) ρ) else .stuck
      | none => .stuck
    | _ => .stuck
  | .rs c => .rs c ρ
  | .stuck => .stuck
theorem vss_alias {i j : Nat} {x : Str} {e : Expr} {rest : List Stmt} {pf : Ev → Res (List Nat)} {F : List Nat → List Nat → Ev → Out} {pos' : Pos} (hF : Fam P w K mg base N k X) (he : VP K mg X e i pf) (hr : VSAs K mg X i j rest F) (hij : i ≠ j) (hi : ∀ i', (X i').N[j]? = some x := by intro _; rfl) (hx : ∀ i, Loc (X i).env.scope x := by intro _; first | exact .inl rfl | exact .inr rfl)
    (hs : ∀ i, swapsWith e (some (.Name x pos')) pos.line (X i).env = pure false := by intro _; rfl) (hf : ∀ i, (X i).fn x = true ∨ (X i).env.scope.names.lookup x = some .local := by intro _; first | exact .inl rfl | exact .inr rfl) :
    VSs K mg X (.Assign [.Name x pos'] e pos :: rest) (sAlias i j pf F) := by
  intro W tk
  obtain ⟨t, p, q⟩ := he W tk
  obtain ⟨tr, pr, qr⟩ := hr W tk
  refine ⟨_, fun i' => pss_cons (ps_set (by rw [hF.nn i']; exact hF.nd) (hi i') (hx i') (p i') (hs i') (hf i')) (pr i'), fun lk S fps ρ σ H E ok h => ?_⟩
  unfold sAlias at h
  refine q S fps ρ σ H _ ok ?_
  cases e1 : pf ρ with
  | stuck => rw [e1] at h; exact h
  | rs c => rw [e1] at h; exact rs_grow ok h
  | ok path =>
    rw [e1] at h
    intro v u S1 H1 g hu at1
    revert h
    dsimp only
    split
    · rename_i s e2
      split
      · rename_i d e3
        split
        case isFalse => intro h; exact h.elim
        rename_i hlen
        intro h
        have ok1 := ok.grow g
        obtain ⟨u', hu', r⟩ := ok1.rep i s e2
        rw [hu] at hu'; cases hu'
        obtain ⟨f, rv, sf⟩ := r.getAt e3 at1
        have rf : Rep K H1 (Reg S1 fps (i :: s.dp)) v (frz d) [] := rv.frz (Reg.mono (fun _ z => z) fun _ z => List.mem_cons_of_mem _ z) fun a ha => .inr ⟨i, List.mem_cons_self, sf a ha⟩
        obtain ⟨ok2, st2⟩ := asg_ok (i := j) (lk := lk) ok g rf.mkd List.nodup_nil fun a z => by cases z
        have hlt : j < σ.length := by rw [ok.len]; exact hlen
        refine qr path lk _ _ _ _ _ _ u v ok2 (by rw [List.getElem?_set_ne (Ne.symm hij)]; exact hu) (by rw [List.getElem?_set_self hlt]) at1 (SPost.step h st2 ok2)
      · intro h; exact h.elim
    · intro h; exact h.elim
end
end Py

set_option Elab.async false
set_option linter.all false
set_option maxRecDepth 100000
/-! plain reckoning: paths, comprehensions of anything, loops that ask, equality of data -/
namespace Py
open PySem L2
section
variable {f : Ev → Res (D × List Nat)} {pf : Ev → Res (List Nat)} {fk : Ev → Res (D × List Nat)} {ρ : Ev} {lk p : List Nat} {i j k : Nat} {d e : D} {r : D × List Nat} {c : Ev → Res Bool} {F G : List Nat → List Nat → Ev → Out} {fa : Ev → Res (List D × List Nat)}
@[simp] theorem at_kept {ρ0 : Ev} {r : Nat} : kept ρ0 r = match ρ0[r]? with
  | some (some _) => true
  | _ => false := Eq.trans rfl rfl
@[simp] theorem at_pNm : pNm i ρ = match ρ[i]? with | some (some _) => .ok [] | _ => .stuck := Eq.trans rfl rfl
@[simp] theorem at_pIx : pIx i pf fk ρ = (pf ρ).bind fun p => (fk ρ).bind fun k => match ρ[i]? with
  | some (some s) => match getP p s.d with
    | some (.node true .lst xs) => match k.1 with
      | .int z => match ixN xs.length z with
        | some j => .ok (p ++ [j])
        | none => .stuck
      | _ => .stuck
    | some (.node _ .tup xs) => match k.1 with
      | .int z => match ixN xs.length z with
        | some j => .ok (p ++ [j])
        | none => .stuck
      | _ => .stuck
    | _ => .stuck
  | _ => .stuck := Eq.trans rfl rfl
@[simp] theorem getP_0 : getP [] d = some d := Eq.trans rfl rfl
@[simp] theorem getP_lst {xs : List D} {ks : List Nat} : getP (k :: ks) (.node true .lst xs) = (xs[k]?).bind (getP ks) := Eq.trans rfl rfl
@[simp] theorem getP_tup {o : Bool} {xs : List D} {ks : List Nat} : getP (k :: ks) (.node o .tup xs) = (xs[k]?).bind (getP ks) := by cases o <;> exact Eq.trans rfl rfl
@[simp] theorem setP_0 : setP [] e d = e := Eq.trans rfl rfl
@[simp] theorem setP_c {o : Bool} {t : Tg} {xs : List D} {ks : List Nat} : setP (k :: ks) e (.node o t xs) = match xs[k]? with | some x => .node o t (xs.set k (setP ks e x)) | none => .node o t xs := Eq.trans rfl rfl
@[simp] theorem at_lstAt : lstAt i p ρ = match ρ[i]? with
  | some (some s) => match getP p s.d with
    | some (.node true .lst _) => true
    | _ => false
  | _ => false := Eq.trans rfl rfl
@[simp] theorem at_appAt : appAt i p r lk ρ = match ρ[i]? with
  | some (some s) => match getP p s.d with
    | some (.node true .lst xs) => if (lk.contains i || (s.dp ++ r.2).contains i || decide (sizeLine ≤ xs.length)) = true then .stuck else .nx (putE i (setP p (.node true .lst (xs ++ [r.1])) s.d, s.dp ++ r.2) ρ)
    | _ => .stuck
  | _ => .stuck := Eq.trans rfl rfl
@[simp] theorem at_appF : appF i f p lk ρ = if lstAt i p ρ = true then match f ρ with
    | .ok r => appAt i p r lk ρ
    | .rs c => .rs c ρ
    | .stuck => .stuck
  else .stuck := Eq.trans rfl rfl
@[simp] theorem at_sAppP : sAppP i pf f lk ρ = match pf ρ with
  | .ok p => appF i f p lk ρ
  | .rs c => .rs c ρ
  | .stuck => .stuck := Eq.trans rfl rfl
@[simp] theorem at_subAt : subAt i p d r lk ρ = match ρ[i]? with
  | some (some s) => match getP p s.d with
    | some (.node true t xs) => match dstore t xs d r.1 with
      | some (t', xs') => if (lk.contains i || (s.dp ++ r.2).contains i || t.isT) = true then .stuck else .nx (putE i (setP p (.node true t' xs') s.d, s.dp ++ r.2) ρ)
      | none => .stuck
    | _ => .stuck
  | _ => .stuck := Eq.trans rfl rfl
@[simp] theorem at_sSubP {fe : Ev → Res (D × List Nat)} : sSubP i pf fk fe lk ρ = match fe ρ with
  | .ok r => match pf ρ with
    | .ok p => match fk ρ with
      | .ok kk => subAt i p kk.1 r lk ρ
      | .rs c => .rs c ρ
      | .stuck => .stuck
    | .rs c => .rs c ρ
    | .stuck => .stuck
  | .rs c => .rs c ρ
  | .stuck => .stuck := Eq.trans rfl rfl
@[simp] theorem at_aNil' : aNil' p lk ρ = .nx ρ := Eq.trans rfl rfl
@[simp] theorem at_aIf : aIf c F G p lk ρ = match c ρ with
  | .ok b => if b = true then F p lk ρ else G p lk ρ
  | .rs c => .rs c ρ
  | .stuck => .stuck := Eq.trans rfl rfl
@[simp] theorem at_sAlias : sAlias i j pf F lk ρ = match pf ρ with
  | .ok p => match ρ[i]? with
    | some (some s) => match getP p s.d with
      | some d => if j < ρ.length then F p lk (asg j (mk (frz d) (i :: s.dp)) ρ) else .stuck
      | none => .stuck
    | _ => .stuck
  | .rs c => .rs c ρ
  | .stuck => .stuck := Eq.trans rfl rfl
@[simp] theorem at_iEn : iEn f ρ = (f ρ).bind fun a => match a.1 with
  | .node _ .lst xs => .ok (enumD 0 (xs.map frz), a.2)
  | _ => .stuck := Eq.trans rfl rfl
@[simp] theorem at_iZp : iZp fa ρ = (fa ρ).bind fun a => match a.1 with
  | [.node _ .lst xs, .node _ .lst ys] => .ok (zipD (xs.map frz) (ys.map frz), a.2)
  | _ => .stuck := Eq.trans rfl rfl
@[simp] theorem at_gTp {Gs : List D → List Nat → Ev → Option Ev} {o : Bool} {ds : List D} : gTp Gs (.node o .tup ds, p) ρ = Gs ds p ρ := Eq.trans rfl rfl
@[simp] theorem at_gC {T : D × List Nat → Ev → Option Ev} {Gs : List D → List Nat → Ev → Option Ev} {ds : List D} : gC T Gs (d :: ds) p ρ = (T (mk d p) ρ).bind fun ρ' => Gs ds p ρ' := Eq.trans rfl rfl
@[simp] theorem at_gN0 : gN0 [] p ρ = some ρ := Eq.trans rfl rfl
@[simp] theorem at_sAsgG {T : D × List Nat → Ev → Option Ev} : sAsgG T f lk ρ = match f ρ with
  | .ok r => match T (mk (frz r.1) r.2) ρ with
    | some ρ' => .nx ρ'
    | none => .stuck
  | .rs c => .rs c ρ
  | .stuck => .stuck := Eq.trans rfl rfl
@[simp] theorem at_sPar : sPar i j fa lk ρ = match fa ρ with
  | .ok (ds, p) => match ds with
    | [d1, d2] => .nx (asg j (d2, p.filter fun r => r != i) (asg i (d1, p) ρ))
    | _ => .stuck
  | .rs c => .rs c ρ
  | .stuck => .stuck := Eq.trans rfl rfl
end
@[simp] theorem gAny_bools {o : Bool} {bs : List Bool} : gAny [.node o .lst (bs.map D.bl)] = some (.bl (bs.any id)) := by
  show (boolL _).map _ = _
  rw [boolL_map]; rfl
@[simp] theorem gAll_bools {o : Bool} {bs : List Bool} : gAll [.node o .lst (bs.map D.bl)] = some (.bl (bs.all id)) := by
  show (boolL _).map _ = _
  rw [boolL_map]; rfl
@[simp] theorem gRevL_lst {o : Bool} {xs : List D} : gRevL (.node o .lst xs) = some (.node true .lst xs.reverse) := Eq.trans rfl rfl
theorem gAdd_lst {o o' : Bool} {xs ys : List D} (h : xs.length + ys.length ≤ 100000) : gAdd (.node o .lst xs) (.node o' .lst ys) = some (.node true .lst (xs ++ ys)) := by
  show (if xs.length + ys.length ≤ sizeLine then _ else _) = _
  rw [if_pos (by rw [sizeLine_eq]; omega)]
@[simp] theorem gSl_lst {o : Bool} {xs : List D} {lo hi : Option Int} : gSl (.node o .lst xs) lo hi = some (.node true .lst (cutD xs lo hi)) := by cases o <;> exact Eq.trans rfl rfl
@[simp] theorem gSl_tup {xs : List D} {lo hi : Option Int} : gSl (.node false .tup xs) lo hi = some (.node false .tup (cutD xs lo hi)) := Eq.trans rfl rfl
theorem gLstD_of' {xs : List D} (h : xs.length ≤ 100000) : gLstD xs = some (.node true .lst xs) := by unfold gLstD; rw [if_pos (by rw [sizeLine_eq]; omega)]
@[simp] theorem gLstD_1 {a : D} : gLstD [a] = some (.node true .lst [a]) := gLstD_of (by simp)
@[simp] theorem gLstD_2 {a b : D} : gLstD [a, b] = some (.node true .lst [a, b]) := gLstD_of (by simp)
@[simp] theorem gLstD_3 {a b c : D} : gLstD [a, b, c] = some (.node true .lst [a, b, c]) := gLstD_of (by simp)
@[simp] theorem gLstD_4 {a b c d : D} : gLstD [a, b, c, d] = some (.node true .lst [a, b, c, d]) := gLstD_of (by simp)
@[simp] theorem gLstD_5 {a b c d e : D} : gLstD [a, b, c, d, e] = some (.node true .lst [a, b, c, d, e]) := gLstD_of (by simp)
@[simp] theorem gLstD_6 {a b c d e f : D} : gLstD [a, b, c, d, e, f] = some (.node true .lst [a, b, c, d, e, f]) := gLstD_of (by simp)
@[simp] theorem gLstD_7 {a b c d e f g : D} : gLstD [a, b, c, d, e, f, g] = some (.node true .lst [a, b, c, d, e, f, g]) := gLstD_of (by simp)
@[simp] theorem gLstD_8 {a b c d e f g h : D} : gLstD [a, b, c, d, e, f, g, h] = some (.node true .lst [a, b, c, d, e, f, g, h]) := gLstD_of (by simp)
@[simp] theorem gLstD_9 {a b c d e f g h i : D} : gLstD [a, b, c, d, e, f, g, h, i] = some (.node true .lst [a, b, c, d, e, f, g, h, i]) := gLstD_of (by simp)
@[simp] theorem gTupD_0 : gTupD [] = some (.node false .tup []) := gTupD_of (by simp)
@[simp] theorem gTupD_1 {a : D} : gTupD [a] = some (.node false .tup [a]) := gTupD_of (by simp)
@[simp] theorem gTupD_2 {a b : D} : gTupD [a, b] = some (.node false .tup [a, b]) := gTupD_of (by simp)
@[simp] theorem gTupD_3 {a b c : D} : gTupD [a, b, c] = some (.node false .tup [a, b, c]) := gTupD_of (by simp)
/-! lists made of anything -/
@[simp] theorem frzL_map {α : Type} (f : α → D) (xs : List α) : frzL (xs.map f) = xs.map fun x => frz (f x) := by rw [frzL_eq, List.map_map]; rfl
@[simp] theorem frzL_app (xs ys : List D) : frzL (xs ++ ys) = frzL xs ++ frzL ys := by rw [frzL_eq, frzL_eq, frzL_eq, List.map_append]
@[simp] theorem noShrL_app (xs ys : List D) : noShrL (xs ++ ys) = (noShrL xs && noShrL ys) := by rw [noShrL_eq, noShrL_eq, noShrL_eq, List.all_append]
theorem noShrL_map {α : Type} {f : α → D} (h : ∀ x, noShr (f x) = true) (xs : List α) : noShrL (xs.map f) = true := by
  rw [noShrL_eq, List.all_map, List.all_eq_true]; intro x _; exact h x
theorem noShrL_of {xs : List D} (h : ∀ x ∈ xs, noShr x = true) : noShrL xs = true := by
  rw [noShrL_eq, List.all_eq_true]; exact h
/-! ranges -/
def rg (n : Nat) : List Int := (List.range n).map fun k : Nat => (k : Int)
@[simp] theorem rg_len (n : Nat) : (rg n).length = n := by simp [rg]
@[simp] theorem mem_rg {n : Nat} {i : Int} : i ∈ rg n ↔ 0 ≤ i ∧ i < n := by
  unfold rg
  rw [List.mem_map]
  constructor
  · rintro ⟨k, hk, rfl⟩
    have := List.mem_range.mp hk
    omega
  · rintro ⟨h1, h2⟩
    exact ⟨i.toNat, List.mem_range.mpr (by omega), by omega⟩
theorem rngI0 (n : Nat) : rngI 0 n = (rg n).map D.int := by unfold rngI rg; rw [List.map_map]; refine List.map_congr_left fun k _ => ?_; simp
theorem rg_succ (n : Nat) : rg (n + 1) = rg n ++ [(n : Int)] := by unfold rg; rw [List.range_succ, List.map_append]; rfl
theorem rg_get {n k : Nat} (h : k < n) : (rg n)[k]? = some (k : Int) := by unfold rg; rw [List.getElem?_map, List.getElem?_range h]; rfl
/-! loops that ask -/
/-- one turn, run to a return -/
def turnRt (T : D × List Nat → Ev → Option Ev) (B : Ev → Out) (p : List Nat) (x : D) (ρ : Ev) (d : D) : Prop := match T (mk x p) ρ with
  | none => False
  | some ρ1 => B ρ1 = .rt d
theorem for_ret {α : Type} {fi : Ev → Res (List D × List Nat)} {T : D × List Nat → Ev → Option Ev} {F : List Nat → Ev → Out} {lk : List Nat} {ρ : Ev} {o : Out} (hq : oFor fi T F lk ρ = o) (xs : List α) (j : α → D) (p : List Nat) (ret : α → Option D) (hfi : fi ρ = .ok (xs.map j, p))
    (h : ∀ x ∈ xs, (ret x = none → turnOk T (F (p ++ lk)) p ρ (j x) ρ fun ρ' => ρ' = ρ) ∧ ∀ d, ret x = some d → turnRt T (F (p ++ lk)) p (j x) ρ d) : o = match xs.findSome? ret with | some d => .rt d | none => .nx ρ := by
  rw [← hq, oFor_eq, at_sFor', hfi]
  dsimp only
  clear hq hfi
  induction xs with
  | nil => rfl
  | cons x xs ih =>
    have ih := ih fun y hy => h y (List.mem_cons_of_mem _ hy)
    obtain ⟨h1, h2⟩ := h x List.mem_cons_self
    rw [List.map_cons, List.findSome?_cons]
    unfold forL
    cases er : ret x with
    | none =>
      obtain ⟨ρ1, ρ2, e1, e2, e3⟩ := turnOk_ex (h1 er)
      rw [e1]
      dsimp only
      rcases e2 with e2 | e2
      · rw [e2]; dsimp only; rw [e3]; exact ih
      · rw [e2]; dsimp only; rw [e3]; exact ih
    | some d =>
      have h2 := h2 d er
      unfold turnRt at h2
      cases e1 : T (mk (j x) p) ρ with
      | none => rw [e1] at h2; exact h2.elim
      | some ρ1 =>
        rw [e1] at h2
        dsimp only at h2 ⊢
        rw [h2]
theorem for_same {α : Type} {fi : Ev → Res (List D × List Nat)} {T : D × List Nat → Ev → Option Ev} {F : List Nat → Ev → Out} {lk : List Nat} {ρ : Ev} {o : Out} (hq : oFor fi T F lk ρ = o) (xs : List α) (j : α → D) (p : List Nat) (hfi : fi ρ = .ok (xs.map j, p))
    (h : ∀ x ∈ xs, turnOk T (F (p ++ lk)) p ρ (j x) ρ fun ρ' => ρ' = ρ) : o = .nx ρ := by
  have := for_ret hq xs j p (fun _ => none) hfi fun x hx => ⟨fun _ => h x hx, fun d e => by cases e⟩
  rw [this]
  have : xs.findSome? (fun _ => (none : Option D)) = none := by
    rw [List.findSome?_eq_none_iff]; intro _ _; rfl
  rw [this]
/-- one slot changes -/
theorem for_set {α β : Type} {fi : Ev → Res (List D × List Nat)} {T : D × List Nat → Ev → Option Ev} {F : List Nat → Ev → Out} {lk : List Nat} {ρ : Ev} {o : Out} (hq : oFor fi T F lk ρ = o) (i : Nat) (xs : List α) (j : α → D) (p : List Nat) (f : β → Option Slot) (Q : Nat → β → Prop) (b0 : β) (hfi : fi ρ = .ok (xs.map j, p)) (hb0 : ρ.set i (f b0) = ρ) (h0 : Q 0 b0)
    (h : ∀ k x b, xs[k]? = some x → k < xs.length → Q k b → turnOk T (F (p ++ lk)) p ρ (j x) (ρ.set i (f b)) fun ρ' => ∃ b', Q (k + 1) b' ∧ ρ' = ρ.set i (f b')) : ∃ b, Q xs.length b ∧ o = .nx (ρ.set i (f b)) := by
  obtain ⟨ρe, e, b, hb, hρ⟩ := for_at hq (xs.map j) p xs.length (by simp) hfi (fun k ρ' => ∃ b, Q k b ∧ ρ' = ρ.set i (f b)) ⟨b0, h0, hb0.symm⟩ fun k x hx hk ρ' ⟨b, hb, hρ⟩ => by
    rw [List.getElem?_map] at hx
    cases e : xs[k]? with
    | none => rw [e] at hx; cases hx
    | some y =>
      rw [e] at hx
      cases hx
      subst hρ
      exact h k y b e hk hb
  subst hρ
  exact ⟨b, hb, e⟩
/-! comprehensions of anything -/
theorem lcL_D {α : Type} {T : D × List Nat → Ev → Option Ev} {tst : Ev → Res Bool} {el : Ev → Res (D × List Nat)} {p : List Nat} {ρ : Ev} {P : α → Bool} {j g : α → D} : ∀ {xs : List α}, (∀ x ∈ xs, ∃ ρ1, T (mk (j x) p) ρ = some ρ1 ∧ tst ρ1 = .ok (P x) ∧ (P x = true → ∃ q, el ρ1 = .ok (g x, q))) →
    ∃ q, lcL T tst el p ρ (xs.map j) = .ok ((xs.filter P).map g, q)
  | [], _ => ⟨[], rfl⟩
  | x :: xs, hx => by
    obtain ⟨ρ1, h1, h2, h3⟩ := hx x List.mem_cons_self
    obtain ⟨q, ih⟩ := lcL_D (xs := xs) fun y hy => hx y (List.mem_cons_of_mem _ hy)
    rw [List.map_cons]
    unfold lcL
    rw [h1]
    dsimp only
    rw [h2]
    cases hp : P x with
    | true =>
      obtain ⟨q2, h3⟩ := h3 hp
      rw [h3, ih]
      exact ⟨q2 ++ q, by simp [nors, hp]⟩
    | false =>
      rw [ih]
      exact ⟨q, by simp [nors, hp]⟩
theorem eLc_D {α : Type} {vs : List Nat} {f : Ev → Res (List D × List Nat)} {T : D × List Nat → Ev → Option Ev} {tst : Ev → Res Bool} {el : Ev → Res (D × List Nat)} {ρ : Ev} {r : Res (D × List Nat)} (hq : eLc vs f T tst el ρ = r) (xs : List α) (j : α → D) (P : α → Bool) (g : α → D) (p : List Nat) (hf : f ρ = .ok (xs.map j, p)) (hl : xs.length ≤ 100000) (hn : ∀ x, noShr (g x) = true)
    (h : ∀ x ∈ xs, ∃ ρ1, T (mk (j x) p) (wipeE ρ vs) = some ρ1 ∧ tst ρ1 = .ok (P x) ∧ (P x = true → ∃ q, el ρ1 = .ok (g x, q))) : r = .ok (.node true .lst ((xs.filter P).map g), []) := by
  obtain ⟨q, h2⟩ := lcL_D h
  rw [← hq]
  unfold eLc
  rw [hf]
  dsimp only [Res.bind]
  rw [h2]
  dsimp only
  have h3 := List.length_filter_le P xs
  rw [if_pos (by rw [List.length_map, sizeLine_eq]; omega)]
  show Res.ok (mk _ _) = _
  unfold mk
  rw [if_pos (by rw [noShr_node, noShrL_map hn]; rfl)]
/-- .. of all -/
theorem eLc_all {α : Type} {vs : List Nat} {f : Ev → Res (List D × List Nat)} {T : D × List Nat → Ev → Option Ev} {el : Ev → Res (D × List Nat)} {ρ : Ev} {r : Res (D × List Nat)} (hq : eLc vs f T tT el ρ = r) (xs : List α) (j : α → D) (g : α → D) (p : List Nat) (hf : f ρ = .ok (xs.map j, p)) (hl : xs.length ≤ 100000) (hn : ∀ x, noShr (g x) = true)
    (h : ∀ x ∈ xs, ∃ ρ1, T (mk (j x) p) (wipeE ρ vs) = some ρ1 ∧ ∃ q, el ρ1 = .ok (g x, q)) : r = .ok (.node true .lst (xs.map g), []) := by
  have := eLc_D hq xs j (fun _ => true) g p hf hl hn fun x hx => by
    obtain ⟨ρ1, h1, q, h2⟩ := h x hx
    exact ⟨ρ1, h1, rfl, fun _ => ⟨q, h2⟩⟩
  rw [this]
  have : xs.filter (fun _ => true) = xs := by simp
  rw [this]
theorem lc2L_D {α β : Type} {T : D × List Nat → Ev → Option Ev} {tst : Ev → Res Bool} {vs1 : List Nat} {f1 : Ev → Res (List D × List Nat)} {T1 : D × List Nat → Ev → Option Ev} {tst1 : Ev → Res Bool} {el : Ev → Res (D × List Nat)} {p : List Nat} {ρ : Ev} {P : α → Bool} {j : α → D} {ys : α → List β} {j1 : α → β → D} {P1 : α → β → Bool} {g : α → β → D} : ∀ {xs : List α},
    (∀ x ∈ xs, ∃ ρ1, T (mk (j x) p) ρ = some ρ1 ∧ tst ρ1 = .ok (P x) ∧ (P x = true → ∃ p1, f1 ρ1 = .ok ((ys x).map (j1 x), p1) ∧ ∀ y ∈ ys x, ∃ ρ2, T1 (mk (j1 x y) p1) (wipeE ρ1 vs1) = some ρ2 ∧ tst1 ρ2 = .ok (P1 x y) ∧ (P1 x y = true → ∃ q, el ρ2 = .ok (g x y, q)))) →
    ∃ q, lc2L T tst vs1 f1 T1 tst1 el p ρ (xs.map j) = .ok ((xs.filter P).flatMap fun x => ((ys x).filter (P1 x)).map (g x), q)
  | [], _ => ⟨[], rfl⟩
  | x :: xs, hx => by
    obtain ⟨ρ1, h1, h2, h3⟩ := hx x List.mem_cons_self
    obtain ⟨q, ih⟩ := lc2L_D (xs := xs) fun y hy => hx y (List.mem_cons_of_mem _ hy)
    rw [List.map_cons]
    unfold lc2L
    rw [h1]
    dsimp only
    rw [h2]
    cases hp : P x with
    | true =>
      obtain ⟨p1, h4, h5⟩ := h3 hp
      obtain ⟨q2, h6⟩ := lcL_D h5
      rw [h4]
      dsimp only [nors, Res.bind]
      rw [if_pos rfl, h6, ih]
      exact ⟨q2 ++ q, by simp [hp]⟩
    | false =>
      rw [ih]
      exact ⟨q, by simp [nors, hp]⟩
theorem eLc2_D {α β : Type} {vs vs1 : List Nat} {f : Ev → Res (List D × List Nat)} {T : D × List Nat → Ev → Option Ev} {tst : Ev → Res Bool} {f1 : Ev → Res (List D × List Nat)} {T1 : D × List Nat → Ev → Option Ev} {tst1 : Ev → Res Bool} {el : Ev → Res (D × List Nat)} {ρ : Ev} {r : Res (D × List Nat)} (hq : eLc2 vs vs1 f T tst f1 T1 tst1 el ρ = r) (xs : List α) (j : α → D) (P : α → Bool) (ys : α → List β) (j1 : α → β → D) (P1 : α → β → Bool) (g : α → β → D) (p : List Nat) (hf : f ρ = .ok (xs.map j, p)) (hn : ∀ x y, noShr (g x y) = true)
    (hl : ((xs.filter P).flatMap fun x => ((ys x).filter (P1 x)).map (g x)).length ≤ 100000)
    (h : ∀ x ∈ xs, ∃ ρ1, T (mk (j x) p) (wipeE ρ vs) = some ρ1 ∧ tst ρ1 = .ok (P x) ∧ (P x = true → ∃ p1, f1 ρ1 = .ok ((ys x).map (j1 x), p1) ∧ ∀ y ∈ ys x, ∃ ρ2, T1 (mk (j1 x y) p1) (wipeE ρ1 vs1) = some ρ2 ∧ tst1 ρ2 = .ok (P1 x y) ∧ (P1 x y = true → ∃ q, el ρ2 = .ok (g x y, q)))) : r = .ok (.node true .lst ((xs.filter P).flatMap fun x => ((ys x).filter (P1 x)).map (g x)), []) := by
  obtain ⟨q, h2⟩ := lc2L_D h
  rw [← hq]
  unfold eLc2
  rw [hf]
  dsimp only [Res.bind]
  rw [h2]
  dsimp only
  rw [if_pos (by rw [sizeLine_eq]; omega)]
  show Res.ok (mk _ _) = _
  unfold mk
  rw [if_pos]
  rw [noShr_node, noShrL_of]
  · rfl
  · intro d hd
    obtain ⟨x, _, hd⟩ := List.mem_flatMap.mp hd
    obtain ⟨y, _, rfl⟩ := List.mem_map.mp hd
    exact hn x y
/-! equality of data -/
class PyE (α : Type) [DecidableEq α] where
  py : α → PyData
  eqv : ∀ a b, PyData.eqv (py a) (py b) = decide (a = b)
  lay : ∀ a, PyData.canLay0 (py a) = true
  dep : Nat
  hdep : ∀ a, PyData.depth (py a) ≤ dep
theorem eqvAll_map {α : Type} [DecidableEq α] {g : α → PyData} (h : ∀ a b, PyData.eqv (g a) (g b) = decide (a = b)) : ∀ xs ys : List α, PyData.eqvAll (xs.map g) (ys.map g) = decide (xs = ys)
  | [], [] => by simp [PyData.eqvAll]
  | [], y :: ys => by simp [PyData.eqvAll]
  | x :: xs, [] => by simp [PyData.eqvAll]
  | x :: xs, y :: ys => by simp [PyData.eqvAll, h, eqvAll_map h xs ys]
theorem layAll_map {α : Type} {g : α → PyData} (h : ∀ a, PyData.canLay0 (g a) = true) : ∀ xs : List α, PyData.canLayAll0 (xs.map g) = true
  | [] => rfl
  | x :: xs => by rw [List.map_cons, PyData.canLayAll0, h, layAll_map h xs]; rfl
theorem depAll_map {α : Type} {g : α → PyData} {n : Nat} (h : ∀ a, PyData.depth (g a) ≤ n) : ∀ xs : List α, PyData.depthAll (xs.map g) ≤ n
  | [] => by simp [PyData.depthAll]
  | x :: xs => by rw [List.map_cons, PyData.depthAll]; exact Nat.max_le.mpr ⟨h x, depAll_map h xs⟩
instance : PyE Int := ⟨.int, fun a b => by simp [PyData.eqv, Bool.beq_eq_decide_eq], fun _ => rfl, 0, fun _ => by simp [PyData.depth]⟩
instance : PyE (Option Int) := ⟨fun o => match o with | none => .none | some i => .int i, fun a b => by cases a <;> cases b <;> simp [PyData.eqv, Bool.beq_eq_decide_eq], fun a => by cases a <;> rfl, 0, fun a => by cases a <;> simp [PyData.depth]⟩
instance : PyE Bool := ⟨.bool, fun a b => by cases a <;> cases b <;> rfl, fun _ => rfl, 0, fun _ => by simp [PyData.depth]⟩
instance {α β : Type} [DecidableEq α] [DecidableEq β] [PyE α] [PyE β] : PyE (α × β) := ⟨fun a => .tuple [PyE.py a.1, PyE.py a.2], fun a b => by
    obtain ⟨a1, a2⟩ := a
    obtain ⟨b1, b2⟩ := b
    simp [PyData.eqv, PyData.eqvAll, PyE.eqv], fun a => by simp [PyData.canLay0, PyData.canLayAll0, PyE.lay], max (PyE.dep α) (PyE.dep β) + 1, fun a => by
    have h1 := PyE.hdep a.1
    have h2 := PyE.hdep a.2
    simp only [PyData.depth, PyData.depthAll]
    omega⟩
instance {α : Type} [DecidableEq α] [PyE α] : PyE (List α) := ⟨fun xs => .list (xs.map PyE.py), fun a b => by rw [PyData.eqv, eqvAll_map PyE.eqv], fun a => by rw [PyData.canLay0, layAll_map PyE.lay], PyE.dep α + 1, fun a => by
    have := depAll_map (g := PyE.py) (PyE.hdep (α := α)) a
    rw [PyData.depth]
    omega⟩
theorem shaped_py {α : Type} [DecidableEq α] [PyE α] (h : PyE.dep α ≤ 64) (a : α) : SeqAt.shaped (PyE.py a) = true := by
  unfold SeqAt.shaped
  have := PyE.hdep a
  rw [PyE.lay, decide_eq_true (by omega)]
  rfl
theorem gEq_py {α : Type} [DecidableEq α] [PyE α] {d e : D} (a b : α) (h1 : toPy d = some (PyE.py a)) (h2 : toPy e = some (PyE.py b)) (h : PyE.dep α ≤ 64 := by decide) : gEq d e = some (.bl (decide (a = b))) := by
  unfold gEq
  split
  · rename_i x y
    rw [toPy] at h1 h2
    have := PyE.eqv a b
    rw [← Option.some.inj h1, ← Option.some.inj h2] at this
    rw [← this]
    simp [PyData.eqv, Bool.beq_eq_decide_eq]
  · rw [h1, h2]
    simp [sh2, shaped_py h, PyE.eqv]
theorem gNe_py {α : Type} [DecidableEq α] [PyE α] {d e : D} (a b : α) (h1 : toPy d = some (PyE.py a)) (h2 : toPy e = some (PyE.py b)) (h : PyE.dep α ≤ 64 := by decide) : gNe d e = some (.bl (decide (a ≠ b))) := by
  unfold gNe
  split
  · rename_i x y
    rw [toPy] at h1 h2
    have := PyE.eqv a b
    rw [← Option.some.inj h1, ← Option.some.inj h2] at this
    have e9 : decide (x = y) = decide (a = b) := by
      rw [← this]
      simp [PyData.eqv, Bool.beq_eq_decide_eq]
    rw [e9]
    simp
  · rw [h1, h2]
    simp [sh2, shaped_py h, PyE.eqv]
theorem toPyL_map {α : Type} {f : α → D} {g : α → PyData} (h : ∀ a, toPy (f a) = some (g a)) : ∀ xs : List α, toPyL (xs.map f) = some (xs.map g)
  | [] => rfl
  | x :: xs => by rw [List.map_cons, toPyL, h, toPyL_map h xs]; rfl
theorem toPy_lst {α : Type} [DecidableEq α] [PyE α] {f : α → D} (h : ∀ a, toPy (f a) = some (PyE.py a)) (o : Bool) (xs : List α) : toPy (.node o .lst (xs.map f)) = some (PyE.py xs) := by
  rw [toPy, toPyL_map h]; rfl
theorem inB_py {α : Type} [DecidableEq α] [PyE α] {f : α → D} {d : D} (hf : ∀ a, toPy (f a) = some (PyE.py a)) (a : α) (h1 : toPy d = some (PyE.py a)) (o : Bool) (xs : List α) (h : PyE.dep α ≤ 63 := by decide) : inB d (.node o .lst (xs.map f)) = some (decide (a ∈ xs)) := by
  unfold inB
  have h3 : SeqAt.shaped (.list (xs.map PyE.py)) = true := shaped_py (α := List α) (by show PyE.dep α + 1 ≤ 64; omega) xs
  simp only [h1, toPyL_map hf, Option.bind_some, sh2, h3, shaped_py (show PyE.dep α ≤ 64 by omega), Bool.and_self, if_true]
  congr 1
  rw [Bool.eq_iff_iff]
  simp only [List.any_map, List.any_eq_true, Function.comp, PyE.eqv, decide_eq_true_eq]
  constructor
  · rintro ⟨y, hy, rfl⟩; exact hy
  · intro hy; exact ⟨a, hy, rfl⟩
theorem findSome_if {α β : Type} (p : α → Bool) (f : α → β) : ∀ xs : List α, xs.findSome? (fun j => if p j = true then some (f j) else none) = ((xs.filter p).head?).map f
  | [] => rfl
  | x :: xs => by
    rw [List.findSome?_cons]
    cases h : p x with
    | true => simp [h]
    | false => simp [h, findSome_if p f xs]
theorem enumD_map {α : Type} {f : α → D} : ∀ (xs : List α) (i : Nat), enumD i (xs.map f) = (xs.zipIdx i).map fun q => .node false .tup [.int (q.2 : Nat), f q.1]
  | [], _ => rfl
  | x :: xs, i => by rw [List.map_cons, enumD, enumD_map xs (i + 1)]; rfl
theorem zipD_map {α β : Type} {f : α → D} {g : β → D} : ∀ (xs : List α) (ys : List β), zipD (xs.map f) (ys.map g) = (xs.zip ys).map fun q => .node false .tup [f q.1, g q.2]
  | [], _ => by simp [zipD]
  | _ :: _, [] => by simp [zipD]
  | x :: xs, y :: ys => by rw [List.map_cons, List.map_cons, zipD, zipD_map xs ys]; rfl
theorem atI_map {α : Type} {f : α → D} {xs : List α} {i : Int} (z : α) (h0 : 0 ≤ i) (h1 : i < xs.length) : atI (xs.map f) i = some (f (xs.getD i.toNat z)) := by
  obtain ⟨k, rfl⟩ := Int.eq_ofNat_of_zero_le h0
  have hk : k < xs.length := by omega
  have e : (xs.map f)[k]? = some (f (xs.getD k z)) := by
    rw [List.getElem?_map, List.getElem?_eq_getElem hk]
    simp [hk]
  exact atI_nat (j := k) e
theorem rg_map_get {α β : Type} (xs : List α) (z : α) (h : α → β) : (rg xs.length).map (fun k => h (xs.getD k.toNat z)) = xs.map h := by
  unfold rg
  rw [List.map_map]
  refine List.ext_getElem (by simp) fun k h1 h2 => ?_
  have hk : k < xs.length := by simpa using h1
  simp [hk]
/-! _law_same of equal things -/
mutual
inductive Pl : Nat → D → Prop
  | non {n : Nat} : Pl n .non
  | bl {n : Nat} (b : Bool) : Pl n (.bl b)
  | int {n : Nat} (i : Int) : Pl n (.int i)
  | str {n : Nat} (x : Str) : Pl n (.str x)
  | lst {n : Nat} {ds : List D} (h : ds.length ≤ 100000) (hs : PlL n ds) : Pl (n + 1) (.node false .lst ds)
  | tup {n : Nat} {ds : List D} (h : ds.length ≤ 100000) (hs : PlL n ds) : Pl (n + 1) (.node false .tup ds)
inductive PlL : Nat → List D → Prop
  | nil {n : Nat} : PlL n []
  | cons {n : Nat} {d : D} {ds : List D} : Pl n d → PlL n ds → PlL n (d :: ds)
end
theorem PlL.mem {n : Nat} : ∀ {ds : List D}, PlL n ds → ∀ d ∈ ds, Pl n d
  | _, .nil, d, h => by cases h
  | _, .cons a b, d, h => (List.mem_cons.mp h).elim (fun e => e ▸ a) (b.mem d)
theorem PlL.of {n : Nat} : ∀ {ds : List D}, (∀ d ∈ ds, Pl n d) → PlL n ds
  | [], _ => .nil
  | d :: ds, h => .cons (h d List.mem_cons_self) (PlL.of fun e he => h e (List.mem_cons_of_mem _ he))
theorem PlL.map {n : Nat} {α : Type} {f : α → D} (h : ∀ a, Pl n (f a)) (xs : List α) : PlL n (xs.map f) := .of fun d hd => by
  obtain ⟨a, _, rfl⟩ := List.mem_map.mp hd
  exact h a
mutual
theorem Pl.frz : ∀ {n : Nat} {d : D}, Pl n d → Py.frz d = d
  | _, _, .non => rfl
  | _, _, .bl b => rfl
  | _, _, .int i => rfl
  | _, _, .str x => rfl
  | _, _, .lst _ hs => by rw [Py.frz, hs.frz]
  | _, _, .tup _ hs => by rw [Py.frz, hs.frz]
theorem PlL.frz : ∀ {n : Nat} {ds : List D}, PlL n ds → frzL ds = ds
  | _, _, .nil => rfl
  | _, _, .cons a b => by rw [frzL, a.frz, b.frz]
end
@[simp] theorem gEq_str (x y : Str) : gEq (.str x) (.str y) = some (.bl (decide (x = y))) := Eq.trans rfl rfl
@[simp] theorem gNe_str (x y : Str) : gNe (.str x) (.str y) = some (.bl (!decide (x = y))) := Eq.trans rfl rfl
theorem v_same_pl {rec : Nat → List D → Res D} (hr : ∀ n, rec (n + 1) = run (sameF (rec n)) 3) : ∀ {n : Nat} {d : D}, Pl n d → rec (n + 1) [d, d] = .ok (.bl true) := by
  intro n
  induction n with
  | zero =>
    intro d h
    rw [hr]
    cases h with
    | non => exact v_same_nn _
    | bl b => rw [v_same_bl]; simp
    | int i => rw [v_same_int]; simp
    | str x => simp [sameF, run, start]
  | succ n ih =>
    intro d h
    rw [hr]
    cases h with
    | non => exact v_same_nn _
    | bl b => rw [v_same_bl]; simp
    | int i => rw [v_same_int]; simp
    | str x => simp [sameF, run, start]
    | lst h hs =>
      rename_i ds
      have hin : in62 ds.length = true := in62_of (by omega) (by omega)
      have ef := hs.frz
      simp [sameF, run, start, ef]
      generalize hq : oFor _ _ _ _ _ = o
      have := for_same hq (rg ds.length) D.int [] (by simp [hin, rngI0, ef]) fun x hx => by
        rw [mem_rg] at hx
        obtain ⟨k, rfl⟩ := Int.eq_ofNat_of_zero_le hx.1
        have hk : k < ds.length := by omega
        have e1 : atI ds (k : Int) = some ds[k] := atI_at hk
        have e2 := hs.mem ds[k] (List.getElem_mem hk)
        have e3 := ih e2
        have e4 := e2.frz
        generalize ds[k] = d at *
        generalize (k : Int) = kk at *
        simp [e1, e3, e4, ef]
      subst this
      simp
    | tup h hs =>
      rename_i ds
      have hin : in62 ds.length = true := in62_of (by omega) (by omega)
      have ef := hs.frz
      simp [sameF, run, start, ef]
      generalize hq : oFor _ _ _ _ _ = o
      have := for_same hq (rg ds.length) D.int [] (by simp [hin, rngI0, ef]) fun x hx => by
        rw [mem_rg] at hx
        obtain ⟨k, rfl⟩ := Int.eq_ofNat_of_zero_le hx.1
        have hk : k < ds.length := by omega
        have e1 : atI ds (k : Int) = some ds[k] := atI_at hk
        have e2 := hs.mem ds[k] (List.getElem_mem hk)
        have e3 := ih e2
        have e4 := e2.frz
        generalize ds[k] = d at *
        generalize (k : Int) = kk at *
        simp [e1, e3, e4, ef]
      subst this
      simp
/-- a loop that returns d where P does not hold -/
theorem for_all {α : Type} {fi : Ev → Res (List D × List Nat)} {T : D × List Nat → Ev → Option Ev} {F : List Nat → Ev → Out} {lk : List Nat} {ρ : Ev} {o : Out} (hq : oFor fi T F lk ρ = o) (xs : List α) (j : α → D) (p : List Nat) (P : α → Bool) (d : D) (hfi : fi ρ = .ok (xs.map j, p))
    (h : ∀ x ∈ xs, (P x = true → turnOk T (F (p ++ lk)) p ρ (j x) ρ fun ρ' => ρ' = ρ) ∧ (P x = false → turnRt T (F (p ++ lk)) p (j x) ρ d)) : o = if xs.all P = true then .nx ρ else .rt d := by
  have := for_ret hq xs j p (fun x => if (!P x) = true then some d else none) hfi fun x hx => by
    obtain ⟨h1, h2⟩ := h x hx
    cases hp : P x with
    | true => exact ⟨fun _ => h1 hp, fun d h => by simp at h⟩
    | false => exact ⟨fun h => by simp at h, fun d' h => by simp at h; subst h; exact h2 hp⟩
  rw [this, findSome_if (fun x => !P x) (fun _ => d)]
  cases ha : xs.all P with
  | true =>
    have : xs.filter (fun x => !P x) = [] := by
      rw [List.filter_eq_nil_iff]
      rw [List.all_eq_true] at ha
      intro x hx
      simp [ha x hx]
    rw [this]
    rfl
  | false =>
    cases hf : xs.filter (fun x => !P x) with
    | cons x xs => rfl
    | nil =>
      exfalso
      rw [List.filter_eq_nil_iff] at hf
      rw [List.all_eq_false] at ha
      obtain ⟨x, hx, hx2⟩ := ha
      exact hf x hx (by simpa using hx2)
theorem filter_tt {α : Type} (xs : List α) : xs.filter (fun _ => true) = xs := by simp
theorem eLc2_all {α β : Type} {vs vs1 : List Nat} {f : Ev → Res (List D × List Nat)} {T : D × List Nat → Ev → Option Ev} {f1 : Ev → Res (List D × List Nat)} {T1 : D × List Nat → Ev → Option Ev} {el : Ev → Res (D × List Nat)} {ρ : Ev} {r : Res (D × List Nat)} (hq : eLc2 vs vs1 f T tT f1 T1 tT el ρ = r) (xs : List α) (j : α → D) (ys : α → List β) (j1 : α → β → D) (g : α → β → D) (p : List Nat) (hf : f ρ = .ok (xs.map j, p)) (hn : ∀ x y, noShr (g x y) = true)
    (hl : (xs.flatMap fun x => (ys x).map (g x)).length ≤ 100000)
    (h : ∀ x ∈ xs, ∃ ρ1, T (mk (j x) p) (wipeE ρ vs) = some ρ1 ∧ ∃ p1, f1 ρ1 = .ok ((ys x).map (j1 x), p1) ∧ ∀ y ∈ ys x, ∃ ρ2, T1 (mk (j1 x y) p1) (wipeE ρ1 vs1) = some ρ2 ∧ ∃ q, el ρ2 = .ok (g x y, q)) : r = .ok (.node true .lst (xs.flatMap fun x => (ys x).map (g x)), []) := by
  have := eLc2_D hq xs j (fun _ => true) ys j1 (fun _ _ => true) g p hf hn (by simp only [filter_tt]; exact hl) fun x hx => by
    obtain ⟨ρ1, h1, p1, h2, h3⟩ := h x hx
    refine ⟨ρ1, h1, rfl, fun _ => ⟨p1, h2, fun y hy => ?_⟩⟩
    obtain ⟨ρ2, h4, q, h5⟩ := h3 y hy
    exact ⟨ρ2, h4, rfl, fun _ => ⟨q, h5⟩⟩
  rw [this]
  simp only [filter_tt]
theorem flat_len {α β : Type} (f : α → List β) (n : Nat) (xs : List α) (h : ∀ x ∈ xs, (f x).length ≤ n) : (xs.flatMap f).length ≤ xs.length * n := by
  induction xs with
  | nil => simp
  | cons x xs ih =>
    have h1 := h x List.mem_cons_self
    have h2 := ih fun y hy => h y (List.mem_cons_of_mem _ hy)
    rw [List.flatMap_cons, List.length_append, List.length_cons, Nat.succ_mul]
    omega
@[simp] theorem atI_c0 {α : Type} {a : α} {xs : List α} : atI (a :: xs) 0 = some a := atI_nat (j := 0) (xs := a :: xs) rfl
@[simp] theorem atI_c1 {α : Type} {a b : α} {xs : List α} : atI (a :: b :: xs) 1 = some b := atI_nat (j := 1) (xs := a :: b :: xs) rfl
@[simp] theorem atI_c2 {α : Type} {a b c : α} {xs : List α} : atI (a :: b :: c :: xs) 2 = some c := atI_nat (j := 2) (xs := a :: b :: c :: xs) rfl
/-! slices -/
theorem cutD_from {α : Type} {xs : List α} {k : Int} (h : 0 ≤ k) : cutD xs (some k) none = xs.drop k.toNat := by
  obtain ⟨n, rfl⟩ := Int.eq_ofNat_of_zero_le h
  unfold cutD
  rw [HT.sIx_nat, HT.sIx_none, Int.toNat_natCast]
  by_cases hn : n ≤ xs.length
  · rw [Nat.min_eq_left hn, List.take_of_length_le (by simp)]
  · rw [Nat.min_eq_right (by omega), List.drop_of_length_le (by omega : xs.length ≤ n), List.drop_length]
    simp
theorem cutD_to {α : Type} {xs : List α} {k : Int} (h : 0 ≤ k) : cutD xs (some 0) (some k) = xs.take k.toNat := by
  obtain ⟨n, rfl⟩ := Int.eq_ofNat_of_zero_le h
  unfold cutD
  have e : HT.sIx xs.length 0 (some 0) = 0 := by
    have := HT.sIx_nat xs.length 0 0
    simpa using this
  rw [HT.sIx_nat, e, Int.toNat_natCast, List.drop_zero, Nat.sub_zero]
  by_cases hn : n ≤ xs.length
  · rw [Nat.min_eq_left hn]
  · rw [Nat.min_eq_right (by omega), List.take_length, List.take_of_length_le (by omega : xs.length ≤ n)]
theorem cutD_to' {α : Type} {xs : List α} {k : Int} (h : 0 ≤ k) : cutD xs none (some k) = xs.take k.toNat := by
  rw [← cutD_to h]
  unfold cutD
  have e : HT.sIx xs.length 0 (some 0) = 0 := by
    have := HT.sIx_nat xs.length 0 0
    simpa using this
  rw [e, HT.sIx_none]
@[simp] theorem cutD_1 {α : Type} {a : α} {xs : List α} : cutD (a :: xs) (some 1) none = xs := by rw [cutD_from (by decide)]; rfl
theorem cutD_mem {α : Type} {xs : List α} {lo hi : Option Int} {x : α} (h : x ∈ cutD xs lo hi) : x ∈ xs := List.mem_of_mem_drop (List.mem_of_mem_take h)
theorem cutD_le {α : Type} (xs : List α) (lo hi : Option Int) : (cutD xs lo hi).length ≤ xs.length := by
  unfold cutD
  simp
  omega
theorem cutD_map {α β : Type} (f : α → β) (xs : List α) (lo hi : Option Int) : cutD (xs.map f) lo hi = (cutD xs lo hi).map f := by
  unfold cutD
  rw [← List.map_drop, ← List.map_take, List.length_map]
theorem gMul_rep {d : D} {k : Int} (h0 : 0 ≤ k) (h1 : k ≤ 100000) (hf : flat d = true) : gMul (.node true .lst [d]) (.int k) = some (.node true .lst (List.replicate k.toNat d)) := by
  show (if opq (decide (-(2 ^ 63) ≤ k) && (decide (k < 2 ^ 63) && (decide ([d].length * k.toNat ≤ sizeLine) && [d].all flat))) = true then some (D.node true .lst (List.replicate k.toNat [d]).flatten) else none) = _
  rw [opq_eq]
  have hc : (decide (-(2 ^ 63) ≤ k) && (decide (k < 2 ^ 63) && (decide ([d].length * k.toNat ≤ sizeLine) && [d].all flat))) = true := by
    simp only [Bool.and_eq_true, decide_eq_true_eq, List.all_cons, List.all_nil, Bool.and_true]
    refine ⟨by omega, by omega, ?_, hf⟩
    rw [sizeLine_eq]
    simp
    omega
  rw [if_pos hc]
  congr 2
  simp
theorem rgOk_0 {n : Int} (h0 : 0 ≤ n) (h1 : n ≤ 100000) : rgOk 0 n = true := by
  unfold rgOk
  simp only [Bool.and_eq_true, in62_iff, decide_eq_true_eq]
  omega
theorem rgOk_of {m n : Int} (h0 : 0 ≤ n) (h1 : n ≤ 100000) (h2 : 0 ≤ m) (h3 : m ≤ 100000) : rgOk m n = true := by
  unfold rgOk
  simp only [Bool.and_eq_true, in62_iff, decide_eq_true_eq]
  omega
@[simp] theorem noShrL_rev (xs : List D) : noShrL xs.reverse = noShrL xs := by rw [noShrL_eq, noShrL_eq, List.all_reverse]
@[simp] theorem noShrL_rep (n : Nat) {d : D} (h : noShr d = true) : noShrL (List.replicate n d) = true := noShrL_of fun x hx => by rw [(List.mem_replicate.mp hx).2]; exact h
@[simp] theorem noShrL_rng (lo : Int) (n : Nat) : noShrL (rngI lo n) = true := noShrL_of fun x hx => by obtain ⟨i, rfl, _⟩ := mem_rngI hx; rfl
end Py

set_option Elab.async false
set_option linter.all false
set_option maxRecDepth 100000
namespace Py
open PySem L2
/-- if c: x = e, and the rest -/
theorem if_set {c : Ev → Res Bool} {e : Ev → Res (D × List Nat)} {lk : List Nat} {ρ : Ev} {o : Out} (i : Nat) (b : Bool) (w z : D) (hq : sIf c (sSet i e) sNil lk ρ = o) (hc : c ρ = .ok b) (he : b = true → e ρ = .ok (w, [])) (hz : ρ[i]? = some (some ⟨z, []⟩)) (hn : ρ.map (er i) = ρ) : o = .nx (ρ.set i (sl (if b = true then w else z))) := by
  rw [← hq]
  unfold sIf
  rw [hc]
  cases b with
  | true =>
    simp only [if_true]
    unfold sSet
    rw [he rfl]
    show Out.nx (asg i (w, []) ρ) = _
    unfold asg
    rw [hn]
    rfl
  | false =>
    simp only [Bool.false_eq_true, if_false]
    unfold sNil
    congr 1
    refine List.ext_getElem? fun j => ?_
    rw [List.getElem?_set]
    split
    · rename_i hij
      subst hij
      have hl : i < ρ.length := (List.getElem?_eq_some_iff.mp hz).1
      rw [hz, if_pos hl]
      rfl
    · rfl
end Py

set_option Elab.async false
set_option linter.all false
set_option maxRecDepth 100000
/-! repr of lists and tuples, in the law's own def (no guards around it) -/
namespace Py
open PySem PySem.Spec L2 PyProof.Rows
mutual
theorem noDict : ∀ {d : D} {p : PyData}, toPy d = some p → p.hasDict = false
  | .non, _, e => by cases e; rfl
  | .bl _, _, e => by cases e; rfl
  | .int _, _, e => by cases e; rfl
  | .str _, _, e => by cases e; rfl
  | .ty _, _, e => by cases e
  | .node _ .tup xs, p, e => by
    rw [toPy] at e
    cases e1 : toPyL xs with
    | none => rw [e1] at e; cases e
    | some ps =>
      rw [e1] at e
      cases e
      rw [PyData.hasDict]
      exact noDictL e1
  | .node _ .lst xs, p, e => by
    rw [toPy] at e
    cases e1 : toPyL xs with
    | none => rw [e1] at e; cases e
    | some ps =>
      rw [e1] at e
      cases e
      rw [PyData.hasDict]
      exact noDictL e1
  | .node _ (.dK _) _, _, e => by cases e
  | .node _ (.dT _) _, _, e => by cases e
theorem noDictL : ∀ {ds : List D} {ps : List PyData}, toPyL ds = some ps → PyData.hasDictAll ps = false
  | [], ps, e => by cases e; rfl
  | d :: ds, ps, e => by
    rw [toPyL] at e
    cases e1 : toPy d with
    | none => rw [e1] at e; cases e
    | some q =>
      cases e2 : toPyL ds with
      | none => rw [e1, e2] at e; cases e
      | some qs =>
        rw [e1, e2] at e
        cases e
        rw [PyData.hasDictAll, noDict e1, noDictL e2]
        rfl
end
def reprOk (p : PyData) : Bool := p.showable && (decide (p.depth ≤ 64) && decide (p.shown.length ≤ sizeLine))
noncomputable def gRepr : List D → Option D
  | [.node o t xs] => (toPy (.node o t xs)).bind fun p => if opq (reprOk p) = true then some (.str p.shown) else none
  | _ => none
def rRepr (K : PySem.W.Frag) : List V → Hp → VK → Prop := fun xs H Q => ∃ a p, xs = [.ref a] ∧ Dp K H (.ref a) p ∧ p.hasDict = false ∧ reprOk p = true ∧ Q (.str p.shown) H
theorem cr_repr {X : Cx} (hu : X.A.units + 70 < cLine) (hg : X.A.guards = some []) : CallR X (.builtin "repr") (rRepr X.K) := by
  intro pins s σ H vs us Q I r h
  obtain ⟨a, p, rfl, hd, hn, hk, q⟩ := h
  obtain ⟨u, rfl, ru⟩ := r.one
  obtain rfl : u = Value.ref a := ru
  obtain ⟨as, rd⟩ := Dp.reads I p (.ref a) (.ref a) hd rfl
  unfold reprOk at hk
  simp only [Bool.and_eq_true, decide_eq_true_eq] at hk
  obtain ⟨h1, h2, h3⟩ := hk
  exact repr_of_reads' rd h1 (PyData.noDict_hsm hn) hg (by omega) (fun _ _ z => z) (fun h' u tk hh => ⟨.str _, H, I.kept hh, ⟨_, rfl⟩, q⟩) h3
theorem prim_repr {K : PySem.W.Frag} : PrimL K (rRepr K) gRepr := by
  intro H R xs ds f d Q r n e h
  unfold gRepr at e
  split at e
  · rename_i o t ys
    cases e1 : toPy (.node o t ys) with
    | none => rw [e1] at e; cases e
    | some p =>
      rw [e1] at e
      dsimp only [Option.bind] at e
      split at e
      · rename_i hk
        rw [opq_eq] at hk
        cases e
        obtain ⟨v, rfl, r1⟩ := r.r1
        have hd := r1.dp e1
        cases r1 with
        | tup _ _ => exact ⟨_, p, rfl, hd, noDict e1, hk, h _ [] H (Same.refl _) (.str _) List.nodup_nil fun a z => by cases z⟩
        | own _ _ _ _ => exact ⟨_, p, rfl, hd, noDict e1, hk, h _ [] H (Same.refl _) (.str _) List.nodup_nil fun a z => by cases z⟩
        | shr _ _ _ _ _ => exact ⟨_, p, rfl, hd, noDict e1, hk, h _ [] H (Same.refl _) (.str _) List.nodup_nil fun a z => by cases z⟩
        | kst _ _ => exact ⟨_, p, rfl, hd, noDict e1, hk, h _ [] H (Same.refl _) (.str _) List.nodup_nil fun a z => by cases z⟩
      · cases e
  · cases e
theorem bt_repr' : bootBuiltins "repr" = some (.builtin "repr") := by decide +kernel
/-! ### a promise where no guards lie around -/
structure FnG (P : Program) (w : World) (K : PySem.W.Frag) (mg : Str → Option Value) (base : Heap) (C : CXT) (k : Nat) (f : Addr) (fd : FuncData) (ps : List Str) (sp : Sp) : Prop where
  len : ∀ vs H Q E, sp vs H Q E → vs.length = ps.length
  go : ∀ (A : Around) (out : List Env) (s : Shared) (H : Hp) (as : Args) (us : List Value) (vs : List V) (Q : VK) (E : XK), Room k A → A.guards = some [] → Env0 P w K mg base A out s H → BindsTo s fd as (ps.zip us) → Vals vs us → sp vs H Q E →
    codeAny (model P w) A (.call (.ref f) as) (CR C out P w H s Q E) s
theorem FnG.imp {P : Program} {w : World} {K : PySem.W.Frag} {mg : Str → Option Value} {base : Heap} {C : CXT} {k : Nat} {f : Addr} {fd : FuncData} {ps : List Str} {sp sp' : Sp} (F : FnG P w K mg base C k f fd ps sp) (h : ∀ vs H Q E, sp' vs H Q E → sp vs H Q E) : FnG P w K mg base C k f fd ps sp' :=
  ⟨fun vs H Q E q => F.len vs H Q E (h vs H Q E q), fun A out s H as us vs Q E hr hg he hb hv q => F.go A out s H as us vs Q E hr hg he hb hv (h vs H Q E q)⟩
/-- a def's promise by its body, where no guards lie around -/
theorem fn_g {P : Program} {w : World} {K : PySem.W.Frag} {mg : Str → Option Value} {base : Heap} {x qual : Str} {st : Stmt} {f : Addr} {fd : FuncData} {N ps : List Str} {k : Nat} {sp : Sp} (F : Fun K x qual st f fd) (S : FnScope N ps (defScope st)) (len : ∀ vs H Q E, sp vs H Q E → vs.length = ps.length)
    (hb : ∀ (cdv : Value) (A : Around) (out : List Env) (s : Shared) (H : Hp) (vs : List V) (Q : VK) (E : XK), Room k (A.deeper (envOfC qual (defScope st) s.heap.objs.size f cdv)) → A.guards = some [] → sp vs H Q E →
      ∃ t, PSs (cxOf (L2.CX P w) P w K mg base N qual (defScope st) f cdv A out s H E) (defBody st) t ∧ t { nx := fun _ H' => Q .non H', rt := Q } (L2.start N vs) H) : FnG P w K mg base (L2.CX P w) (k + 1) f fd ps sp := by
  obtain ⟨oc, od, kV, doc, pm, an, cdv, ct, osl, rfl, lk, hcd⟩ := F.ex
  refine ⟨len, fun A out s H as us vs Q E hr hg e0 hbd hv hs => ?_⟩
  have inK : K.In s.heap := e0.mod.kin.keeps fun b o q => (e0.bs b o q).1
  have nolim : s.heap.NoLimit := e0.mod.nolimit.keeps fun b o q => (e0.bs b o q).1
  have kinds : ∀ y ∈ ps.zip us, (defScope st).names.lookup y.1 = some .local ∨ ((defScope st).names.lookup y.1 = some .cell ∧ ((cellsFrom (s.heap.objs.size + 1) (defScope st).names []).lookup y.1).isSome = true) := by
    rintro ⟨y, v⟩ hy
    exact (S.par y (List.of_mem_zip hy).1).imp id fun q => ⟨q, PySem.W.cellsFrom_some _ _ _ (.inl q)⟩
  obtain ⟨t, pt, qt⟩ := hb cdv A out s H vs Q E (hr.deeper _) hg hs
  refine codeAny_call_function hr.depth (inK _ _ lk) rfl S.co S.gen rfl (PySem.W.codeRec_of inK hcd) (hbd _ _ _ _ ?_)
  refine wpAny_newFunctionEnv_cells S.kind kinds fun env ee s1 made => ?_
  cases ee
  refine ⟨nolim.keeps made.toInCall.keep, codeAny_func (wpAny_mono (pt.run [] s1 (L2.start N vs) H _ (inv_start S hr.hd e0 (len vs H Q E hs) hv made) qt) (fun o s2 h2 => ?_) fun _ _ h2 => h2)⟩
  match o, h2 with
  | .ret u, ⟨v, σ2, H2, J, rv, q⟩ => exact ⟨v, H2, J.os, J.bare, J.base, J.hok, rv, q⟩
  | .next, ⟨σ2, H2, J, q⟩ => exact ⟨V.non, H2, J.os, J.bare, J.base, J.hok, rfl, q⟩
  | .brk, ⟨_, _, _, q⟩ => exact q.elim
  | .cont, ⟨_, _, _, q⟩ => exact q.elim
end Py

set_option Elab.async false
set_option linter.all false
set_option maxRecDepth 100000
/-! the law's head, where the law's own def wants that no guards lie around -/
namespace Py
open PySem PySem.Spec L2 PyProof.Rows
def LawEnd (s1 : Shared) : Result → Shared → Prop := fun r s' => r = .ok (.ret (.bool true)) ∧ OldK s1.heap s'.heap ∧ s'.os = s1.os ∧ AllBare s'.gens
section
variable {P : Program} {w : World} {K : PySem.W.Frag} {mg mb : Str → Option Value} {k : Nat} {fa a : Addr} {fd : FuncData} {x : Str} {sp : Sp} {s1 : Shared} {vs : List Value} {ns : List Int}
/-- what the call leaves, told of an abstract heap that tracks the script at most -/
theorem law_from {H : Hp} (inK : K.In s1.heap) (hN : s1.heap.Ns mainGlobals mg) (hB : s1.heap.Ns builtinsNs mb) (hBB : ∀ y : Str, y ≠ "__name__" → mb y = bootBuiltins y) (hL : s1.heap.NoLimit) (hgen : s1.gens = #[]) (hobj : s1.heap.get? a = some { cls := .type "list", data := .seq vs.toArray })
    (hr : Room k callerA) (F : ∀ base : Heap, K.In base → base.Ns mainGlobals mg → FnG P w K mg base (L2.CX P w) k fa fd [x] sp) (hbind : ∀ (s : Shared) (u : Value), BindsTo s fd ⟨[u], []⟩ [(x, u)])
    (hO : Only H) (hH : HOk P w H s1.heap) (one : ∀ b, H b ≠ none → b = a) (notK : H a ≠ none → K.lookup a = none) (hs : sp [.ref a] H (fun v _ => v = .bl true) fun _ _ _ => False) :
    codeAny (model P w) callerA (.call (.ref fa) ⟨[.ref a], []⟩) (LawEnd s1) s1 := by
  have kept : ∀ {b : Addr} {o : Obj}, s1.heap.get? b = some o → H b = none → (hidT s1.heap H).get? b = some o := fun q n => hidT_get q n
  have noDict' : ∀ {b : Addr} {o : Obj} {es : Array DictEntry} {ep : Nat}, s1.heap.get? b = some o → o.data = .dict es ep → H b = none := by
    intro b o es ep q d
    by_cases hb : H b = none
    · exact hb
    · exfalso
      have := one b hb
      subst this
      rw [hobj] at q
      cases q
      have d' : Data.seq vs.toArray _ = Data.dict es ep := d
      cases d'
  have nsOf : ∀ {b : Addr} {m : Str → Option Value}, s1.heap.Ns b m → (hidT s1.heap H).Ns b m := by
    rintro b m ⟨o, es, ep, q, d, r⟩
    exact ⟨o, es, ep, kept q (noDict' q d), d, r⟩
  have inK2 : K.In (hidT s1.heap H) := by
    intro b o q
    refine kept (inK b o q) ?_
    by_cases hb : H b = none
    · exact hb
    · have := one b hb
      subst this
      rw [notK hb] at q
      cases q
  obtain ⟨mc, l1, l2⟩ := hL
  have env : Env0 P w K mg (hidT s1.heap H) callerA [] s1 H :=
    ⟨rfl, ⟨inK2, nsOf hN, ⟨mb, nsOf hB, hBB⟩, ⟨mc, nsOf l1, l2⟩⟩, fun b o q => of_hidT q, Nat.le_of_eq (hidT_size _ _), trivial, (fun b z => by cases z), hH, .of_eq hgen⟩
  refine codeAny_mono ((F _ inK2 (nsOf hN)).go callerA [] s1 H ⟨[.ref a], []⟩ [.ref a] [.ref a] _ _ hr rfl env (hbind s1 (.ref a)) (.cons rfl .nil) hs) ?_
  intro r s' h
  match r, h with
  | .error e, h => exact (cx_none w H s1 e s' h).elim
  | .ok .next, h => exact False.elim h
  | .ok .brk, h => exact False.elim h
  | .ok .cont, h => exact False.elim h
  | .ok (.ret u), ⟨v, H', os, bare, un, hok', rv, q⟩ =>
    have q' : v = .bl true := q
    subst q'
    obtain rfl : u = Value.bool true := rv
    refine ⟨rfl, OldK.of_keep fun b o e => ?_, os, bare⟩
    rcases hO b with z | ⟨ob, ys, z⟩
    · exact un.keep b o e z (fun y => by cases y) (by simp)
    · obtain ⟨e1, _⟩ := hH b _ z
      obtain ⟨e2, _⟩ := hok' b _ (un.frzs b ob _ z)
      rw [e] at e1
      cases e1
      exact e2
theorem law_callG (inK : K.In s1.heap) (hN : s1.heap.Ns mainGlobals mg) (hB : s1.heap.Ns builtinsNs mb) (hBB : ∀ y : Str, y ≠ "__name__" → mb y = bootBuiltins y) (hL : s1.heap.NoLimit) (hgen : s1.gens = #[]) (hobj : s1.heap.get? a = some { cls := .type "list", data := .seq vs.toArray })
    (hi : IntsAre vs ns) (hl : ns.length ≤ sizeLine) (hr : Room k callerA) (F : ∀ base : Heap, K.In base → base.Ns mainGlobals mg → FnG P w K mg base (L2.CX P w) k fa fd [x] sp) (hbind : ∀ (s : Shared) (u : Value), BindsTo s fd ⟨[u], []⟩ [(x, u)])
    (hsp : ∀ H : Hp, Only H → SqL K H a (ns.map V.int) → sp [.ref a] H (fun v _ => v = .bl true) fun _ _ _ => False) :
    codeAny (model P w) callerA (.call (.ref fa) ⟨[.ref a], []⟩) (LawEnd s1) s1 := by
  have rv := vals_ints hi
  have len := hi.length
  rcases hk : K.lookup a with _ | o
  · have at' : ∀ {b : Addr} {u : HO}, (if b = a then some (HO.frz { cls := .type "list", data := .seq vs.toArray } (.lst (ns.map V.int))) else none) = some u → b = a ∧ u = .frz { cls := .type "list", data := .seq vs.toArray } (.lst (ns.map V.int)) := by
      intro b u z
      split at z
      · cases z; exact ⟨‹_›, rfl⟩
      · cases z
    let H : Hp := fun b => if b = a then some (.frz { cls := .type "list", data := .seq vs.toArray } (.lst (ns.map V.int))) else none
    have hO : Only H := by
      intro b
      cases e : H b with
      | none => exact .inl rfl
      | some u => exact .inr ⟨_, _, by rw [(at' e).2]⟩
    refine law_from (H := H) inK hN hB hBB hL hgen hobj hr F hbind hO ?_ ?_ (fun _ => hk) (hsp H hO (.inl (.inr ⟨_, if_pos rfl⟩)))
    · intro b u z
      obtain ⟨rfl, rfl⟩ := at' z
      exact ⟨hobj, by rw [List.length_map]; exact hl, vs, _, rv, hobj⟩
    · intro b z
      cases e : H b with
      | none => exact (z e).elim
      | some u => exact (at' e).1
  · have e := inK a o hk
    rw [hobj] at e
    cases e
    have hO : Only (fun _ => none) := fun _ => .inl rfl
    refine law_from (H := fun _ => none) inK hN hB hBB hL hgen hobj hr F hbind hO (fun b u z => ?_) (fun b z => (z rfl).elim) (fun z => (z rfl).elim) (hsp _ hO (.inr ⟨_, vs.toArray, _, hk, rfl, rfl, rfl, by rw [List.size_toArray, len]; exact hl, by simpa using rv⟩))
    have z' : (none : Option HO) = some u := z
    cases z'
end
theorem walk_g {l : PySem.W.OpenLaw} {n k : Nat} {q : Program} {loose : List Str} {XP : (Str → Option Value) → Heap → Prop} {YP : World → Heap → Prop} {d : DefRec} {K : Params → PySem.W.Frag} {sp : World → Sp} {x : Str}
    (hn : l.most = some n) (hn2 : n ≤ sizeLine) (hdf : d.params.defaults = []) (hr : Room k callerA) (hY : ∀ (w : World) (h : Heap), YP w h → (K w.params).In h)
    (F : ∀ (w : World) (mg : Str → Option Value) (fa : Addr) (h : Heap), (K w.params).In h → h.Ns mainGlobals mg → mg d.name = some (.ref fa) →
      ∃ fd : FuncData, (∀ (s : Shared) (u : Value), BindsTo s fd ⟨[u], []⟩ [(x, u)]) ∧ ∀ base : Heap, (K w.params).In base → base.Ns mainGlobals mg → FnG l.prog w (K w.params) mg base (L2.CX l.prog w) k fa fd [x] (sp w))
    (hsp : ∀ (w : World) (H : Hp) (a : Addr) (ns : List Int), ns.length ≤ n → Only H → SqL (K w.params) H a (ns.map V.int) → sp w [.ref a] H (fun v _ => v = .bl true) fun _ _ _ => False) :
    PySem.W.WalkO q loose XP YP l.row.toRowW d [] (fun f vs => PySem.call f vs) := by
  refine Att.attach_call hn hdf ?_
  intro w s0 s1 mg mb fa o pm cd doc a vs ns G Y ho hd hcd hmg hobj hints hlen hg
  have inK := hY w _ Y
  obtain ⟨fd, hb, hF⟩ := F w mg fa _ inK G.T.g hmg
  exact law_callG inK G.T.g G.T.b G.T.builtins G.T.nolimit hg hobj hints (Nat.le_trans hlen hn2) hr hF hb fun H hO hS => hsp w H a ns hlen hO hS
/-- the body's promise -/
theorem run_okG {P : Program} {w : World} {K : PySem.W.Frag} {mg : Str → Option Value} {base : Heap} {x qual : Str} {st : Stmt} {f : Addr} {fd : FuncData} {N ps : List Str} {k n : Nat} {F : List Nat → Ev → Out} {φ : List D → Res D} (Fn : Fun K qual qual st f fd) (S : FnScope N ps (defScope st)) (hn : ps.length = n)
    (hφ : ∀ ds, ds.length = n → φ ds = run F N.length ds)
    (hb : ∀ (cdv : Value) (A : Around) (outer : List Env) (s : Shared) (H : Hp) (E : XK), Room k (A.deeper (PyProof.Rows.envOfC qual (defScope st) s.heap.objs.size f cdv)) → A.guards = some [] → VSs K mg (fun _ : Unit => cxOf (L2.CX P w) P w K mg base N qual (defScope st) f cdv A outer s H E) (defBody st) F) :
    FnG P w K mg base (L2.CX P w) (k + 1) f fd ps (spD K mg φ n) := by
  refine fn_g Fn S (fun vs H Q E h => h.1.trans hn.symm) fun cdv A outer s H vs Q E hr hg h => ?_
  obtain ⟨hl, ds, R, r, hR, h⟩ := h
  obtain ⟨t, pt, qt⟩ := hb cdv A outer s H E hr hg _ (fun _ => takes_of rfl rfl rfl rfl)
  refine ⟨t, pt (), qt [] R (fun _ => []) (start N.length ds) (L2.start N vs) H _ (ok_start hR r) ?_⟩
  rw [hφ ds (r.length.symm.trans hl)] at h
  unfold run at h
  cases e : F [] (start N.length ds) with
  | stuck => rw [e] at h; exact h
  | bk ρ => rw [e] at h; exact h.elim
  | ct ρ => rw [e] at h; exact h.elim
  | nx ρ =>
    rw [e] at h
    intro S' fps' σ' H' st' ok'
    exact h .non [] R H' ⟨fun a o q => st'.keep a o q (fun _ z => by cases z), fun _ z => z, fun _ z => .inl z⟩ .non List.nodup_nil (fun a z => by cases z)
  | rt d =>
    rw [e] at h
    intro v fp S' H' fin rv
    refine h v fp S' H' ⟨fun a o q => fin.keep a o q (fun _ z => by cases z), fin.sub, fun a z => ?_⟩ rv fin.nd fun a ha => ⟨?_, fin.ns a ha⟩
    · rcases fin.new a (.inl z) with q | ⟨i, q⟩ | q
      · exact .inl q
      · cases q
      · exact .inr ⟨q, fin.dom a z⟩
    · rcases fin.new a (.inr ha) with q | ⟨i, q⟩ | q
      · exact (fin.ns a ha (fin.sub a q)).elim
      · cases q
      · exact q
  | rs c ρ =>
    rw [e] at h
    intro C S' fps' σ' H' hm st' ok'
    exact h C H' hm (fun a o q => st'.keep a o q (fun _ z => by cases z))
theorem law_okG {P : Program} {w : World} {K : PySem.W.Frag} {mg : Str → Option Value} {base : Heap} {k : Nat} {φ : List D → Res D} {f : Addr} {fd : FuncData} {ps : List Str} (F : FnG P w K mg base (L2.CX P w) k f fd ps (spD K mg φ 1)) (h : ∀ ns : List Int, ns.length ≤ 63 → φ [.node false .lst (ns.map D.int)] = .ok (.bl true)) :
    FnG P w K mg base (L2.CX P w) k f fd ps (spLaw K) := by
  refine F.imp fun vs H Q E hs => ?_
  obtain ⟨a, ns, rfl, hS, hl, q⟩ := hs
  have fin : ∀ R : Addr → Prop, Rep K H R (.ref a) (.node false .lst (ns.map D.int)) [] → (∀ b, R b → ∃ o, H b = some o) → spD K mg φ 1 [.ref a] H Q E := fun R r hR => by
    refine ⟨rfl, [.node false .lst (ns.map D.int)], R, RepL.one r, hR, ?_⟩
    rw [h ns hl]
    intro v fp R' H' g rv _ _
    cases rv
    exact q H'
  rcases hS with hS | hS
  · refine fin (fun b => b = a) (.shr rfl trivial rfl hS RepL.ints) fun b hb => ?_
    subst hb
    rcases hS with e | ⟨o, e⟩
    · exact ⟨_, e⟩
    · exact ⟨_, e⟩
  · exact fin (fun _ => False) (.kst hS RepL.ints) fun b z => z.elim
theorem Fam.u70 {ι : Type} {X : ι → Cx} {P : Program} {w : World} {K : PySem.W.Frag} {mg : Str → Option Value} {base : Heap} {N : List Str} {k : Nat} (hF : Fam P w K mg base N k X) (i : ι) : (X i).A.units + 70 < cLine := by have := (hF.room i).un; omega
end Py

set_option Elab.async false
set_option linter.all false
set_option maxRecDepth 100000
namespace Py
open PySem L2
/-- two slots change -/
theorem for_set2 {α β : Type} {fi : Ev → Res (List D × List Nat)} {T : D × List Nat → Ev → Option Ev} {F : List Nat → Ev → Out} {lk : List Nat} {ρ : Ev} {o : Out} (hq : oFor fi T F lk ρ = o) (i i' : Nat) (xs : List α) (j : α → D) (p : List Nat) (f f' : β → Option Slot) (Q : Nat → β → Prop) (b0 : β) (hfi : fi ρ = .ok (xs.map j, p)) (hb0 : (ρ.set i (f b0)).set i' (f' b0) = ρ) (h0 : Q 0 b0)
    (h : ∀ k x b, xs[k]? = some x → k < xs.length → Q k b → turnOk T (F (p ++ lk)) p ρ (j x) ((ρ.set i (f b)).set i' (f' b)) fun ρ' => ∃ b', Q (k + 1) b' ∧ ρ' = (ρ.set i (f b')).set i' (f' b')) : ∃ b, Q xs.length b ∧ o = .nx ((ρ.set i (f b)).set i' (f' b)) := by
  obtain ⟨ρe, e, b, hb, hρ⟩ := for_at hq (xs.map j) p xs.length (by simp) hfi (fun k ρ' => ∃ b, Q k b ∧ ρ' = (ρ.set i (f b)).set i' (f' b)) ⟨b0, h0, hb0.symm⟩ fun k x hx hk ρ' ⟨b, hb, hρ⟩ => by
    rw [List.getElem?_map] at hx
    cases e : xs[k]? with
    | none => rw [e] at hx; cases hx
    | some y =>
      rw [e] at hx
      cases hx
      subst hρ
      exact h k y b e hk hb
  subst hρ
  exact ⟨b, hb, e⟩
/-- ranges from lo -/
def rgf (lo : Int) (n : Nat) : List Int := (List.range n).map fun k : Nat => lo + (k : Int)
@[simp] theorem rgf_len (lo : Int) (n : Nat) : (rgf lo n).length = n := by simp [rgf]
theorem rngI_rgf (lo : Int) (n : Nat) : rngI lo n = (rgf lo n).map D.int := by unfold rngI rgf; rw [List.map_map]; rfl
theorem rgf_get {lo : Int} {n k : Nat} (h : k < n) : (rgf lo n)[k]? = some (lo + (k : Int)) := by unfold rgf; rw [List.getElem?_map, List.getElem?_range h]; rfl
@[simp] theorem mem_rgf {lo : Int} {n : Nat} {i : Int} : i ∈ rgf lo n ↔ lo ≤ i ∧ i < lo + n := by
  unfold rgf
  rw [List.mem_map]
  constructor
  · rintro ⟨k, hk, rfl⟩
    have := List.mem_range.mp hk
    omega
  · rintro ⟨h1, h2⟩
    exact ⟨(i - lo).toNat, List.mem_range.mpr (by omega), by omega⟩
theorem rgf_succ (lo : Int) (n : Nat) : rgf lo (n + 1) = rgf lo n ++ [lo + (n : Int)] := by unfold rgf; rw [List.range_succ, List.map_append]; rfl
theorem atI_last {α : Type} {xs : List α} {x : α} (h : xs.getLast? = some x) : atI xs (-1) = some x := by
  have hl : xs ≠ [] := fun z => by rw [z] at h; cases h
  have hp := List.length_pos_iff.mpr hl
  unfold atI ixN
  rw [if_neg (by omega), if_pos (by omega)]
  have e : ((-1 : Int) + xs.length).toNat = xs.length - 1 := by omega
  show xs[((-1 : Int) + xs.length).toNat]? = _
  rw [e, ← h, List.getLast?_eq_getElem?]
@[simp] theorem gIx_dK (o : Bool) (ks : List Key) (xs : List D) (i : Int) : gIx (.node o (.dK ks) xs) (.int i) = dfind ks xs (.inl i) := Eq.trans rfl rfl
end Py

set_option Elab.async false
set_option linter.all false
set_option maxRecDepth 100000
/-! repr is let: what is small enough -/
namespace Py
open PySem PySem.Spec L2 PyProof.Rows
/-- data of weight m at most, whose repr is known to fit -/
structure Sm (m n : Nat) (p : PyData) : Prop where
  sh : p.showable = true
  is : p.intsShort 13 = true
  cl : p.canLay0 = true
  dp : p.depth ≤ n
  wt : p.weight ≤ m
theorem Sm.ok {m n : Nat} {p : PyData} (h : Sm m n p) (hm : m ≤ 1048576) (hn : n ≤ 64) : reprOk p = true := by
  have hd : p.depth ≤ 64 := Nat.le_trans h.dp hn
  have hw : p.weight ≤ 2 ^ 20 := Nat.le_trans h.wt hm
  have hl : PyData.layable0 p = true := by
    unfold PyData.layable0
    rw [h.cl, decide_eq_true hd, decide_eq_true hw]
    rfl
  have h1 := shown_le13 hl h.is
  unfold reprOk
  rw [h.sh, decide_eq_true hd, decide_eq_true (by rw [sizeLine_eq]; omega)]
  rfl
theorem Sm.imp {m n m' n' : Nat} {p : PyData} (h : Sm m n p) (hm : m ≤ m') (hn : n ≤ n') : Sm m' n' p := ⟨h.sh, h.is, h.cl, Nat.le_trans h.dp hn, Nat.le_trans h.wt hm⟩
theorem Sm.non : Sm 0 0 .none := ⟨rfl, rfl, rfl, Nat.le_of_eq (by simp [PyData.depth]), Nat.le_of_eq (by simp [PyData.weight])⟩
theorem Sm.bl (b : Bool) : Sm 0 0 (.bool b) := ⟨rfl, rfl, rfl, Nat.le_of_eq (by simp [PyData.depth]), Nat.le_of_eq (by simp [PyData.weight])⟩
theorem Sm.int {i : Int} (h0 : 0 ≤ i) (h1 : i < 10000000000) : Sm 34 0 (.int i) := by
  have hlt : i.natAbs < 2 ^ 34 := by
    have : (2 : Nat) ^ 34 = 17179869184 := by decide
    omega
  have hlog : i.natAbs.log2 < 34 := by
    by_cases hz : i.natAbs = 0
    · rw [hz]; decide
    · exact (Nat.log2_lt hz).mpr hlt
  refine ⟨?_, ?_, rfl, Nat.le_of_eq (by simp [PyData.depth]), ?_⟩
  · rw [PyData.showable, decide_eq_true (by omega)]
  · rw [PyData.intsShort]
    refine decide_eq_true ?_
    have := PySem.W.KT.len_num h0 (show i < 10 ^ 10 by simpa using h1)
    rw [PyData.shown]
    exact Nat.le_trans this (by decide)
  · rw [PyData.weight]
    split
    · omega
    · omega
theorem Sm.all {m n : Nat} : ∀ {ps : List PyData}, (∀ p ∈ ps, Sm m n p) → PyData.showableAll ps = true ∧ PyData.intsShortAll 13 ps = true ∧ PyData.canLayAll0 ps = true ∧ PyData.depthAll ps ≤ n ∧ PyData.weightAll ps ≤ ps.length * (m + 1)
  | [], _ => ⟨rfl, rfl, rfl, Nat.zero_le _, by simp [PyData.weightAll]⟩
  | p :: ps, h => by
    obtain ⟨h1, h2, h3, h4, h5⟩ := Sm.all (ps := ps) fun q hq => h q (List.mem_cons_of_mem _ hq)
    have hp := h p List.mem_cons_self
    refine ⟨by rw [PyData.showableAll, hp.sh, h1]; rfl, by rw [PyData.intsShortAll, hp.is, h2]; rfl, by rw [PyData.canLayAll0, hp.cl, h3]; rfl, by rw [PyData.depthAll]; exact Nat.max_le.mpr ⟨hp.dp, h4⟩, ?_⟩
    rw [PyData.weightAll, List.length_cons, Nat.succ_mul]
    have := hp.wt
    omega
theorem Sm.lst {m n k : Nat} {ps : List PyData} (h : ∀ p ∈ ps, Sm m n p) (hk : ps.length ≤ k) : Sm (k * (m + 1)) (n + 1) (.list ps) := by
  obtain ⟨h1, h2, h3, h4, h5⟩ := Sm.all h
  refine ⟨by rw [PyData.showable]; exact h1, by rw [PyData.intsShort]; exact h2, by rw [PyData.canLay0]; exact h3, by rw [PyData.depth]; omega, by rw [PyData.weight]; exact Nat.le_trans h5 (Nat.mul_le_mul_right _ hk)⟩
theorem Sm.tup {m n k : Nat} {ps : List PyData} (h : ∀ p ∈ ps, Sm m n p) (hk : ps.length ≤ k) : Sm (k * (m + 1)) (n + 1) (.tuple ps) := by
  obtain ⟨h1, h2, h3, h4, h5⟩ := Sm.all h
  refine ⟨by rw [PyData.showable]; exact h1, by rw [PyData.intsShort]; exact h2, by rw [PyData.canLay0]; exact h3, by rw [PyData.depth]; omega, by rw [PyData.weight]; exact Nat.le_trans h5 (Nat.mul_le_mul_right _ hk)⟩
theorem gRepr_of {o : Bool} {t : Tg} {xs : List D} {p : PyData} (h : toPy (.node o t xs) = some p) {m n : Nat} (hs : Sm m n p) (hm : m ≤ 1048576) (hn : n ≤ 64) : gRepr [.node o t xs] = some (.str p.shown) := by
  show ((toPy (.node o t xs)).bind fun p => if opq (reprOk p) = true then some (D.str p.shown) else none) = _
  rw [h]
  show (if opq (reprOk p) = true then some (D.str p.shown) else none) = _
  rw [opq_eq, hs.ok hm hn]
  rfl
end Py

set_option Elab.async false
set_option linter.all false
set_option maxRecDepth 100000
namespace Py.K89
open PySem PySem.Spec L2 PyProof.Rows
/-! ### the text -/
def topS (i : Nat) : Stmt := PySem.Challenge.pw_piecesturned_k89_whole_tariffs_and_guara.main.body.getD i (.Pass ⟨0, 0, 0, 0⟩)
abbrev s__law_cell : Stmt := topS 14
theorem sc__law_cell : FnScope ["script", "k"] ["script", "k"] (defScope s__law_cell) := ⟨rfl, rfl, rfl, by decide +kernel, rfl, by decide +kernel, by decide +kernel⟩
abbrev s__law_counts : Stmt := topS 22
theorem sc__law_counts : FnScope ["closed", "begin", "visits", "shut", "day", "found", "total", "brought", "back", "stop"] ["closed", "begin", "visits"] (defScope s__law_counts) := ⟨rfl, rfl, rfl, by decide +kernel, rfl, by decide +kernel, by decide +kernel⟩
abbrev s__law_price : Stmt := topS 19
theorem sc__law_price : FnScope ["tariff", "count", "total", "k", "stop"] ["tariff", "count"] (defScope s__law_price) := ⟨rfl, rfl, rfl, by decide +kernel, rfl, by decide +kernel, by decide +kernel⟩
abbrev s__law_is_most : Stmt := topS 20
theorem sc__law_is_most : FnScope ["tariff", "money", "most"] ["tariff", "money", "most"] (defScope s__law_is_most) := ⟨rfl, rfl, rfl, by decide +kernel, rfl, by decide +kernel, by decide +kernel⟩
abbrev s__law_numbers : Stmt := topS 15
theorem sc__law_numbers : FnScope ["cell", "count", "limit", "found", "k", "mixed"] ["cell", "count", "limit"] (defScope s__law_numbers) := ⟨rfl, rfl, rfl, by decide +kernel, rfl, by decide +kernel, by decide +kernel⟩
abbrev s__law_same : Stmt := topS 16
theorem sc__law_same : FnScope ["told", "due", "k"] ["told", "due"] (defScope s__law_same) := ⟨rfl, rfl, rfl, by decide +kernel, rfl, by decide +kernel, by decide +kernel⟩
abbrev s__law_some_calendar : Stmt := topS 17
theorem sc__law_some_calendar : FnScope ["draws", "top", "kind", "found", "k", "day"] ["draws", "top"] (defScope s__law_some_calendar) := ⟨rfl, rfl, rfl, by decide +kernel, rfl, by decide +kernel, by decide +kernel⟩
abbrev s__law_tariff : Stmt := topS 18
theorem sc__law_tariff : FnScope ["draws", "numbers", "k", "number"] ["draws"] (defScope s__law_tariff) := ⟨rfl, rfl, rfl, by decide +kernel, rfl, by decide +kernel, by decide +kernel⟩
abbrev s__law_visits : Stmt := topS 21
theorem sc__law_visits : FnScope ["draws", "begin", "count", "day", "found", "k", "brought", "back"] ["draws", "begin", "count"] (defScope s__law_visits) := ⟨rfl, rfl, rfl, by decide +kernel, rfl, by decide +kernel, by decide +kernel⟩
abbrev s_open_days : Stmt := topS 1
theorem sc_open_days : FnScope ["closed", "start", "stop", "day"] ["closed", "start", "stop"] (defScope s_open_days) := ⟨rfl, rfl, rfl, by decide +kernel, rfl, by decide +kernel, by decide +kernel⟩
abbrev s_away_days : Stmt := topS 4
theorem sc_away_days : FnScope ["closed", "visit", "begin", "day", "stop", "brought", "back"] ["closed", "visit", "begin", "day"] (defScope s_away_days) := ⟨rfl, rfl, rfl, by decide +kernel, rfl, by decide +kernel, by decide +kernel⟩
abbrev s_counted : Stmt := topS 5
theorem sc_counted : FnScope ["closed", "begin", "visits", "day", "visit"] ["closed", "begin", "visits", "day"] (defScope s_counted) := ⟨rfl, rfl, rfl, by decide +kernel, rfl, by decide +kernel, by decide +kernel⟩
abbrev s_holds_on : Stmt := topS 6
theorem sc_holds_on : FnScope ["closed", "days", "begin", "visits", "day"] ["closed", "days", "begin", "visits", "day"] (defScope s_holds_on) := ⟨rfl, rfl, rfl, by decide +kernel, rfl, by decide +kernel, by decide +kernel⟩
abbrev s_end_of : Stmt := topS 7
theorem sc_end_of : FnScope ["closed", "days", "begin", "visits", "high", "low", "day"] ["closed", "days", "begin", "visits"] (defScope s_end_of) := ⟨rfl, rfl, rfl, by decide +kernel, rfl, by decide +kernel, by decide +kernel⟩
abbrev s_free_visits : Stmt := topS 8
theorem sc_free_visits : FnScope ["closed", "days", "begin", "visits", "brought", "_"] ["closed", "days", "begin", "visits"] (defScope s_free_visits) := ⟨rfl, rfl, rfl, by decide +kernel, rfl, by decide +kernel, by decide +kernel⟩
abbrev s_price_of : Stmt := topS 11
theorem sc_price_of : FnScope ["tariff", "count", "total", "k", "last", "number", "cents"] ["tariff", "count"] (defScope s_price_of) := ⟨rfl, rfl, rfl, by decide +kernel, rfl, by decide +kernel, by decide +kernel⟩
abbrev s_most_for : Stmt := topS 12
theorem sc_most_for : FnScope ["tariff", "money", "low", "high", "count"] ["tariff", "money"] (defScope s_most_for) := ⟨rfl, rfl, rfl, by decide +kernel, rfl, by decide +kernel, by decide +kernel⟩
abbrev s_law : Stmt := topS 23
theorem sc_law : FnScope ["script", "turn", "draws", "tariff", "kept", "great", "counts", "count", "money", "k", "number", "cents", "price", "begin", "days", "closed", "visits", "text", "found", "asked", "day", "ends", "due", "last", "pair", "brought", "back"] ["script"] (defScope s_law) := ⟨rfl, rfl, rfl, by decide +kernel, rfl, by decide +kernel, by decide +kernel⟩
structure Zs (mg : Str → Option Value) : Prop where
  z_bool : mg "bool" = none
  z_enumerate : mg "enumerate" = none
  z_int : mg "int" = none
  z_isinstance : mg "isinstance" = none
  z_len : mg "len" = none
  z_list : mg "list" = none
  z_max : mg "max" = none
  z_min : mg "min" = none
  z_range : mg "range" = none
  z_repr : mg "repr" = none
  z_set : mg "set" = none
  z_sorted : mg "sorted" = none
  z_str : mg "str" = none
  z_sum : mg "sum" = none
  z_tuple : mg "tuple" = none
  c_BEYOND : ∃ u, mg "BEYOND" = some u ∧ RelV (.int 10400) u
  c_MOST_THINGS : ∃ u, mg "MOST_THINGS" = some u ∧ RelV (.int 1000000000) u
theorem bt_bool : bootBuiltins "bool" = some (.type "bool") := by decide +kernel
theorem bt_enumerate : bootBuiltins "enumerate" = some (.type "enumerate") := by decide +kernel
theorem bt_int : bootBuiltins "int" = some (.type "int") := by decide +kernel
theorem bt_isinstance : bootBuiltins "isinstance" = some (.builtin "isinstance") := by decide +kernel
theorem bt_len : bootBuiltins "len" = some (.builtin "len") := by decide +kernel
theorem bt_list : bootBuiltins "list" = some (.type "list") := by decide +kernel
theorem bt_max : bootBuiltins "max" = some (.builtin "max") := by decide +kernel
theorem bt_min : bootBuiltins "min" = some (.builtin "min") := by decide +kernel
theorem bt_range : bootBuiltins "range" = some (.type "range") := by decide +kernel
theorem bt_repr : bootBuiltins "repr" = some (.builtin "repr") := by decide +kernel
theorem bt_set : bootBuiltins "set" = some (.type "set") := by decide +kernel
theorem bt_sorted : bootBuiltins "sorted" = some (.builtin "sorted") := by decide +kernel
theorem bt_str : bootBuiltins "str" = some (.type "str") := by decide +kernel
theorem bt_sum : bootBuiltins "sum" = some (.builtin "sum") := by decide +kernel
theorem bt_tuple : bootBuiltins "tuple" = some (.type "tuple") := by decide +kernel
structure Ys (K : PySem.W.Frag) (mg : Str → Option Value) : Prop where
  y__law_cell : ∃ f fd, Fun K "_law_cell" "_law_cell" s__law_cell f fd ∧ mg "_law_cell" = some (.ref f)
  y__law_counts : ∃ f fd, Fun K "_law_counts" "_law_counts" s__law_counts f fd ∧ mg "_law_counts" = some (.ref f)
  y__law_price : ∃ f fd, Fun K "_law_price" "_law_price" s__law_price f fd ∧ mg "_law_price" = some (.ref f)
  y__law_is_most : ∃ f fd, Fun K "_law_is_most" "_law_is_most" s__law_is_most f fd ∧ mg "_law_is_most" = some (.ref f)
  y__law_numbers : ∃ f fd, Fun K "_law_numbers" "_law_numbers" s__law_numbers f fd ∧ mg "_law_numbers" = some (.ref f)
  y__law_same : ∃ f fd, Fun K "_law_same" "_law_same" s__law_same f fd ∧ mg "_law_same" = some (.ref f)
  y__law_some_calendar : ∃ f fd, Fun K "_law_some_calendar" "_law_some_calendar" s__law_some_calendar f fd ∧ mg "_law_some_calendar" = some (.ref f)
  y__law_tariff : ∃ f fd, Fun K "_law_tariff" "_law_tariff" s__law_tariff f fd ∧ mg "_law_tariff" = some (.ref f)
  y__law_visits : ∃ f fd, Fun K "_law_visits" "_law_visits" s__law_visits f fd ∧ mg "_law_visits" = some (.ref f)
  y_open_days : ∃ f fd, Fun K "open_days" "open_days" s_open_days f fd ∧ mg "open_days" = some (.ref f)
  y_away_days : ∃ f fd, Fun K "away_days" "away_days" s_away_days f fd ∧ mg "away_days" = some (.ref f)
  y_counted : ∃ f fd, Fun K "counted" "counted" s_counted f fd ∧ mg "counted" = some (.ref f)
  y_holds_on : ∃ f fd, Fun K "holds_on" "holds_on" s_holds_on f fd ∧ mg "holds_on" = some (.ref f)
  y_end_of : ∃ f fd, Fun K "end_of" "end_of" s_end_of f fd ∧ mg "end_of" = some (.ref f)
  y_free_visits : ∃ f fd, Fun K "free_visits" "free_visits" s_free_visits f fd ∧ mg "free_visits" = some (.ref f)
  y_price_of : ∃ f fd, Fun K "price_of" "price_of" s_price_of f fd ∧ mg "price_of" = some (.ref f)
  y_most_for : ∃ f fd, Fun K "most_for" "most_for" s_most_for f fd ∧ mg "most_for" = some (.ref f)
  y_law : ∃ f fd, Fun K "law" "law" s_law f fd ∧ mg "law" = some (.ref f)
/-! ### what the defs compute -/
noncomputable section
def F__law_cell : List Nat → Ev → Out := (sSeq (sIf (tVal (eBin gLt (eVar 1) (eArgs gLen (aCons (eVar 0) aNil)))) (sRet (eArgs gInt (aCons (eBin gIx (eVar 0) (eVar 1)) aNil))) sNil) (sRet (eK (.int 0))))
def phi__law_cell : List D → Res D := run F__law_cell 2
def F__law_counts : List Nat → Ev → Out := (sSeq (sSet 3 (eDK)) (sSeq (sFor (iSeq (eVar 0)) (gNm 4) (sSub 3 (eVar 4) (eK (.bl true)))) (sSeq (sFor (iSeq (eVar 2)) (gTp (gC (gNm 7) (gC (gNm 8) gN0))) (sSeq (sSet 9 (eK (.int 20001))) (sSeq (sIf (tVal (eBin gNotN (eVar 8) (eK .non))) (sSet 9 (eVar 8)) sNil) (sFor (iRg (aCons (eVar 7) (aCons (eVar 9) aNil))) (gNm 4) (sSub 3 (eVar 4) (eK (.bl true))))))) (sSeq (sSet 5 (eDK)) (sSeq (sSet 6 (eK (.int 0))) (sSeq (sFor (iRg (aCons (eVar 1) (aCons (eK (.int 20001)) aNil))) (gNm 4) (sSeq (sSub 5 (eVar 4) (eVar 6)) (sSet 6 (eBin gAdd (eVar 6) (eArgs gInt (aCons (eBin gNotIn (eVar 4) (eVar 3)) aNil)))))) (sRetV 5)))))))
def phi__law_counts : List D → Res D := run F__law_counts 10
def F__law_price : List Nat → Ev → Out := (sSeq (sSet 2 (eK (.int 0))) (sSeq (sFor (iRg (aCons (eArgs gLen (aCons (eVar 0) aNil)) aNil)) (gNm 3) (sSeq (sSet 4 (eBin gAdd (eVar 1) (eK (.int 1)))) (sSeq (sIf (tVal (eBin gLt (eBin gAdd (eVar 3) (eK (.int 1))) (eArgs gLen (aCons (eVar 0) aNil)))) (sSet 4 (eArgs gMin (aCons (eVar 4) (aCons (eBin gIx (eBin gIx (eVar 0) (eBin gAdd (eVar 3) (eK (.int 1)))) (eK (.int 0))) aNil)))) sNil) (sIf (tVal (eBin gGt (eVar 4) (eBin gIx (eBin gIx (eVar 0) (eVar 3)) (eK (.int 0))))) (sSet 2 (eBin gAdd (eVar 2) (eBin gMul (eBin gSub (eVar 4) (eBin gIx (eBin gIx (eVar 0) (eVar 3)) (eK (.int 0)))) (eBin gIx (eBin gIx (eVar 0) (eVar 3)) (eK (.int 1)))))) sNil)))) (sRetV 2)))
def phi__law_price : List D → Res D := run F__law_price 5
def F__law_is_most : List Nat → Ev → Out := (sSeq (sIf (tOrB (tNotB (tTru (eArgs gIsi (aCons (eVar 2) (aCons (eK (.ty "int")) aNil))))) (tOrB (tTru (eArgs gIsi (aCons (eVar 2) (aCons (eK (.ty "bool")) aNil)))) (tOrB (tVal (eBin gLt (eVar 2) (eK (.int 0)))) (tOrB (tVal (eBin gGt (eVar 2) (eBin gPow (eK (.int 10)) (eK (.int 9))))) (tVal (eBin gGt (eCall phi__law_price 2 (aCons (eVar 0) (aCons (eVar 2) aNil))) (eVar 1))))))) (sRet (eK (.bl false))) sNil) (sRet (eOr (eBin gEq (eVar 2) (eBin gPow (eK (.int 10)) (eK (.int 9)))) (eBin gGt (eCall phi__law_price 2 (aCons (eVar 0) (aCons (eBin gAdd (eVar 2) (eK (.int 1))) aNil))) (eVar 1)))))
def phi__law_is_most : List D → Res D := run F__law_is_most 3
def F__law_numbers : List Nat → Ev → Out := (sSeq (sSet 3 (eArgs gLstD aNil)) (sSeq (sIf (tVal (eBin gGe (eVar 0) (eBin gPow (eK (.int 10)) (eK (.int 18))))) (sSeq (sFor (iRg (aCons (eVar 1) aNil)) (gNm 4) (sSeq (sApp 3 (eBin gMod (eArgs gInt (aCons (eVar 0) aNil)) (eVar 2))) (sSet 0 (eBin gFdiv (eArgs gInt (aCons (eVar 0) aNil)) (eVar 2))))) (sRetV 3)) sNil) (sSeq (sFor (iRg (aCons (eVar 1) aNil)) (gNm 4) (sSeq (sSet 5 (eBin gMod (eArgs gInt (aCons (eBin gAdd (eBin gAdd (eBin gMul (eVar 0) (eK (.int 48271))) (eBin gMul (eVar 4) (eK (.int 69621)))) (eK (.int 7))) aNil)) (eK (.int 2147483647)))) (sSeq (sSet 5 (eBin gMod (eArgs gInt (aCons (eBin gAdd (eBin gAdd (eBin gAdd (eBin gMul (eVar 5) (eVar 5)) (eBin gMul (eVar 5) (eK (.int 40692)))) (eBin gMul (eVar 4) (eK (.int 16807)))) (eK (.int 11))) aNil)) (eK (.int 2147483399)))) (sApp 3 (eBin gMod (eArgs gInt (aCons (eBin gFdiv (eVar 5) (eK (.int 32))) aNil)) (eVar 2)))))) (sRetV 3))))
def phi__law_numbers : List D → Res D := run F__law_numbers 6
def F__law_same (self : List D → Res D) : List Nat → Ev → Out := (sSeq (sIf (tTru (eArgs gIsi (aCons (eVar 1) (aCons (eK (.ty "list")) aNil)))) (sIf (tOrB (tNotB (tTru (eArgs gIsi (aCons (eVar 0) (aCons (eK (.ty "list")) aNil))))) (tVal (eBin gNe (eArgs gLen (aCons (eVar 0) aNil)) (eArgs gLen (aCons (eVar 1) aNil))))) (sRet (eK (.bl false))) sNil) (sIf (tTru (eArgs gIsi (aCons (eVar 1) (aCons (eK (.ty "tuple")) aNil)))) (sIf (tOrB (tNotB (tTru (eArgs gIsi (aCons (eVar 0) (aCons (eK (.ty "tuple")) aNil))))) (tVal (eBin gNe (eArgs gLen (aCons (eVar 0) aNil)) (eArgs gLen (aCons (eVar 1) aNil))))) (sRet (eK (.bl false))) sNil) (sIf (tVal (eBin gIsN (eVar 1) (eK .non))) (sRet (eBin gIsN (eVar 0) (eK .non))) (sIf (tTru (eArgs gIsi (aCons (eVar 1) (aCons (eK (.ty "bool")) aNil)))) (sRet (eAnd (eArgs gIsi (aCons (eVar 0) (aCons (eK (.ty "bool")) aNil))) (eBin gEq (eVar 0) (eVar 1)))) (sIf (tTru (eArgs gIsi (aCons (eVar 1) (aCons (eK (.ty "int")) aNil)))) (sRet (eAnd (eArgs gIsi (aCons (eVar 0) (aCons (eK (.ty "int")) aNil))) (eAnd (eNot (eArgs gIsi (aCons (eVar 0) (aCons (eK (.ty "bool")) aNil)))) (eBin gEq (eVar 0) (eVar 1))))) (sRet (eAnd (eArgs gIsi (aCons (eVar 0) (aCons (eK (.ty "str")) aNil))) (eBin gEq (eVar 0) (eVar 1))))))))) (sSeq (sFor (iRg (aCons (eArgs gLen (aCons (eVar 1) aNil)) aNil)) (gNm 2) (sIf (tNotB (tTru (eCall self 2 (aCons (eBin gIx (eVar 0) (eVar 2)) (aCons (eBin gIx (eVar 1) (eVar 2)) aNil))))) (sRet (eK (.bl false))) sNil)) (sRet (eK (.bl true)))))
def rec__law_same : Nat → List D → Res D
  | 0 => fun _ => .stuck
  | n + 1 => run (F__law_same (rec__law_same n)) 3
def phi__law_same : List D → Res D := rec__law_same 3
def F__law_some_calendar : List Nat → Ev → Out := (sSeq (sSet 2 (eBin gMod (eBin gIx (eVar 0) (eK (.int 0))) (eK (.int 4)))) (sSeq (sSet 3 (eArgs gLstD aNil)) (sSeq (sIf (tVal (eBin gEq (eVar 2) (eK (.int 1)))) (sSet 3 (eLc [4] (iRg (aCons (eK (.int 10)) aNil)) (gNm 4) tT (eBin gMod (eBin gIx (eVar 0) (eBin gAdd (eK (.int 1)) (eVar 4))) (eVar 1)))) (sIf (tVal (eBin gEq (eVar 2) (eK (.int 2)))) (sSet 3 (eLc [4] (iRg (aCons (eArgs gMin (aCons (eK (.int 400)) (aCons (eBin gFdiv (eVar 1) (eK (.int 7))) aNil))) aNil)) (gNm 4) tT (eBin gAdd (eBin gMul (eK (.int 7)) (eVar 4)) (eBin gMod (eBin gIx (eVar 0) (eK (.int 1))) (eK (.int 7)))))) (sIf (tVal (eBin gEq (eVar 2) (eK (.int 3)))) (sSet 3 (eRgL .lst (eBin gMod (eBin gIx (eVar 0) (eK (.int 1))) (eVar 1)) (eBin gAdd (eBin gAdd (eBin gMod (eBin gIx (eVar 0) (eK (.int 1))) (eVar 1)) (eK (.int 1))) (eBin gMod (eBin gIx (eVar 0) (eK (.int 2))) (eK (.int 40)))))) sNil))) (sRet (eUn gSS (eLc [5] (iSeq (eVar 3)) (gNm 5) (tVal (eBin gLt (eVar 5) (eK (.int 10000)))) (eVar 5)))))))
def phi__law_some_calendar : List D → Res D := run F__law_some_calendar 6
def F__law_tariff : List Nat → Ev → Out := (sSeq (sSet 1 (eArgs gLstD (aCons (eK (.int 1)) aNil))) (sSeq (sFor (iRg (aCons (eBin gMod (eBin gIx (eVar 0) (eK (.int 0))) (eK (.int 8))) aNil)) (gNm 2) (sSeq (sSet 3 (eBin gAdd (eK (.int 2)) (eBin gIx (eArgs gLstD (aCons (eBin gMod (eBin gIx (eVar 0) (eBin gAdd (eK (.int 1)) (eVar 2))) (eK (.int 5))) (aCons (eBin gMod (eBin gIx (eVar 0) (eBin gAdd (eK (.int 1)) (eVar 2))) (eK (.int 40))) (aCons (eBin gMod (eBin gMul (eBin gIx (eVar 0) (eBin gAdd (eK (.int 1)) (eVar 2))) (eK (.int 2))) (eK (.int 9998))) (aCons (eBin gSub (eK (.int 9997)) (eVar 2)) aNil))))) (eBin gMod (eBin gIx (eVar 0) (eK (.int 9))) (eK (.int 4)))))) (sIf (tVal (eBin gNotIn (eVar 3) (eVar 1))) (sApp 1 (eVar 3)) sNil))) (sRet (eLc [3] (iSeq (eArgs gSorted (aCons (eVar 1) aNil))) (gNm 3) tT (eArgs gTupD (aCons (eVar 3) (aCons (eBin gMod (eBin gIx (eArgs gLstD (aCons (eBin gMod (eBin gIx (eVar 0) (eK (.int 10))) (eK (.int 9))) (aCons (eBin gMul (eBin gIx (eVar 0) (eK (.int 10))) (eVar 3)) (aCons (eK (.int 9999)) (aCons (eK (.int 0)) (aCons (eVar 3) aNil)))))) (eBin gMod (eArgs gInt (aCons (eBin gAdd (eBin gIx (eVar 0) (eK (.int 11))) (eVar 3)) aNil)) (eK (.int 5)))) (eK (.int 10000))) aNil)))))))
def phi__law_tariff : List D → Res D := run F__law_tariff 4
def F__law_visits : List Nat → Ev → Out := (sSeq (sSet 3 (eVar 1)) (sSeq (sSet 4 (eArgs gLstD aNil)) (sSeq (sFor (iRg (aCons (eVar 2) aNil)) (gNm 5) (sSeq (sSet 6 (eArgs gMin (aCons (eK (.int 9999)) (aCons (eBin gAdd (eVar 3) (eBin gIx (eArgs gLstD (aCons (eK (.int 0)) (aCons (eBin gMod (eBin gIx (eVar 0) (eVar 5)) (eK (.int 12))) (aCons (eBin gMod (eBin gIx (eVar 0) (eVar 5)) (eK (.int 200))) aNil)))) (eBin gMod (eBin gFdiv (eBin gIx (eVar 0) (eVar 5)) (eK (.int 200))) (eK (.int 3))))) aNil)))) (sSeq (sSet 7 (eArgs gMin (aCons (eK (.int 9999)) (aCons (eBin gAdd (eVar 6) (eBin gIx (eArgs gLstD (aCons (eK (.int 0)) (aCons (eBin gMod (eBin gIx (eVar 0) (eBin gAdd (eVar 5) (eK (.int 1)))) (eK (.int 15))) (aCons (eBin gMod (eBin gIx (eVar 0) (eBin gAdd (eVar 5) (eK (.int 1)))) (eK (.int 300))) aNil)))) (eBin gMod (eBin gFdiv (eBin gIx (eVar 0) (eBin gAdd (eVar 5) (eK (.int 1)))) (eK (.int 300))) (eK (.int 3))))) aNil)))) (sSeq (sApp 4 (eArgs gTupD (aCons (eVar 6) (aCons (eVar 7) aNil)))) (sSet 3 (eVar 7)))))) (sSeq (sIf (tAndB (tVal (eBin gGt (eVar 2) (eK (.int 0)))) (tVal (eBin gEq (eBin gMod (eBin gIx (eVar 0) (eK (.int 13))) (eK (.int 3))) (eK (.int 0))))) (sSub 4 (eBin gSub (eVar 2) (eK (.int 1))) (eArgs gTupD (aCons (eBin gIx (eBin gIx (eVar 4) (eBin gSub (eVar 2) (eK (.int 1)))) (eK (.int 0))) (aCons (eK .non) aNil)))) sNil) (sRetV 4)))))
def phi__law_visits : List D → Res D := run F__law_visits 8
def F_open_days : List Nat → Ev → Out := (sSeq (sIf (tVal (eBin gLe (eVar 2) (eVar 1))) (sRet (eK (.int 0))) sNil) (sRet (eBin gSub (eBin gSub (eVar 2) (eVar 1)) (eArgs gLen (aCons (eLc [3] (iSeq (eVar 0)) (gNm 3) (tVal (eCh gLe gLt (eVar 1) (eVar 3) (eVar 2))) (eVar 3)) aNil)))))
def phi_open_days : List D → Res D := run F_open_days 4
def F_away_days : List Nat → Ev → Out := (sSeq (sAsgG (gTp (gC (gNm 5) (gC (gNm 6) gN0))) (eVar 1)) (sSeq (sSet 4 (eIf (tVal (eBin gIsN (eVar 6) (eK .non))) (eVar 3) (eArgs gMin (aCons (eVar 3) (aCons (eVar 6) aNil))))) (sRet (eCall phi_open_days 3 (aCons (eVar 0) (aCons (eArgs gMax (aCons (eVar 2) (aCons (eVar 5) aNil))) (aCons (eVar 4) aNil)))))))
def phi_away_days : List D → Res D := run F_away_days 7
def F_counted : List Nat → Ev → Out := (sRet (eBin gSub (eCall phi_open_days 3 (aCons (eVar 0) (aCons (eVar 1) (aCons (eVar 3) aNil)))) (eArgs gSum (aCons (eLc [4] (iSeq (eVar 2)) (gNm 4) tT (eCall phi_away_days 4 (aCons (eVar 0) (aCons (eVar 4) (aCons (eVar 1) (aCons (eVar 3) aNil)))))) aNil))))
def phi_counted : List D → Res D := run F_counted 5
def F_holds_on : List Nat → Ev → Out := (sRet (eBin gLt (eCall phi_counted 4 (aCons (eVar 0) (aCons (eVar 2) (aCons (eVar 3) (aCons (eVar 4) aNil))))) (eVar 1)))
def phi_holds_on : List D → Res D := run F_holds_on 5
def F_end_of : List Nat → Ev → Out := (sSeq (sSet 4 (eK (.int 10400))) (sSeq (sIf (tAndB (tTru (eVar 3)) (tVal (eBin gIsN (eBin gIx (eBin gIx (eVar 3) (eUn gNeg (eK (.int 1)))) (eK (.int 1))) (eK .non)))) (sSet 4 (eBin gIx (eBin gIx (eVar 3) (eUn gNeg (eK (.int 1)))) (eK (.int 0)))) sNil) (sSeq (sIf (tTru (eCall phi_holds_on 5 (aCons (eVar 0) (aCons (eVar 1) (aCons (eVar 2) (aCons (eVar 3) (aCons (eVar 4) aNil))))))) (sRet (eK .non)) sNil) (sSeq (sSet 5 (eVar 2)) (sSeq (sWhile (tVal (eBin gLt (eVar 5) (eVar 4))) (sSeq (sSet 6 (eBin gFdiv (eBin gAdd (eVar 5) (eVar 4)) (eK (.int 2)))) (sIf (tTru (eCall phi_holds_on 5 (aCons (eVar 0) (aCons (eVar 1) (aCons (eVar 2) (aCons (eVar 3) (aCons (eVar 6) aNil))))))) (sSet 5 (eBin gAdd (eVar 6) (eK (.int 1)))) (sSet 4 (eVar 6))))) (sRetV 5))))))
def phi_end_of : List D → Res D := run F_end_of 7
def F_free_visits : List Nat → Ev → Out := (sRet (eLc [4, 5] (iSeq (eVar 3)) (gTp (gC (gNm 4) (gC (gNm 5) gN0))) tT (eCall phi_holds_on 5 (aCons (eVar 0) (aCons (eVar 1) (aCons (eVar 2) (aCons (eVar 3) (aCons (eVar 4) aNil))))))))
def phi_free_visits : List D → Res D := run F_free_visits 6
def F_price_of : List Nat → Ev → Out := (sSeq (sSet 2 (eK (.int 0))) (sSeq (sFor (iEn (eVar 0)) (gTp (gC (gNm 3) (gC (gTp (gC (gNm 5) (gC (gNm 6) gN0))) gN0))) (sSeq (sSet 4 (eVar 1)) (sSeq (sIf (tVal (eBin gLt (eBin gAdd (eVar 3) (eK (.int 1))) (eArgs gLen (aCons (eVar 0) aNil)))) (sSet 4 (eArgs gMin (aCons (eVar 1) (aCons (eBin gSub (eBin gIx (eBin gIx (eVar 0) (eBin gAdd (eVar 3) (eK (.int 1)))) (eK (.int 0))) (eK (.int 1))) aNil)))) sNil) (sSet 2 (eBin gIAdd (eVar 2) (eBin gMul (eArgs gMax (aCons (eK (.int 0)) (aCons (eBin gAdd (eBin gSub (eVar 4) (eVar 5)) (eK (.int 1))) aNil))) (eVar 6))))))) (sRetV 2)))
def phi_price_of : List D → Res D := run F_price_of 7
def F_most_for : List Nat → Ev → Out := (sSeq (sSet 2 (eK (.int 0))) (sSeq (sSet 3 (eK (.int 1000000000))) (sSeq (sWhile (tVal (eBin gLt (eVar 2) (eVar 3))) (sSeq (sSet 4 (eBin gFdiv (eBin gAdd (eBin gAdd (eVar 2) (eVar 3)) (eK (.int 1))) (eK (.int 2)))) (sIf (tVal (eBin gLe (eCall phi_price_of 2 (aCons (eVar 0) (aCons (eVar 4) aNil))) (eVar 1))) (sSet 2 (eVar 4)) (sSet 3 (eBin gSub (eVar 4) (eK (.int 1))))))) (sRetV 2))))
def phi_most_for : List D → Res D := run F_most_for 5
def F_law : List Nat → Ev → Out := (sSeq (sFor (iRg (aCons (eK (.int 2)) aNil)) (gNm 1) (sSeq (sSet 2 (eCall phi__law_numbers 3 (aCons (eCall phi__law_cell 2 (aCons (eVar 0) (aCons (eVar 1) aNil))) (aCons (eK (.int 70)) (aCons (eK (.int 5040)) aNil))))) (sSeq (sSet 3 (eCall phi__law_tariff 1 (aCons (eVar 2) aNil))) (sSeq (sSet 4 (eArgs gList (aCons (eVar 3) aNil))) (sSeq (sSet 5 (eCall phi__law_numbers 3 (aCons (eCall phi__law_cell 2 (aCons (eVar 0) (aCons (eBin gAdd (eK (.int 2)) (eVar 1)) aNil))) (aCons (eK (.int 6)) (aCons (eBin gAdd (eBin gPow (eK (.int 10)) (eK (.int 9))) (eK (.int 1))) aNil))))) (sSeq (sSet 6 (eArgs gLstD (aCons (eK (.int 0)) (aCons (eK (.int 1)) (aCons (eK (.int 2)) (aCons (eBin gPow (eK (.int 10)) (eK (.int 9))) (aCons (eBin gIx (eVar 5) (eK (.int 0))) (aCons (eBin gIx (eVar 5) (eK (.int 1))) (aCons (eBin gIx (eVar 2) (eK (.int 14))) aNil))))))))) (sSeq (sFor (iSeq (eVar 3)) (gTp (gC (gNm 10) (gC (gNm 11) gN0))) (sSet 6 (eBin gAdd (eVar 6) (eArgs gLstD (aCons (eBin gSub (eVar 10) (eK (.int 1))) (aCons (eVar 10) (aCons (eBin gAdd (eVar 10) (eK (.int 1))) aNil))))))) (sSeq (sFor (iSeq (eVar 6)) (gNm 7) (sSeq (sSet 12 (eCall phi__law_price 2 (aCons (eVar 3) (aCons (eVar 7) aNil)))) (sSeq (sIf (tNotB (tTru (eCall phi__law_same 2 (aCons (eCall phi_price_of 2 (aCons (eVar 3) (aCons (eVar 7) aNil))) (aCons (eVar 12) aNil))))) (sRet (eK (.bl false))) sNil) (sFor (iSeq (eArgs gLstD (aCons (eVar 12) (aCons (eBin gAdd (eVar 12) (eK (.int 1))) (aCons (eArgs gMax (aCons (eK (.int 0)) (aCons (eBin gSub (eVar 12) (eK (.int 1))) aNil))) aNil))))) (gNm 8) (sIf (tNotB (tTru (eCall phi__law_is_most 3 (aCons (eVar 3) (aCons (eVar 8) (aCons (eCall phi_most_for 2 (aCons (eVar 3) (aCons (eVar 8) aNil))) aNil)))))) (sRet (eK (.bl false))) sNil))))) (sSeq (sFor (iSeq (eArgs gLstD (aCons (eK (.int 0)) (aCons (eK (.int 1)) (aCons (eBin gIx (eVar 5) (eK (.int 2))) (aCons (eBin gMul (eBin gIx (eVar 5) (eK (.int 3))) (eK (.int 9999))) (aCons (eBin gPow (eK (.int 10)) (eK (.int 20))) aNil))))))) (gNm 8) (sIf (tNotB (tTru (eCall phi__law_is_most 3 (aCons (eVar 3) (aCons (eVar 8) (aCons (eCall phi_most_for 2 (aCons (eVar 3) (aCons (eVar 8) aNil))) aNil)))))) (sRet (eK (.bl false))) sNil)) (sSeq (sFor (iRg (aCons (eK (.int 2)) aNil)) (gNm 9) (sSeq (sSet 13 (eBin gIx (eArgs gLstD (aCons (eK (.int 0)) (aCons (eBin gMod (eBin gIx (eVar 2) (eBin gAdd (eK (.int 15)) (eVar 9))) (eK (.int 300))) (aCons (eK (.int 9999)) (aCons (eBin gAdd (eK (.int 9900)) (eBin gMod (eBin gIx (eVar 2) (eBin gAdd (eK (.int 15)) (eVar 9))) (eK (.int 100)))) (aCons (eBin gMod (eBin gMul (eBin gIx (eVar 2) (eBin gAdd (eK (.int 15)) (eVar 9))) (eK (.int 2))) (eK (.int 10000))) aNil)))))) (eBin gMod (eBin gIx (eVar 2) (eBin gAdd (eK (.int 17)) (eVar 9))) (eK (.int 5))))) (sSeq (sSet 14 (eBin gIx (eArgs gLstD (aCons (eK (.int 0)) (aCons (eK (.int 1)) (aCons (eK (.int 400)) (aCons (eBin gMod (eBin gIx (eVar 2) (eBin gAdd (eK (.int 19)) (eVar 9))) (eK (.int 401))) (aCons (eBin gMod (eBin gIx (eVar 2) (eBin gAdd (eK (.int 19)) (eVar 9))) (eK (.int 20))) aNil)))))) (eBin gMod (eBin gIx (eVar 2) (eBin gAdd (eK (.int 21)) (eVar 9))) (eK (.int 5))))) (sSeq (sSet 15 (eCall phi__law_some_calendar 2 (aCons (eSl (eVar 2) (oS (eBin gAdd (eK (.int 23)) (eVar 9))) oN) (aCons (eBin gIx (eArgs gLstD (aCons (eK (.int 40)) (aCons (eK (.int 300)) (aCons (eK (.int 9999)) aNil)))) (eBin gMod (eBin gIx (eVar 2) (eBin gAdd (eK (.int 27)) (eVar 9))) (eK (.int 3)))) aNil)))) (sSeq (sSet 16 (eCall phi__law_visits 3 (aCons (eSl (eVar 2) (oS (eBin gAdd (eK (.int 30)) (eBin gMul (eK (.int 15)) (eVar 9)))) oN) (aCons (eVar 13) (aCons (eBin gMod (eBin gIx (eVar 2) (eBin gSub (eK (.int 29)) (eVar 9))) (eK (.int 13))) aNil))))) (sSeq (sSet 17 (eArgs gRepr (aCons (eArgs gLstD (aCons (eVar 15) (aCons (eVar 16) aNil))) aNil))) (sSeq (sSet 18 (eCall phi__law_counts 3 (aCons (eVar 15) (aCons (eVar 13) (aCons (eVar 16) aNil))))) (sSeq (sSet 19 (eArgs gLstD (aCons (eVar 13) (aCons (eBin gAdd (eVar 13) (eK (.int 1))) (aCons (eBin gAdd (eVar 13) (eVar 14)) (aCons (eBin gAdd (eBin gAdd (eVar 13) (eVar 14)) (eBin gMod (eBin gIx (eVar 2) (eK (.int 60))) (eK (.int 60)))) aNil)))))) (sSeq (sFor (iSeq (eBin gAdd (eBin gAdd (eBin gAdd (eVar 19) (eArgs gLstD (aCons (eK (.int 9999)) (aCons (eK (.int 10000)) (aCons (eK (.int 20000)) aNil))))) (eLc [24] (iSeq (eVar 16)) (gNm 24) tT (eBin gIx (eVar 24) (eK (.int 0))))) (eLc [24] (iSeq (eVar 16)) (gNm 24) (tVal (eBin gNotN (eBin gIx (eVar 24) (eK (.int 1))) (eK .non))) (eBin gIx (eVar 24) (eK (.int 1)))))) (gNm 20) (sIf (tAndB (tVal (eBin gGe (eVar 20) (eVar 13))) (tNotB (tTru (eCall phi__law_same 2 (aCons (eCall phi_holds_on 5 (aCons (eVar 15) (aCons (eVar 14) (aCons (eVar 13) (aCons (eVar 16) (aCons (eVar 20) aNil)))))) (aCons (eBin gLt (eBin gIx (eVar 18) (eVar 20)) (eVar 14)) aNil)))))) (sRet (eK (.bl false))) sNil)) (sSeq (sSet 21 (eLc [20] (iRg (aCons (eVar 13) (aCons (eK (.int 20001)) aNil))) (gNm 20) (tVal (eBin gGe (eBin gIx (eVar 18) (eVar 20)) (eVar 14))) (eVar 20))) (sSeq (sSet 22 (eBin gIx (eBin gAdd (eSl (eVar 21) (oS (eK (.int 0))) (oS (eK (.int 1)))) (eArgs gLstD (aCons (eK .non) aNil))) (eK (.int 0)))) (sSeq (sIf (tNotB (tTru (eCall phi__law_same 2 (aCons (eCall phi_end_of 4 (aCons (eVar 15) (aCons (eVar 14) (aCons (eVar 13) (aCons (eVar 16) aNil))))) (aCons (eVar 22) aNil))))) (sRet (eK (.bl false))) sNil) (sSeq (sSet 23 (eK (.bl false))) (sSeq (sIf (tAndB (tVal (eBin gGt (eArgs gLen (aCons (eVar 16) aNil)) (eK (.int 0)))) (tVal (eBin gIsN (eBin gIx (eBin gIx (eVar 16) (eBin gSub (eArgs gLen (aCons (eVar 16) aNil)) (eK (.int 1)))) (eK (.int 1))) (eK .non)))) (sSet 23 (eBin gLt (eBin gIx (eVar 18) (eBin gIx (eBin gIx (eVar 16) (eBin gSub (eArgs gLen (aCons (eVar 16) aNil)) (eK (.int 1)))) (eK (.int 0)))) (eVar 14))) sNil) (sSeq (sIf (tVal (eBin gNe (eBin gIsN (eVar 22) (eK .non)) (eVar 23))) (sRet (eK (.bl false))) sNil) (sIf (tOrB (tNotB (tTru (eCall phi__law_same 2 (aCons (eCall phi_free_visits 4 (aCons (eVar 15) (aCons (eVar 14) (aCons (eVar 13) (aCons (eVar 16) aNil))))) (aCons (eLc [25, 26] (iSeq (eVar 16)) (gTp (gC (gNm 25) (gC (gNm 26) gN0))) tT (eBin gLt (eBin gIx (eVar 18) (eVar 25)) (eVar 14))) aNil))))) (tVal (eBin gNe (eArgs gRepr (aCons (eArgs gLstD (aCons (eVar 15) (aCons (eVar 16) aNil))) aNil)) (eVar 17)))) (sRet (eK (.bl false))) sNil)))))))))))))))) (sIf (tVal (eBin gNe (eVar 3) (eVar 4))) (sRet (eK (.bl false))) sNil))))))))))) (sRet (eK (.bl true))))
def phi_law : List D → Res D := run F_law 27
end
/-! ### the walk -/
section
variable {P : Program} {w : World} {K : PySem.W.Frag} {mg : Str → Option Value} {base : Heap}
theorem has__law_cell (Z : Zs mg) (Y : Ys K mg) : Has P w K mg base "_law_cell" phi__law_cell 2 1 := by
  obtain ⟨f, fd, Fn, hm⟩ := Y.y__law_cell
  refine ⟨f, fd, ["script", "k"], hm, Fn.kp, (Fn.binds fun _ _ _ _ _ _ us hl => match us, hl with | [_, _], _ => rfl), run_ok (x := "_law_cell") (F := F__law_cell) Fn sc__law_cell rfl (fun ds _ => rfl) fun cdv A outer s H E hr => ?_⟩
  have hF : Fam P w K mg base ["script", "k"] 0 (fun _ : Unit => cxOf (L2.CX P w) P w K mg base ["script", "k"] "_law_cell" (defScope s__law_cell) f cdv A outer s H E) := ⟨fun _ => rfl, fun _ => rfl, fun _ => rfl, fun _ => rfl, fun _ => rfl, fun _ => rfl, sc__law_cell.nd, fun _ => rfl, fun _ => hr⟩
  exact (vss_cons (vs_if (vt_cmp (fun _ => op_lt) prim_lt (ve_var (i := 1)) (ve_callB hF (fun i => call_lenAll) prim_len (fun _ => rfl) Z.z_len bt_len (va_cons (ve_var (i := 0)) va_nil))) (vss_one (vs_ret (ve_callTy hF (fun i => call_int1) prim_int (fun _ => rfl) Z.z_int bt_int (va_cons (ve_ix (fun i => ix_all (hF.u65 i)) prim_ix (ve_var (i := 0)) (ve_var (i := 1))) va_nil)))) vss_nil) (vss_one (vs_ret ve_int)))
theorem has__law_counts (Z : Zs mg) (Y : Ys K mg) : Has P w K mg base "_law_counts" phi__law_counts 3 1 := by
  obtain ⟨f, fd, Fn, hm⟩ := Y.y__law_counts
  refine ⟨f, fd, ["closed", "begin", "visits"], hm, Fn.kp, (Fn.binds fun _ _ _ _ _ _ us hl => match us, hl with | [_, _, _], _ => rfl), run_ok (x := "_law_counts") (F := F__law_counts) Fn sc__law_counts rfl (fun ds _ => rfl) fun cdv A outer s H E hr => ?_⟩
  have hF : Fam P w K mg base ["closed", "begin", "visits", "shut", "day", "found", "total", "brought", "back", "stop"] 0 (fun _ : Unit => cxOf (L2.CX P w) P w K mg base ["closed", "begin", "visits", "shut", "day", "found", "total", "brought", "back", "stop"] "_law_counts" (defScope s__law_counts) f cdv A outer s H E) := ⟨fun _ => rfl, fun _ => rfl, fun _ => rfl, fun _ => rfl, fun _ => rfl, fun _ => rfl, sc__law_counts.nd, fun _ => rfl, fun _ => hr⟩
  exact (vss_cons (vs_set (i := 3) hF ve_dnewK) (vss_cons (vs_for hF (fun _ => PassesOwn.leaving) (vi_seq hF (ve_var (i := 0))) (vg_name (i := 4) hF) (vss_one (vs_sub (i := 3) hF (ve_var (i := 4)) ve_bl))) (vss_cons (vs_for hF (fun _ => PassesOwn.leaving) (vi_seq hF (ve_var (i := 2))) (vg_tup hF (vgs_cons (vg_name (i := 7) hF) (vgs_cons (vg_name (i := 8) hF) vgs_nil)) (gC_len (gC_len gN0_len))) (vss_cons (vs_set (i := 9) hF ve_int) (vss_cons (vs_if (vt_cmp (fun _ => op_notN) prim_notN (ve_var (i := 8)) ve_non) (vss_one (vs_set (i := 9) hF (ve_var (i := 8)))) vss_nil) (vss_one (vs_for hF (fun _ => PassesOwn.leaving) (vi_range2 hF (fun _ => rfl) Z.z_range (ve_var (i := 7)) (ve_var (i := 9))) (vg_name (i := 4) hF) (vss_one (vs_sub (i := 3) hF (ve_var (i := 4)) ve_bl))))))) (vss_cons (vs_set (i := 5) hF ve_dnewK) (vss_cons (vs_set (i := 6) hF ve_int) (vss_cons (vs_for hF (fun _ => PassesOwn.leaving) (vi_range2 hF (fun _ => rfl) Z.z_range (ve_var (i := 1)) ve_int) (vg_name (i := 4) hF) (vss_cons (vs_sub (i := 5) hF (ve_var (i := 4)) (ve_var (i := 6))) (vss_one (vs_set (i := 6) hF (ve_op (fun _ => op_addAll) prim_add (ve_var (i := 6)) (ve_callTy hF (fun i => call_int1) prim_int (fun _ => rfl) Z.z_int bt_int (va_cons (ve_cmp (fun i => op_notInAll (hF.u65 i)) prim_notIn (ve_var (i := 4)) (ve_var (i := 3))) va_nil))))))) (vss_one (vs_retV (i := 5)))))))))
theorem has__law_price (Z : Zs mg) (Y : Ys K mg) : Has P w K mg base "_law_price" phi__law_price 2 1 := by
  obtain ⟨f, fd, Fn, hm⟩ := Y.y__law_price
  refine ⟨f, fd, ["tariff", "count"], hm, Fn.kp, (Fn.binds fun _ _ _ _ _ _ us hl => match us, hl with | [_, _], _ => rfl), run_ok (x := "_law_price") (F := F__law_price) Fn sc__law_price rfl (fun ds _ => rfl) fun cdv A outer s H E hr => ?_⟩
  have hF : Fam P w K mg base ["tariff", "count", "total", "k", "stop"] 0 (fun _ : Unit => cxOf (L2.CX P w) P w K mg base ["tariff", "count", "total", "k", "stop"] "_law_price" (defScope s__law_price) f cdv A outer s H E) := ⟨fun _ => rfl, fun _ => rfl, fun _ => rfl, fun _ => rfl, fun _ => rfl, fun _ => rfl, sc__law_price.nd, fun _ => rfl, fun _ => hr⟩
  exact (vss_cons (vs_set (i := 2) hF ve_int) (vss_cons (vs_for hF (fun _ => PassesOwn.leaving) (vi_range1 hF (fun _ => rfl) Z.z_range (ve_callB hF (fun i => call_lenAll) prim_len (fun _ => rfl) Z.z_len bt_len (va_cons (ve_var (i := 0)) va_nil))) (vg_name (i := 3) hF) (vss_cons (vs_set (i := 4) hF (ve_op (fun _ => op_addAll) prim_add (ve_var (i := 1)) ve_int)) (vss_cons (vs_if (vt_cmp (fun _ => op_lt) prim_lt (ve_op (fun _ => op_addAll) prim_add (ve_var (i := 3)) ve_int) (ve_callB hF (fun i => call_lenAll) prim_len (fun _ => rfl) Z.z_len bt_len (va_cons (ve_var (i := 0)) va_nil))) (vss_one (vs_set (i := 4) hF (ve_callB hF (fun i => call_minAll (hF.calm i)) prim_min (fun _ => rfl) Z.z_min bt_min (va_cons (ve_var (i := 4)) (va_cons (ve_ix (fun i => ix_all (hF.u65 i)) prim_ix (ve_ix (fun i => ix_all (hF.u65 i)) prim_ix (ve_var (i := 0)) (ve_op (fun _ => op_addAll) prim_add (ve_var (i := 3)) ve_int)) ve_int) va_nil))))) vss_nil) (vss_one (vs_if (vt_cmp (fun _ => op_gt) prim_gt (ve_var (i := 4)) (ve_ix (fun i => ix_all (hF.u65 i)) prim_ix (ve_ix (fun i => ix_all (hF.u65 i)) prim_ix (ve_var (i := 0)) (ve_var (i := 3))) ve_int)) (vss_one (vs_set (i := 2) hF (ve_op (fun _ => op_addAll) prim_add (ve_var (i := 2)) (ve_op (fun _ => op_mulAll) prim_mul (ve_op (fun _ => op_sub) prim_sub (ve_var (i := 4)) (ve_ix (fun i => ix_all (hF.u65 i)) prim_ix (ve_ix (fun i => ix_all (hF.u65 i)) prim_ix (ve_var (i := 0)) (ve_var (i := 3))) ve_int)) (ve_ix (fun i => ix_all (hF.u65 i)) prim_ix (ve_ix (fun i => ix_all (hF.u65 i)) prim_ix (ve_var (i := 0)) (ve_var (i := 3))) ve_int))))) vss_nil))))) (vss_one (vs_retV (i := 2)))))
theorem has__law_is_most (Z : Zs mg) (Y : Ys K mg) : Has P w K mg base "_law_is_most" phi__law_is_most 3 2 := by
  obtain ⟨f, fd, Fn, hm⟩ := Y.y__law_is_most
  refine ⟨f, fd, ["tariff", "money", "most"], hm, Fn.kp, (Fn.binds fun _ _ _ _ _ _ us hl => match us, hl with | [_, _, _], _ => rfl), run_ok (x := "_law_is_most") (F := F__law_is_most) Fn sc__law_is_most rfl (fun ds _ => rfl) fun cdv A outer s H E hr => ?_⟩
  have hF : Fam P w K mg base ["tariff", "money", "most"] 1 (fun _ : Unit => cxOf (L2.CX P w) P w K mg base ["tariff", "money", "most"] "_law_is_most" (defScope s__law_is_most) f cdv A outer s H E) := ⟨fun _ => rfl, fun _ => rfl, fun _ => rfl, fun _ => rfl, fun _ => rfl, fun _ => rfl, sc__law_is_most.nd, fun _ => rfl, fun _ => hr⟩
  exact (vss_cons (vs_if (VW.vt (vw_or (vt_not (vt_truth hF (ve_callB hF (fun i => call_isi) prim_isi (fun _ => rfl) Z.z_isinstance bt_isinstance (va_cons (ve_var (i := 2)) (va_cons (ve_ty hF (fun _ => rfl) Z.z_int bt_int) va_nil))))) (vw_or (vt_truth hF (ve_callB hF (fun i => call_isi) prim_isi (fun _ => rfl) Z.z_isinstance bt_isinstance (va_cons (ve_var (i := 2)) (va_cons (ve_ty hF (fun _ => rfl) Z.z_bool bt_bool) va_nil)))) (vw_or (vt_cmp (fun _ => op_lt) prim_lt (ve_var (i := 2)) ve_int) (vw_or (vt_cmp (fun _ => op_gt) prim_gt (ve_var (i := 2)) (ve_op (fun _ => op_pow) prim_pow ve_int ve_int)) (vw_or1 (vt_cmp (fun _ => op_gt) prim_gt (ve_call hF ((has__law_price Z Y).mono (by omega)) (fun _ => rfl) (va_cons (ve_var (i := 0)) (va_cons (ve_var (i := 2)) va_nil))) (ve_var (i := 1))))))))) (vss_one (vs_ret ve_bl)) vss_nil) (vss_one (vs_ret (ve_or hF (ve_cmp (fun i => op_eqA (hF.u64 i)) prim_eq (ve_var (i := 2)) (ve_op (fun _ => op_pow) prim_pow ve_int ve_int)) (ve_one (ve_cmp (fun _ => op_gt) prim_gt (ve_call hF ((has__law_price Z Y).mono (by omega)) (fun _ => rfl) (va_cons (ve_var (i := 0)) (va_cons (ve_op (fun _ => op_addAll) prim_add (ve_var (i := 2)) ve_int) va_nil))) (ve_var (i := 1))))))))
theorem has__law_numbers (Z : Zs mg) (Y : Ys K mg) : Has P w K mg base "_law_numbers" phi__law_numbers 3 1 := by
  obtain ⟨f, fd, Fn, hm⟩ := Y.y__law_numbers
  refine ⟨f, fd, ["cell", "count", "limit"], hm, Fn.kp, (Fn.binds fun _ _ _ _ _ _ us hl => match us, hl with | [_, _, _], _ => rfl), run_ok (x := "_law_numbers") (F := F__law_numbers) Fn sc__law_numbers rfl (fun ds _ => rfl) fun cdv A outer s H E hr => ?_⟩
  have hF : Fam P w K mg base ["cell", "count", "limit", "found", "k", "mixed"] 0 (fun _ : Unit => cxOf (L2.CX P w) P w K mg base ["cell", "count", "limit", "found", "k", "mixed"] "_law_numbers" (defScope s__law_numbers) f cdv A outer s H E) := ⟨fun _ => rfl, fun _ => rfl, fun _ => rfl, fun _ => rfl, fun _ => rfl, fun _ => rfl, sc__law_numbers.nd, fun _ => rfl, fun _ => hr⟩
  exact (vss_cons (vs_set (i := 3) hF (ve_lst va_nil)) (vss_cons (vs_if (vt_cmp (fun _ => op_ge) prim_ge (ve_var (i := 0)) (ve_op (fun _ => op_pow) prim_pow ve_int ve_int)) (vss_cons (vs_for hF (fun _ => PassesOwn.leaving) (vi_range1 hF (fun _ => rfl) Z.z_range (ve_var (i := 1))) (vg_name (i := 4) hF) (vss_cons (vs_append (i := 3) hF (ve_op (fun _ => op_modN) prim_mod (ve_callTy hF (fun i => call_int1) prim_int (fun _ => rfl) Z.z_int bt_int (va_cons (ve_var (i := 0)) va_nil)) (ve_var (i := 2)))) (vss_one (vs_set (i := 0) hF (ve_op (fun _ => op_fdivN) prim_fdiv (ve_callTy hF (fun i => call_int1) prim_int (fun _ => rfl) Z.z_int bt_int (va_cons (ve_var (i := 0)) va_nil)) (ve_var (i := 2))))))) (vss_one (vs_retV (i := 3)))) vss_nil) (vss_cons (vs_for hF (fun _ => PassesOwn.leaving) (vi_range1 hF (fun _ => rfl) Z.z_range (ve_var (i := 1))) (vg_name (i := 4) hF) (vss_cons (vs_set (i := 5) hF (ve_op (fun _ => op_modN) prim_mod (ve_callTy hF (fun i => call_int1) prim_int (fun _ => rfl) Z.z_int bt_int (va_cons (ve_op (fun _ => op_addAll) prim_add (ve_op (fun _ => op_addAll) prim_add (ve_op (fun _ => op_mulAll) prim_mul (ve_var (i := 0)) ve_int) (ve_op (fun _ => op_mulAll) prim_mul (ve_var (i := 4)) ve_int)) ve_int) va_nil)) ve_int)) (vss_cons (vs_set (i := 5) hF (ve_op (fun _ => op_modN) prim_mod (ve_callTy hF (fun i => call_int1) prim_int (fun _ => rfl) Z.z_int bt_int (va_cons (ve_op (fun _ => op_addAll) prim_add (ve_op (fun _ => op_addAll) prim_add (ve_op (fun _ => op_addAll) prim_add (ve_op (fun _ => op_mulAll) prim_mul (ve_var (i := 5)) (ve_var (i := 5))) (ve_op (fun _ => op_mulAll) prim_mul (ve_var (i := 5)) ve_int)) (ve_op (fun _ => op_mulAll) prim_mul (ve_var (i := 4)) ve_int)) ve_int) va_nil)) ve_int)) (vss_one (vs_append (i := 3) hF (ve_op (fun _ => op_modN) prim_mod (ve_callTy hF (fun i => call_int1) prim_int (fun _ => rfl) Z.z_int bt_int (va_cons (ve_op (fun _ => op_fdivN) prim_fdiv (ve_var (i := 5)) ve_int) va_nil)) (ve_var (i := 2)))))))) (vss_one (vs_retV (i := 3))))))
theorem hrec__law_same (Z : Zs mg) (Y : Ys K mg) : ∀ n : Nat, Has P w K mg base "_law_same" (rec__law_same n) 2 (0 + n) := by
  have stp : ∀ n : Nat, Has P w K mg base "_law_same" (rec__law_same n) 2 (0 + n) → Has P w K mg base "_law_same" (rec__law_same (n + 1)) 2 (0 + n + 1) := by
    intro n hrec
    obtain ⟨f, fd, Fn, hm⟩ := Y.y__law_same
    refine ⟨f, fd, ["told", "due"], hm, Fn.kp, (Fn.binds fun _ _ _ _ _ _ us hl => match us, hl with | [_, _], _ => rfl), run_ok (x := "_law_same") (F := F__law_same (rec__law_same n)) Fn sc__law_same rfl (fun ds _ => rfl) fun cdv A outer s H E hr => ?_⟩
    have hF : Fam P w K mg base ["told", "due", "k"] (0 + n) (fun _ : Unit => cxOf (L2.CX P w) P w K mg base ["told", "due", "k"] "_law_same" (defScope s__law_same) f cdv A outer s H E) := ⟨fun _ => rfl, fun _ => rfl, fun _ => rfl, fun _ => rfl, fun _ => rfl, fun _ => rfl, sc__law_same.nd, fun _ => rfl, fun _ => hr⟩
    exact (vss_cons (vs_if (vt_truth hF (ve_callB hF (fun i => call_isi) prim_isi (fun _ => rfl) Z.z_isinstance bt_isinstance (va_cons (ve_var (i := 1)) (va_cons (ve_ty hF (fun _ => rfl) Z.z_list bt_list) va_nil)))) (vss_one (vs_if (VW.vt (vw_or (vt_not (vt_truth hF (ve_callB hF (fun i => call_isi) prim_isi (fun _ => rfl) Z.z_isinstance bt_isinstance (va_cons (ve_var (i := 0)) (va_cons (ve_ty hF (fun _ => rfl) Z.z_list bt_list) va_nil))))) (vw_or1 (vt_cmp (fun i => op_neA (hF.u64 i)) prim_ne (ve_callB hF (fun i => call_lenAll) prim_len (fun _ => rfl) Z.z_len bt_len (va_cons (ve_var (i := 0)) va_nil)) (ve_callB hF (fun i => call_lenAll) prim_len (fun _ => rfl) Z.z_len bt_len (va_cons (ve_var (i := 1)) va_nil)))))) (vss_one (vs_ret ve_bl)) vss_nil)) (vss_one (vs_if (vt_truth hF (ve_callB hF (fun i => call_isi) prim_isi (fun _ => rfl) Z.z_isinstance bt_isinstance (va_cons (ve_var (i := 1)) (va_cons (ve_ty hF (fun _ => rfl) Z.z_tuple bt_tuple) va_nil)))) (vss_one (vs_if (VW.vt (vw_or (vt_not (vt_truth hF (ve_callB hF (fun i => call_isi) prim_isi (fun _ => rfl) Z.z_isinstance bt_isinstance (va_cons (ve_var (i := 0)) (va_cons (ve_ty hF (fun _ => rfl) Z.z_tuple bt_tuple) va_nil))))) (vw_or1 (vt_cmp (fun i => op_neA (hF.u64 i)) prim_ne (ve_callB hF (fun i => call_lenAll) prim_len (fun _ => rfl) Z.z_len bt_len (va_cons (ve_var (i := 0)) va_nil)) (ve_callB hF (fun i => call_lenAll) prim_len (fun _ => rfl) Z.z_len bt_len (va_cons (ve_var (i := 1)) va_nil)))))) (vss_one (vs_ret ve_bl)) vss_nil)) (vss_one (vs_if (vt_cmp (fun _ => op_isN) prim_isN (ve_var (i := 1)) ve_non) (vss_one (vs_ret (ve_cmp (fun _ => op_isN) prim_isN (ve_var (i := 0)) ve_non))) (vss_one (vs_if (vt_truth hF (ve_callB hF (fun i => call_isi) prim_isi (fun _ => rfl) Z.z_isinstance bt_isinstance (va_cons (ve_var (i := 1)) (va_cons (ve_ty hF (fun _ => rfl) Z.z_bool bt_bool) va_nil)))) (vss_one (vs_ret (ve_and hF (ve_callB hF (fun i => call_isi) prim_isi (fun _ => rfl) Z.z_isinstance bt_isinstance (va_cons (ve_var (i := 0)) (va_cons (ve_ty hF (fun _ => rfl) Z.z_bool bt_bool) va_nil))) (ve_one (ve_cmp (fun i => op_eqA (hF.u64 i)) prim_eq (ve_var (i := 0)) (ve_var (i := 1))))))) (vss_one (vs_if (vt_truth hF (ve_callB hF (fun i => call_isi) prim_isi (fun _ => rfl) Z.z_isinstance bt_isinstance (va_cons (ve_var (i := 1)) (va_cons (ve_ty hF (fun _ => rfl) Z.z_int bt_int) va_nil)))) (vss_one (vs_ret (ve_and hF (ve_callB hF (fun i => call_isi) prim_isi (fun _ => rfl) Z.z_isinstance bt_isinstance (va_cons (ve_var (i := 0)) (va_cons (ve_ty hF (fun _ => rfl) Z.z_int bt_int) va_nil))) (ve_and hF (ve_not hF (ve_callB hF (fun i => call_isi) prim_isi (fun _ => rfl) Z.z_isinstance bt_isinstance (va_cons (ve_var (i := 0)) (va_cons (ve_ty hF (fun _ => rfl) Z.z_bool bt_bool) va_nil)))) (ve_one (ve_cmp (fun i => op_eqA (hF.u64 i)) prim_eq (ve_var (i := 0)) (ve_var (i := 1)))))))) (vss_one (vs_ret (ve_and hF (ve_callB hF (fun i => call_isi) prim_isi (fun _ => rfl) Z.z_isinstance bt_isinstance (va_cons (ve_var (i := 0)) (va_cons (ve_ty hF (fun _ => rfl) Z.z_str bt_str) va_nil))) (ve_one (ve_cmp (fun i => op_eqA (hF.u64 i)) prim_eq (ve_var (i := 0)) (ve_var (i := 1)))))))))))))))) (vss_cons (vs_for hF (fun _ => PassesOwn.leaving) (vi_range1 hF (fun _ => rfl) Z.z_range (ve_callB hF (fun i => call_lenAll) prim_len (fun _ => rfl) Z.z_len bt_len (va_cons (ve_var (i := 1)) va_nil))) (vg_name (i := 2) hF) (vss_one (vs_if (vt_not (vt_truth hF (ve_call hF hrec (fun _ => rfl) (va_cons (ve_ix (fun i => ix_all (hF.u65 i)) prim_ix (ve_var (i := 0)) (ve_var (i := 2))) (va_cons (ve_ix (fun i => ix_all (hF.u65 i)) prim_ix (ve_var (i := 1)) (ve_var (i := 2))) va_nil))))) (vss_one (vs_ret ve_bl)) vss_nil))) (vss_one (vs_ret ve_bl))))
  intro n
  induction n with
  | zero =>
    obtain ⟨f, fd, Fn, hm⟩ := Y.y__law_same
    exact has_stuck (ps := ["told", "due"]) Fn hm (Fn.binds fun _ _ _ _ _ _ us hl => match us, hl with | [_, _], _ => rfl) fun _ => rfl
  | succ n ih => exact stp n ih
theorem has__law_same (Z : Zs mg) (Y : Ys K mg) : Has P w K mg base "_law_same" phi__law_same 2 3 := hrec__law_same Z Y 3
theorem has__law_some_calendar (Z : Zs mg) (Y : Ys K mg) : Has P w K mg base "_law_some_calendar" phi__law_some_calendar 2 1 := by
  obtain ⟨f, fd, Fn, hm⟩ := Y.y__law_some_calendar
  refine ⟨f, fd, ["draws", "top"], hm, Fn.kp, (Fn.binds fun _ _ _ _ _ _ us hl => match us, hl with | [_, _], _ => rfl), run_ok (x := "_law_some_calendar") (F := F__law_some_calendar) Fn sc__law_some_calendar rfl (fun ds _ => rfl) fun cdv A outer s H E hr => ?_⟩
  have hF : Fam P w K mg base ["draws", "top", "kind", "found", "k", "day"] 0 (fun _ : Unit => cxOf (L2.CX P w) P w K mg base ["draws", "top", "kind", "found", "k", "day"] "_law_some_calendar" (defScope s__law_some_calendar) f cdv A outer s H E) := ⟨fun _ => rfl, fun _ => rfl, fun _ => rfl, fun _ => rfl, fun _ => rfl, fun _ => rfl, sc__law_some_calendar.nd, fun _ => rfl, fun _ => hr⟩
  exact (vss_cons (vs_set (i := 2) hF (ve_op (fun _ => op_modN) prim_mod (ve_ix (fun i => ix_all (hF.u65 i)) prim_ix (ve_var (i := 0)) ve_int) ve_int)) (vss_cons (vs_set (i := 3) hF (ve_lst va_nil)) (vss_cons (vs_if (vt_cmp (fun i => op_eqA (hF.u64 i)) prim_eq (ve_var (i := 2)) ve_int) (vss_one (vs_setLc (i := 3) (own := [("k", 4)]) hF (fun _ => ⟨rfl, by decide +kernel, (by decide +kernel : ∀ p ∈ ([("k", 4)] : List (Str × Nat)), (["draws", "top", "kind", "found", "k", "day"] : List Str)[p.2]? = some p.1), (by show ∀ y ∈ (_ : List (Str × NameKind)), y.2 = NameKind.free → List.lookup y.1 (defScope s__law_some_calendar).names = some NameKind.cell ∨ List.lookup y.1 (defScope s__law_some_calendar).names = some NameKind.free; decide +kernel), (by show ∀ y ∈ (_ : List (Str × NameKind)), y.2 = NameKind.local ∨ y.2 = NameKind.cell → y.1 ∈ List.map (fun x => x.1) ([("k", 4)] : List (Str × Nat)) ∨ y.1 ∉ (["draws", "top", "kind", "found", "k", "day"] : List Str); decide +kernel)⟩) (vi_range1 hF (fun _ => rfl) Z.z_range ve_int) (vg_name (i := 4) (hF.blk _)) vts_nil (ve_op (fun _ => op_modN) prim_mod (ve_ix (fun i => ix_all ((hF.blk _).u65 i)) prim_ix (ve_var (i := 0)) (ve_op (fun _ => op_addAll) prim_add ve_int (ve_var (i := 4)))) (ve_var (i := 1))))) (vss_one (vs_if (vt_cmp (fun i => op_eqA (hF.u64 i)) prim_eq (ve_var (i := 2)) ve_int) (vss_one (vs_setLc (i := 3) (own := [("k", 4)]) hF (fun _ => ⟨rfl, by decide +kernel, (by decide +kernel : ∀ p ∈ ([("k", 4)] : List (Str × Nat)), (["draws", "top", "kind", "found", "k", "day"] : List Str)[p.2]? = some p.1), (by show ∀ y ∈ (_ : List (Str × NameKind)), y.2 = NameKind.free → List.lookup y.1 (defScope s__law_some_calendar).names = some NameKind.cell ∨ List.lookup y.1 (defScope s__law_some_calendar).names = some NameKind.free; decide +kernel), (by show ∀ y ∈ (_ : List (Str × NameKind)), y.2 = NameKind.local ∨ y.2 = NameKind.cell → y.1 ∈ List.map (fun x => x.1) ([("k", 4)] : List (Str × Nat)) ∨ y.1 ∉ (["draws", "top", "kind", "found", "k", "day"] : List Str); decide +kernel)⟩) (vi_range1 hF (fun _ => rfl) Z.z_range (ve_callB hF (fun i => call_minAll (hF.calm i)) prim_min (fun _ => rfl) Z.z_min bt_min (va_cons ve_int (va_cons (ve_op (fun _ => op_fdivN) prim_fdiv (ve_var (i := 1)) ve_int) va_nil)))) (vg_name (i := 4) (hF.blk _)) vts_nil (ve_op (fun _ => op_addAll) prim_add (ve_op (fun _ => op_mulAll) prim_mul ve_int (ve_var (i := 4))) (ve_op (fun _ => op_modN) prim_mod (ve_ix (fun i => ix_all ((hF.blk _).u65 i)) prim_ix (ve_var (i := 0)) ve_int) ve_int)))) (vss_one (vs_if (vt_cmp (fun i => op_eqA (hF.u64 i)) prim_eq (ve_var (i := 2)) ve_int) (vss_one (vs_set (i := 3) hF (ve_listRg2 hF (fun _ => rfl) Z.z_list (fun _ => rfl) Z.z_range (ve_op (fun _ => op_modN) prim_mod (ve_ix (fun i => ix_all (hF.u65 i)) prim_ix (ve_var (i := 0)) ve_int) (ve_var (i := 1))) (ve_op (fun _ => op_addAll) prim_add (ve_op (fun _ => op_addAll) prim_add (ve_op (fun _ => op_modN) prim_mod (ve_ix (fun i => ix_all (hF.u65 i)) prim_ix (ve_var (i := 0)) ve_int) (ve_var (i := 1))) ve_int) (ve_op (fun _ => op_modN) prim_mod (ve_ix (fun i => ix_all (hF.u65 i)) prim_ix (ve_var (i := 0)) ve_int) ve_int))))) vss_nil))))) (vss_one (vs_ret (ve_sortedSet hF (fun _ => rfl) Z.z_sorted (fun _ => rfl) Z.z_set (ve_lc (own := [("day", 5)]) hF (fun _ => ⟨rfl, by decide +kernel, (by decide +kernel : ∀ p ∈ ([("day", 5)] : List (Str × Nat)), (["draws", "top", "kind", "found", "k", "day"] : List Str)[p.2]? = some p.1), (by show ∀ y ∈ (_ : List (Str × NameKind)), y.2 = NameKind.free → List.lookup y.1 (defScope s__law_some_calendar).names = some NameKind.cell ∨ List.lookup y.1 (defScope s__law_some_calendar).names = some NameKind.free; decide +kernel), (by show ∀ y ∈ (_ : List (Str × NameKind)), y.2 = NameKind.local ∨ y.2 = NameKind.cell → y.1 ∈ List.map (fun x => x.1) ([("day", 5)] : List (Str × Nat)) ∨ y.1 ∉ (["draws", "top", "kind", "found", "k", "day"] : List Str); decide +kernel)⟩) (vi_seq hF (ve_var (i := 3))) (vg_name (i := 5) (hF.blk _)) (vts_one (vt_cmp (fun _ => op_lt) prim_lt (ve_var (i := 5)) ve_int)) (ve_var (i := 5)))))))))
theorem has__law_tariff (Z : Zs mg) (Y : Ys K mg) : Has P w K mg base "_law_tariff" phi__law_tariff 1 1 := by
  obtain ⟨f, fd, Fn, hm⟩ := Y.y__law_tariff
  refine ⟨f, fd, ["draws"], hm, Fn.kp, (Fn.binds fun _ _ _ _ _ _ us hl => match us, hl with | [_], _ => rfl), run_ok (x := "_law_tariff") (F := F__law_tariff) Fn sc__law_tariff rfl (fun ds _ => rfl) fun cdv A outer s H E hr => ?_⟩
  have hF : Fam P w K mg base ["draws", "numbers", "k", "number"] 0 (fun _ : Unit => cxOf (L2.CX P w) P w K mg base ["draws", "numbers", "k", "number"] "_law_tariff" (defScope s__law_tariff) f cdv A outer s H E) := ⟨fun _ => rfl, fun _ => rfl, fun _ => rfl, fun _ => rfl, fun _ => rfl, fun _ => rfl, sc__law_tariff.nd, fun _ => rfl, fun _ => hr⟩
  exact (vss_cons (vs_set (i := 1) hF (ve_lst (va_cons ve_int va_nil))) (vss_cons (vs_for hF (fun _ => PassesOwn.leaving) (vi_range1 hF (fun _ => rfl) Z.z_range (ve_op (fun _ => op_modN) prim_mod (ve_ix (fun i => ix_all (hF.u65 i)) prim_ix (ve_var (i := 0)) ve_int) ve_int)) (vg_name (i := 2) hF) (vss_cons (vs_set (i := 3) hF (ve_op (fun _ => op_addAll) prim_add ve_int (ve_ix (fun i => ix_all (hF.u65 i)) prim_ix (ve_lst (va_cons (ve_op (fun _ => op_modN) prim_mod (ve_ix (fun i => ix_all (hF.u65 i)) prim_ix (ve_var (i := 0)) (ve_op (fun _ => op_addAll) prim_add ve_int (ve_var (i := 2)))) ve_int) (va_cons (ve_op (fun _ => op_modN) prim_mod (ve_ix (fun i => ix_all (hF.u65 i)) prim_ix (ve_var (i := 0)) (ve_op (fun _ => op_addAll) prim_add ve_int (ve_var (i := 2)))) ve_int) (va_cons (ve_op (fun _ => op_modN) prim_mod (ve_op (fun _ => op_mulAll) prim_mul (ve_ix (fun i => ix_all (hF.u65 i)) prim_ix (ve_var (i := 0)) (ve_op (fun _ => op_addAll) prim_add ve_int (ve_var (i := 2)))) ve_int) ve_int) (va_cons (ve_op (fun _ => op_sub) prim_sub ve_int (ve_var (i := 2))) va_nil))))) (ve_op (fun _ => op_modN) prim_mod (ve_ix (fun i => ix_all (hF.u65 i)) prim_ix (ve_var (i := 0)) ve_int) ve_int)))) (vss_one (vs_if (vt_cmp (fun i => op_notInAll (hF.u65 i)) prim_notIn (ve_var (i := 3)) (ve_var (i := 1))) (vss_one (vs_append (i := 1) hF (ve_var (i := 3)))) vss_nil)))) (vss_one (vs_ret (ve_lc (own := [("number", 3)]) hF (fun _ => ⟨rfl, by decide +kernel, (by decide +kernel : ∀ p ∈ ([("number", 3)] : List (Str × Nat)), (["draws", "numbers", "k", "number"] : List Str)[p.2]? = some p.1), (by show ∀ y ∈ (_ : List (Str × NameKind)), y.2 = NameKind.free → List.lookup y.1 (defScope s__law_tariff).names = some NameKind.cell ∨ List.lookup y.1 (defScope s__law_tariff).names = some NameKind.free; decide +kernel), (by show ∀ y ∈ (_ : List (Str × NameKind)), y.2 = NameKind.local ∨ y.2 = NameKind.cell → y.1 ∈ List.map (fun x => x.1) ([("number", 3)] : List (Str × Nat)) ∨ y.1 ∉ (["draws", "numbers", "k", "number"] : List Str); decide +kernel)⟩) (vi_seq hF (ve_callB hF (fun i => cr_sortedI) prim_sorted (fun _ => rfl) Z.z_sorted bt_sorted (va_cons (ve_var (i := 1)) va_nil))) (vg_name (i := 3) (hF.blk _)) vts_nil (ve_tup (va_cons (ve_var (i := 3)) (va_cons (ve_op (fun _ => op_modN) prim_mod (ve_ix (fun i => ix_all ((hF.blk _).u65 i)) prim_ix (ve_lst (va_cons (ve_op (fun _ => op_modN) prim_mod (ve_ix (fun i => ix_all ((hF.blk _).u65 i)) prim_ix (ve_var (i := 0)) ve_int) ve_int) (va_cons (ve_op (fun _ => op_mulAll) prim_mul (ve_ix (fun i => ix_all ((hF.blk _).u65 i)) prim_ix (ve_var (i := 0)) ve_int) (ve_var (i := 3))) (va_cons ve_int (va_cons ve_int (va_cons (ve_var (i := 3)) va_nil)))))) (ve_op (fun _ => op_modN) prim_mod (ve_callTy (hF.blk _) (fun i => call_int1) prim_int (fun _ => rfl) Z.z_int bt_int (va_cons (ve_op (fun _ => op_addAll) prim_add (ve_ix (fun i => ix_all ((hF.blk _).u65 i)) prim_ix (ve_var (i := 0)) ve_int) (ve_var (i := 3))) va_nil)) ve_int)) ve_int) va_nil))))))))
theorem has__law_visits (Z : Zs mg) (Y : Ys K mg) : Has P w K mg base "_law_visits" phi__law_visits 3 1 := by
  obtain ⟨f, fd, Fn, hm⟩ := Y.y__law_visits
  refine ⟨f, fd, ["draws", "begin", "count"], hm, Fn.kp, (Fn.binds fun _ _ _ _ _ _ us hl => match us, hl with | [_, _, _], _ => rfl), run_ok (x := "_law_visits") (F := F__law_visits) Fn sc__law_visits rfl (fun ds _ => rfl) fun cdv A outer s H E hr => ?_⟩
  have hF : Fam P w K mg base ["draws", "begin", "count", "day", "found", "k", "brought", "back"] 0 (fun _ : Unit => cxOf (L2.CX P w) P w K mg base ["draws", "begin", "count", "day", "found", "k", "brought", "back"] "_law_visits" (defScope s__law_visits) f cdv A outer s H E) := ⟨fun _ => rfl, fun _ => rfl, fun _ => rfl, fun _ => rfl, fun _ => rfl, fun _ => rfl, sc__law_visits.nd, fun _ => rfl, fun _ => hr⟩
  exact (vss_cons (vs_set (i := 3) hF (ve_var (i := 1))) (vss_cons (vs_set (i := 4) hF (ve_lst va_nil)) (vss_cons (vs_for hF (fun _ => PassesOwn.leaving) (vi_range1 hF (fun _ => rfl) Z.z_range (ve_var (i := 2))) (vg_name (i := 5) hF) (vss_cons (vs_set (i := 6) hF (ve_callB hF (fun i => call_minAll (hF.calm i)) prim_min (fun _ => rfl) Z.z_min bt_min (va_cons ve_int (va_cons (ve_op (fun _ => op_addAll) prim_add (ve_var (i := 3)) (ve_ix (fun i => ix_all (hF.u65 i)) prim_ix (ve_lst (va_cons ve_int (va_cons (ve_op (fun _ => op_modN) prim_mod (ve_ix (fun i => ix_all (hF.u65 i)) prim_ix (ve_var (i := 0)) (ve_var (i := 5))) ve_int) (va_cons (ve_op (fun _ => op_modN) prim_mod (ve_ix (fun i => ix_all (hF.u65 i)) prim_ix (ve_var (i := 0)) (ve_var (i := 5))) ve_int) va_nil)))) (ve_op (fun _ => op_modN) prim_mod (ve_op (fun _ => op_fdivN) prim_fdiv (ve_ix (fun i => ix_all (hF.u65 i)) prim_ix (ve_var (i := 0)) (ve_var (i := 5))) ve_int) ve_int))) va_nil)))) (vss_cons (vs_set (i := 7) hF (ve_callB hF (fun i => call_minAll (hF.calm i)) prim_min (fun _ => rfl) Z.z_min bt_min (va_cons ve_int (va_cons (ve_op (fun _ => op_addAll) prim_add (ve_var (i := 6)) (ve_ix (fun i => ix_all (hF.u65 i)) prim_ix (ve_lst (va_cons ve_int (va_cons (ve_op (fun _ => op_modN) prim_mod (ve_ix (fun i => ix_all (hF.u65 i)) prim_ix (ve_var (i := 0)) (ve_op (fun _ => op_addAll) prim_add (ve_var (i := 5)) ve_int)) ve_int) (va_cons (ve_op (fun _ => op_modN) prim_mod (ve_ix (fun i => ix_all (hF.u65 i)) prim_ix (ve_var (i := 0)) (ve_op (fun _ => op_addAll) prim_add (ve_var (i := 5)) ve_int)) ve_int) va_nil)))) (ve_op (fun _ => op_modN) prim_mod (ve_op (fun _ => op_fdivN) prim_fdiv (ve_ix (fun i => ix_all (hF.u65 i)) prim_ix (ve_var (i := 0)) (ve_op (fun _ => op_addAll) prim_add (ve_var (i := 5)) ve_int)) ve_int) ve_int))) va_nil)))) (vss_cons (vs_append (i := 4) hF (ve_tup (va_cons (ve_var (i := 6)) (va_cons (ve_var (i := 7)) va_nil)))) (vss_one (vs_set (i := 3) hF (ve_var (i := 7)))))))) (vss_cons (vs_if (VW.vt (vw_and (vt_cmp (fun _ => op_gt) prim_gt (ve_var (i := 2)) ve_int) (vw_and1 (vt_cmp (fun i => op_eqA (hF.u64 i)) prim_eq (ve_op (fun _ => op_modN) prim_mod (ve_ix (fun i => ix_all (hF.u65 i)) prim_ix (ve_var (i := 0)) ve_int) ve_int) ve_int)))) (vss_one (vs_sub (i := 4) hF (ve_op (fun _ => op_sub) prim_sub (ve_var (i := 2)) ve_int) (ve_tup (va_cons (ve_ix (fun i => ix_all (hF.u65 i)) prim_ix (ve_ix (fun i => ix_all (hF.u65 i)) prim_ix (ve_var (i := 4)) (ve_op (fun _ => op_sub) prim_sub (ve_var (i := 2)) ve_int)) ve_int) (va_cons ve_non va_nil))))) vss_nil) (vss_one (vs_retV (i := 4)))))))
theorem has_open_days (Z : Zs mg) (Y : Ys K mg) : Has P w K mg base "open_days" phi_open_days 3 1 := by
  obtain ⟨f, fd, Fn, hm⟩ := Y.y_open_days
  refine ⟨f, fd, ["closed", "start", "stop"], hm, Fn.kp, (Fn.binds fun _ _ _ _ _ _ us hl => match us, hl with | [_, _, _], _ => rfl), run_ok (x := "open_days") (F := F_open_days) Fn sc_open_days rfl (fun ds _ => rfl) fun cdv A outer s H E hr => ?_⟩
  have hF : Fam P w K mg base ["closed", "start", "stop", "day"] 0 (fun _ : Unit => cxOf (L2.CX P w) P w K mg base ["closed", "start", "stop", "day"] "open_days" (defScope s_open_days) f cdv A outer s H E) := ⟨fun _ => rfl, fun _ => rfl, fun _ => rfl, fun _ => rfl, fun _ => rfl, fun _ => rfl, sc_open_days.nd, fun _ => rfl, fun _ => hr⟩
  exact (vss_cons (vs_if (vt_cmp (fun _ => op_le) prim_le (ve_var (i := 2)) (ve_var (i := 1))) (vss_one (vs_ret ve_int)) vss_nil) (vss_one (vs_ret (ve_op (fun _ => op_sub) prim_sub (ve_op (fun _ => op_sub) prim_sub (ve_var (i := 2)) (ve_var (i := 1))) (ve_callB hF (fun i => call_lenAll) prim_len (fun _ => rfl) Z.z_len bt_len (va_cons (ve_lc (own := [("day", 3)]) hF (fun _ => ⟨rfl, by decide +kernel, (by decide +kernel : ∀ p ∈ ([("day", 3)] : List (Str × Nat)), (["closed", "start", "stop", "day"] : List Str)[p.2]? = some p.1), (by show ∀ y ∈ (_ : List (Str × NameKind)), y.2 = NameKind.free → List.lookup y.1 (defScope s_open_days).names = some NameKind.cell ∨ List.lookup y.1 (defScope s_open_days).names = some NameKind.free; decide +kernel), (by show ∀ y ∈ (_ : List (Str × NameKind)), y.2 = NameKind.local ∨ y.2 = NameKind.cell → y.1 ∈ List.map (fun x => x.1) ([("day", 3)] : List (Str × Nat)) ∨ y.1 ∉ (["closed", "start", "stop", "day"] : List Str); decide +kernel)⟩) (vi_seq hF (ve_var (i := 0))) (vg_name (i := 3) (hF.blk _)) (vts_one (vt_chain (fun _ => op_le) (fun _ => op_lt) prim_le prim_lt (ve_var (i := 1)) (ve_var (i := 3)) (ve_var (i := 2)))) (ve_var (i := 3))) va_nil))))))
theorem has_away_days (Z : Zs mg) (Y : Ys K mg) : Has P w K mg base "away_days" phi_away_days 4 2 := by
  obtain ⟨f, fd, Fn, hm⟩ := Y.y_away_days
  refine ⟨f, fd, ["closed", "visit", "begin", "day"], hm, Fn.kp, (Fn.binds fun _ _ _ _ _ _ us hl => match us, hl with | [_, _, _, _], _ => rfl), run_ok (x := "away_days") (F := F_away_days) Fn sc_away_days rfl (fun ds _ => rfl) fun cdv A outer s H E hr => ?_⟩
  have hF : Fam P w K mg base ["closed", "visit", "begin", "day", "stop", "brought", "back"] 1 (fun _ : Unit => cxOf (L2.CX P w) P w K mg base ["closed", "visit", "begin", "day", "stop", "brought", "back"] "away_days" (defScope s_away_days) f cdv A outer s H E) := ⟨fun _ => rfl, fun _ => rfl, fun _ => rfl, fun _ => rfl, fun _ => rfl, fun _ => rfl, sc_away_days.nd, fun _ => rfl, fun _ => hr⟩
  exact (vss_cons (vs_asgT (ve_var (i := 1)) (vg_tup hF (vgs_cons (vg_name (i := 5) hF) (vgs_cons (vg_name (i := 6) hF) vgs_nil)) (gC_len (gC_len gN0_len)))) (vss_cons (vs_set (i := 4) hF (ve_if (vt_cmp (fun _ => op_isN) prim_isN (ve_var (i := 6)) ve_non) (ve_var (i := 3)) (ve_callB hF (fun i => call_minAll (hF.calm i)) prim_min (fun _ => rfl) Z.z_min bt_min (va_cons (ve_var (i := 3)) (va_cons (ve_var (i := 6)) va_nil))))) (vss_one (vs_ret (ve_call hF ((has_open_days Z Y).mono (by omega)) (fun _ => rfl) (va_cons (ve_var (i := 0)) (va_cons (ve_callB hF (fun i => call_maxAll (hF.calm i)) prim_max (fun _ => rfl) Z.z_max bt_max (va_cons (ve_var (i := 2)) (va_cons (ve_var (i := 5)) va_nil))) (va_cons (ve_var (i := 4)) va_nil))))))))
theorem has_counted (Z : Zs mg) (Y : Ys K mg) : Has P w K mg base "counted" phi_counted 4 3 := by
  obtain ⟨f, fd, Fn, hm⟩ := Y.y_counted
  refine ⟨f, fd, ["closed", "begin", "visits", "day"], hm, Fn.kp, (Fn.binds fun _ _ _ _ _ _ us hl => match us, hl with | [_, _, _, _], _ => rfl), run_ok (x := "counted") (F := F_counted) Fn sc_counted rfl (fun ds _ => rfl) fun cdv A outer s H E hr => ?_⟩
  have hF : Fam P w K mg base ["closed", "begin", "visits", "day", "visit"] 2 (fun _ : Unit => cxOf (L2.CX P w) P w K mg base ["closed", "begin", "visits", "day", "visit"] "counted" (defScope s_counted) f cdv A outer s H E) := ⟨fun _ => rfl, fun _ => rfl, fun _ => rfl, fun _ => rfl, fun _ => rfl, fun _ => rfl, sc_counted.nd, fun _ => rfl, fun _ => hr⟩
  exact (vss_one (vs_ret (ve_op (fun _ => op_sub) prim_sub (ve_call hF ((has_open_days Z Y).mono (by omega)) (fun _ => rfl) (va_cons (ve_var (i := 0)) (va_cons (ve_var (i := 1)) (va_cons (ve_var (i := 3)) va_nil)))) (ve_callB hF (fun i => cr_sum (hF.calm i)) prim_sum (fun _ => rfl) Z.z_sum bt_sum (va_cons (ve_lc (own := [("visit", 4)]) hF (fun _ => ⟨rfl, by decide +kernel, (by decide +kernel : ∀ p ∈ ([("visit", 4)] : List (Str × Nat)), (["closed", "begin", "visits", "day", "visit"] : List Str)[p.2]? = some p.1), (by show ∀ y ∈ (_ : List (Str × NameKind)), y.2 = NameKind.free → List.lookup y.1 (defScope s_counted).names = some NameKind.cell ∨ List.lookup y.1 (defScope s_counted).names = some NameKind.free; decide +kernel), (by show ∀ y ∈ (_ : List (Str × NameKind)), y.2 = NameKind.local ∨ y.2 = NameKind.cell → y.1 ∈ List.map (fun x => x.1) ([("visit", 4)] : List (Str × Nat)) ∨ y.1 ∉ (["closed", "begin", "visits", "day", "visit"] : List Str); decide +kernel)⟩) (vi_seq hF (ve_var (i := 2))) (vg_name (i := 4) (hF.blk _)) vts_nil (ve_call (hF.blk _) ((has_away_days Z Y).mono (by omega)) (fun _ => rfl) (va_cons (ve_var (i := 0)) (va_cons (ve_var (i := 4)) (va_cons (ve_var (i := 1)) (va_cons (ve_var (i := 3)) va_nil)))))) va_nil)))))
theorem has_holds_on (Z : Zs mg) (Y : Ys K mg) : Has P w K mg base "holds_on" phi_holds_on 5 4 := by
  obtain ⟨f, fd, Fn, hm⟩ := Y.y_holds_on
  refine ⟨f, fd, ["closed", "days", "begin", "visits", "day"], hm, Fn.kp, (Fn.binds fun _ _ _ _ _ _ us hl => match us, hl with | [_, _, _, _, _], _ => rfl), run_ok (x := "holds_on") (F := F_holds_on) Fn sc_holds_on rfl (fun ds _ => rfl) fun cdv A outer s H E hr => ?_⟩
  have hF : Fam P w K mg base ["closed", "days", "begin", "visits", "day"] 3 (fun _ : Unit => cxOf (L2.CX P w) P w K mg base ["closed", "days", "begin", "visits", "day"] "holds_on" (defScope s_holds_on) f cdv A outer s H E) := ⟨fun _ => rfl, fun _ => rfl, fun _ => rfl, fun _ => rfl, fun _ => rfl, fun _ => rfl, sc_holds_on.nd, fun _ => rfl, fun _ => hr⟩
  exact (vss_one (vs_ret (ve_cmp (fun _ => op_lt) prim_lt (ve_call hF ((has_counted Z Y).mono (by omega)) (fun _ => rfl) (va_cons (ve_var (i := 0)) (va_cons (ve_var (i := 2)) (va_cons (ve_var (i := 3)) (va_cons (ve_var (i := 4)) va_nil))))) (ve_var (i := 1)))))
theorem has_end_of (Z : Zs mg) (Y : Ys K mg) : Has P w K mg base "end_of" phi_end_of 4 5 := by
  obtain ⟨f, fd, Fn, hm⟩ := Y.y_end_of
  refine ⟨f, fd, ["closed", "days", "begin", "visits"], hm, Fn.kp, (Fn.binds fun _ _ _ _ _ _ us hl => match us, hl with | [_, _, _, _], _ => rfl), run_ok (x := "end_of") (F := F_end_of) Fn sc_end_of rfl (fun ds _ => rfl) fun cdv A outer s H E hr => ?_⟩
  have hF : Fam P w K mg base ["closed", "days", "begin", "visits", "high", "low", "day"] 4 (fun _ : Unit => cxOf (L2.CX P w) P w K mg base ["closed", "days", "begin", "visits", "high", "low", "day"] "end_of" (defScope s_end_of) f cdv A outer s H E) := ⟨fun _ => rfl, fun _ => rfl, fun _ => rfl, fun _ => rfl, fun _ => rfl, fun _ => rfl, sc_end_of.nd, fun _ => rfl, fun _ => hr⟩
  exact (vss_cons (vs_set (i := 4) hF (ve_globI hF (fun _ => rfl) Z.c_BEYOND)) (vss_cons (vs_if (VW.vt (vw_and (vt_truth hF (ve_var (i := 3))) (vw_and1 (vt_cmp (fun _ => op_isN) prim_isN (ve_ix (fun i => ix_all (hF.u65 i)) prim_ix (ve_ix (fun i => ix_all (hF.u65 i)) prim_ix (ve_var (i := 3)) (ve_un (fun _ => un_neg) prim_neg ve_int)) ve_int) ve_non)))) (vss_one (vs_set (i := 4) hF (ve_ix (fun i => ix_all (hF.u65 i)) prim_ix (ve_ix (fun i => ix_all (hF.u65 i)) prim_ix (ve_var (i := 3)) (ve_un (fun _ => un_neg) prim_neg ve_int)) ve_int))) vss_nil) (vss_cons (vs_if (vt_truth hF (ve_call hF ((has_holds_on Z Y).mono (by omega)) (fun _ => rfl) (va_cons (ve_var (i := 0)) (va_cons (ve_var (i := 1)) (va_cons (ve_var (i := 2)) (va_cons (ve_var (i := 3)) (va_cons (ve_var (i := 4)) va_nil))))))) (vss_one (vs_ret ve_non)) vss_nil) (vss_cons (vs_set (i := 5) hF (ve_var (i := 2))) (vss_cons (vs_while (fun _ => PassesOwn.leaving) (vt_cmp (fun _ => op_lt) prim_lt (ve_var (i := 5)) (ve_var (i := 4))) (vss_cons (vs_set (i := 6) hF (ve_op (fun _ => op_fdivN) prim_fdiv (ve_op (fun _ => op_addAll) prim_add (ve_var (i := 5)) (ve_var (i := 4))) ve_int)) (vss_one (vs_if (vt_truth hF (ve_call hF ((has_holds_on Z Y).mono (by omega)) (fun _ => rfl) (va_cons (ve_var (i := 0)) (va_cons (ve_var (i := 1)) (va_cons (ve_var (i := 2)) (va_cons (ve_var (i := 3)) (va_cons (ve_var (i := 6)) va_nil))))))) (vss_one (vs_set (i := 5) hF (ve_op (fun _ => op_addAll) prim_add (ve_var (i := 6)) ve_int))) (vss_one (vs_set (i := 4) hF (ve_var (i := 6)))))))) (vss_one (vs_retV (i := 5))))))))
theorem has_free_visits (Z : Zs mg) (Y : Ys K mg) : Has P w K mg base "free_visits" phi_free_visits 4 5 := by
  obtain ⟨f, fd, Fn, hm⟩ := Y.y_free_visits
  refine ⟨f, fd, ["closed", "days", "begin", "visits"], hm, Fn.kp, (Fn.binds fun _ _ _ _ _ _ us hl => match us, hl with | [_, _, _, _], _ => rfl), run_ok (x := "free_visits") (F := F_free_visits) Fn sc_free_visits rfl (fun ds _ => rfl) fun cdv A outer s H E hr => ?_⟩
  have hF : Fam P w K mg base ["closed", "days", "begin", "visits", "brought", "_"] 4 (fun _ : Unit => cxOf (L2.CX P w) P w K mg base ["closed", "days", "begin", "visits", "brought", "_"] "free_visits" (defScope s_free_visits) f cdv A outer s H E) := ⟨fun _ => rfl, fun _ => rfl, fun _ => rfl, fun _ => rfl, fun _ => rfl, fun _ => rfl, sc_free_visits.nd, fun _ => rfl, fun _ => hr⟩
  exact (vss_one (vs_ret (ve_lc (own := [("brought", 4), ("_", 5)]) hF (fun _ => ⟨rfl, by decide +kernel, (by decide +kernel : ∀ p ∈ ([("brought", 4), ("_", 5)] : List (Str × Nat)), (["closed", "days", "begin", "visits", "brought", "_"] : List Str)[p.2]? = some p.1), (by show ∀ y ∈ (_ : List (Str × NameKind)), y.2 = NameKind.free → List.lookup y.1 (defScope s_free_visits).names = some NameKind.cell ∨ List.lookup y.1 (defScope s_free_visits).names = some NameKind.free; decide +kernel), (by show ∀ y ∈ (_ : List (Str × NameKind)), y.2 = NameKind.local ∨ y.2 = NameKind.cell → y.1 ∈ List.map (fun x => x.1) ([("brought", 4), ("_", 5)] : List (Str × Nat)) ∨ y.1 ∉ (["closed", "days", "begin", "visits", "brought", "_"] : List Str); decide +kernel)⟩) (vi_seq hF (ve_var (i := 3))) (vg_tup (hF.blk _) (vgs_cons (vg_name (i := 4) (hF.blk _)) (vgs_cons (vg_name (i := 5) (hF.blk _)) vgs_nil)) (gC_len (gC_len gN0_len))) vts_nil (ve_call (hF.blk _) ((has_holds_on Z Y).mono (by omega)) (fun _ => rfl) (va_cons (ve_var (i := 0)) (va_cons (ve_var (i := 1)) (va_cons (ve_var (i := 2)) (va_cons (ve_var (i := 3)) (va_cons (ve_var (i := 4)) va_nil)))))))))
theorem has_price_of (Z : Zs mg) (Y : Ys K mg) : Has P w K mg base "price_of" phi_price_of 2 1 := by
  obtain ⟨f, fd, Fn, hm⟩ := Y.y_price_of
  refine ⟨f, fd, ["tariff", "count"], hm, Fn.kp, (Fn.binds fun _ _ _ _ _ _ us hl => match us, hl with | [_, _], _ => rfl), run_ok (x := "price_of") (F := F_price_of) Fn sc_price_of rfl (fun ds _ => rfl) fun cdv A outer s H E hr => ?_⟩
  have hF : Fam P w K mg base ["tariff", "count", "total", "k", "last", "number", "cents"] 0 (fun _ : Unit => cxOf (L2.CX P w) P w K mg base ["tariff", "count", "total", "k", "last", "number", "cents"] "price_of" (defScope s_price_of) f cdv A outer s H E) := ⟨fun _ => rfl, fun _ => rfl, fun _ => rfl, fun _ => rfl, fun _ => rfl, fun _ => rfl, sc_price_of.nd, fun _ => rfl, fun _ => hr⟩
  exact (vss_cons (vs_set (i := 2) hF ve_int) (vss_cons (vs_for hF (fun _ => PassesOwn.leaving) (vi_enum hF (fun _ => rfl) Z.z_enumerate (ve_var (i := 0))) (vg_tup hF (vgs_cons (vg_name (i := 3) hF) (vgs_cons (vg_tup hF (vgs_cons (vg_name (i := 5) hF) (vgs_cons (vg_name (i := 6) hF) vgs_nil)) (gC_len (gC_len gN0_len))) vgs_nil)) (gC_len (gC_len gN0_len))) (vss_cons (vs_set (i := 4) hF (ve_var (i := 1))) (vss_cons (vs_if (vt_cmp (fun _ => op_lt) prim_lt (ve_op (fun _ => op_addAll) prim_add (ve_var (i := 3)) ve_int) (ve_callB hF (fun i => call_lenAll) prim_len (fun _ => rfl) Z.z_len bt_len (va_cons (ve_var (i := 0)) va_nil))) (vss_one (vs_set (i := 4) hF (ve_callB hF (fun i => call_minAll (hF.calm i)) prim_min (fun _ => rfl) Z.z_min bt_min (va_cons (ve_var (i := 1)) (va_cons (ve_op (fun _ => op_sub) prim_sub (ve_ix (fun i => ix_all (hF.u65 i)) prim_ix (ve_ix (fun i => ix_all (hF.u65 i)) prim_ix (ve_var (i := 0)) (ve_op (fun _ => op_addAll) prim_add (ve_var (i := 3)) ve_int)) ve_int) ve_int) va_nil))))) vss_nil) (vss_one (vs_aug (i := 2) hF (fun _ => iop_addAll) prim_iadd (ve_op (fun _ => op_mulAll) prim_mul (ve_callB hF (fun i => call_maxAll (hF.calm i)) prim_max (fun _ => rfl) Z.z_max bt_max (va_cons ve_int (va_cons (ve_op (fun _ => op_addAll) prim_add (ve_op (fun _ => op_sub) prim_sub (ve_var (i := 4)) (ve_var (i := 5))) ve_int) va_nil))) (ve_var (i := 6)))))))) (vss_one (vs_retV (i := 2)))))
theorem has_most_for (Z : Zs mg) (Y : Ys K mg) : Has P w K mg base "most_for" phi_most_for 2 2 := by
  obtain ⟨f, fd, Fn, hm⟩ := Y.y_most_for
  refine ⟨f, fd, ["tariff", "money"], hm, Fn.kp, (Fn.binds fun _ _ _ _ _ _ us hl => match us, hl with | [_, _], _ => rfl), run_ok (x := "most_for") (F := F_most_for) Fn sc_most_for rfl (fun ds _ => rfl) fun cdv A outer s H E hr => ?_⟩
  have hF : Fam P w K mg base ["tariff", "money", "low", "high", "count"] 1 (fun _ : Unit => cxOf (L2.CX P w) P w K mg base ["tariff", "money", "low", "high", "count"] "most_for" (defScope s_most_for) f cdv A outer s H E) := ⟨fun _ => rfl, fun _ => rfl, fun _ => rfl, fun _ => rfl, fun _ => rfl, fun _ => rfl, sc_most_for.nd, fun _ => rfl, fun _ => hr⟩
  exact (vss_cons (vs_set (i := 2) hF ve_int) (vss_cons (vs_set (i := 3) hF (ve_globI hF (fun _ => rfl) Z.c_MOST_THINGS)) (vss_cons (vs_while (fun _ => PassesOwn.leaving) (vt_cmp (fun _ => op_lt) prim_lt (ve_var (i := 2)) (ve_var (i := 3))) (vss_cons (vs_set (i := 4) hF (ve_op (fun _ => op_fdivN) prim_fdiv (ve_op (fun _ => op_addAll) prim_add (ve_op (fun _ => op_addAll) prim_add (ve_var (i := 2)) (ve_var (i := 3))) ve_int) ve_int)) (vss_one (vs_if (vt_cmp (fun _ => op_le) prim_le (ve_call hF ((has_price_of Z Y).mono (by omega)) (fun _ => rfl) (va_cons (ve_var (i := 0)) (va_cons (ve_var (i := 4)) va_nil))) (ve_var (i := 1))) (vss_one (vs_set (i := 2) hF (ve_var (i := 4)))) (vss_one (vs_set (i := 3) hF (ve_op (fun _ => op_sub) prim_sub (ve_var (i := 4)) ve_int))))))) (vss_one (vs_retV (i := 2))))))
theorem ok_law (Z : Zs mg) (Y : Ys K mg) {f : Addr} {fd : FuncData} (Fn : Fun K "law" "law" s_law f fd) : FnG P w K mg base (L2.CX P w) 6 f fd ["script"] (spD K mg phi_law 1) := by
  refine run_okG (x := "law") (F := F_law) Fn sc_law rfl (fun ds _ => rfl) fun cdv A outer s H E hr hg => ?_
  have hF : Fam P w K mg base ["script", "turn", "draws", "tariff", "kept", "great", "counts", "count", "money", "k", "number", "cents", "price", "begin", "days", "closed", "visits", "text", "found", "asked", "day", "ends", "due", "last", "pair", "brought", "back"] 5 (fun _ : Unit => cxOf (L2.CX P w) P w K mg base ["script", "turn", "draws", "tariff", "kept", "great", "counts", "count", "money", "k", "number", "cents", "price", "begin", "days", "closed", "visits", "text", "found", "asked", "day", "ends", "due", "last", "pair", "brought", "back"] "law" (defScope s_law) f cdv A outer s H E) := ⟨fun _ => rfl, fun _ => rfl, fun _ => rfl, fun _ => rfl, fun _ => rfl, fun _ => rfl, sc_law.nd, fun _ => rfl, fun _ => hr⟩
  have hG : ∀ i : Unit, ((fun _ : Unit => cxOf (L2.CX P w) P w K mg base ["script", "turn", "draws", "tariff", "kept", "great", "counts", "count", "money", "k", "number", "cents", "price", "begin", "days", "closed", "visits", "text", "found", "asked", "day", "ends", "due", "last", "pair", "brought", "back"] "law" (defScope s_law) f cdv A outer s H E) i).A.guards = some [] := fun _ => hg
  exact (vss_cons (vs_for hF (fun _ => PassesOwn.leaving) (vi_range1 hF (fun _ => rfl) Z.z_range ve_int) (vg_name (i := 1) hF) (vss_cons (vs_set (i := 2) hF (ve_call hF ((has__law_numbers Z Y).mono (by omega)) (fun _ => rfl) (va_cons (ve_call hF ((has__law_cell Z Y).mono (by omega)) (fun _ => rfl) (va_cons (ve_var (i := 0)) (va_cons (ve_var (i := 1)) va_nil))) (va_cons ve_int (va_cons ve_int va_nil))))) (vss_cons (vs_set (i := 3) hF (ve_call hF ((has__law_tariff Z Y).mono (by omega)) (fun _ => rfl) (va_cons (ve_var (i := 2)) va_nil))) (vss_cons (vs_set (i := 4) hF (ve_callTy hF (fun i => call_listAll (hF.calm i)) prim_list (fun _ => rfl) Z.z_list bt_list (va_cons (ve_var (i := 3)) va_nil))) (vss_cons (vs_set (i := 5) hF (ve_call hF ((has__law_numbers Z Y).mono (by omega)) (fun _ => rfl) (va_cons (ve_call hF ((has__law_cell Z Y).mono (by omega)) (fun _ => rfl) (va_cons (ve_var (i := 0)) (va_cons (ve_op (fun _ => op_addAll) prim_add ve_int (ve_var (i := 1))) va_nil))) (va_cons ve_int (va_cons (ve_op (fun _ => op_addAll) prim_add (ve_op (fun _ => op_pow) prim_pow ve_int ve_int) ve_int) va_nil))))) (vss_cons (vs_set (i := 6) hF (ve_lst (va_cons ve_int (va_cons ve_int (va_cons ve_int (va_cons (ve_op (fun _ => op_pow) prim_pow ve_int ve_int) (va_cons (ve_ix (fun i => ix_all (hF.u65 i)) prim_ix (ve_var (i := 5)) ve_int) (va_cons (ve_ix (fun i => ix_all (hF.u65 i)) prim_ix (ve_var (i := 5)) ve_int) (va_cons (ve_ix (fun i => ix_all (hF.u65 i)) prim_ix (ve_var (i := 2)) ve_int) va_nil))))))))) (vss_cons (vs_for hF (fun _ => PassesOwn.leaving) (vi_seq hF (ve_var (i := 3))) (vg_tup hF (vgs_cons (vg_name (i := 10) hF) (vgs_cons (vg_name (i := 11) hF) vgs_nil)) (gC_len (gC_len gN0_len))) (vss_one (vs_set (i := 6) hF (ve_op (fun _ => op_addAll) prim_add (ve_var (i := 6)) (ve_lst (va_cons (ve_op (fun _ => op_sub) prim_sub (ve_var (i := 10)) ve_int) (va_cons (ve_var (i := 10)) (va_cons (ve_op (fun _ => op_addAll) prim_add (ve_var (i := 10)) ve_int) va_nil)))))))) (vss_cons (vs_for hF (fun _ => PassesOwn.leaving) (vi_seq hF (ve_var (i := 6))) (vg_name (i := 7) hF) (vss_cons (vs_set (i := 12) hF (ve_call hF ((has__law_price Z Y).mono (by omega)) (fun _ => rfl) (va_cons (ve_var (i := 3)) (va_cons (ve_var (i := 7)) va_nil)))) (vss_cons (vs_if (vt_not (vt_truth hF (ve_call hF ((has__law_same Z Y).mono (by omega)) (fun _ => rfl) (va_cons (ve_call hF ((has_price_of Z Y).mono (by omega)) (fun _ => rfl) (va_cons (ve_var (i := 3)) (va_cons (ve_var (i := 7)) va_nil))) (va_cons (ve_var (i := 12)) va_nil))))) (vss_one (vs_ret ve_bl)) vss_nil) (vss_one (vs_for hF (fun _ => PassesOwn.leaving) (vi_seq hF (ve_lst (va_cons (ve_var (i := 12)) (va_cons (ve_op (fun _ => op_addAll) prim_add (ve_var (i := 12)) ve_int) (va_cons (ve_callB hF (fun i => call_maxAll (hF.calm i)) prim_max (fun _ => rfl) Z.z_max bt_max (va_cons ve_int (va_cons (ve_op (fun _ => op_sub) prim_sub (ve_var (i := 12)) ve_int) va_nil))) va_nil))))) (vg_name (i := 8) hF) (vss_one (vs_if (vt_not (vt_truth hF (ve_call hF ((has__law_is_most Z Y).mono (by omega)) (fun _ => rfl) (va_cons (ve_var (i := 3)) (va_cons (ve_var (i := 8)) (va_cons (ve_call hF ((has_most_for Z Y).mono (by omega)) (fun _ => rfl) (va_cons (ve_var (i := 3)) (va_cons (ve_var (i := 8)) va_nil))) va_nil)))))) (vss_one (vs_ret ve_bl)) vss_nil))))))) (vss_cons (vs_for hF (fun _ => PassesOwn.leaving) (vi_seq hF (ve_lst (va_cons ve_int (va_cons ve_int (va_cons (ve_ix (fun i => ix_all (hF.u65 i)) prim_ix (ve_var (i := 5)) ve_int) (va_cons (ve_op (fun _ => op_mulAll) prim_mul (ve_ix (fun i => ix_all (hF.u65 i)) prim_ix (ve_var (i := 5)) ve_int) ve_int) (va_cons (ve_op (fun _ => op_pow) prim_pow ve_int ve_int) va_nil))))))) (vg_name (i := 8) hF) (vss_one (vs_if (vt_not (vt_truth hF (ve_call hF ((has__law_is_most Z Y).mono (by omega)) (fun _ => rfl) (va_cons (ve_var (i := 3)) (va_cons (ve_var (i := 8)) (va_cons (ve_call hF ((has_most_for Z Y).mono (by omega)) (fun _ => rfl) (va_cons (ve_var (i := 3)) (va_cons (ve_var (i := 8)) va_nil))) va_nil)))))) (vss_one (vs_ret ve_bl)) vss_nil))) (vss_cons (vs_for hF (fun _ => PassesOwn.leaving) (vi_range1 hF (fun _ => rfl) Z.z_range ve_int) (vg_name (i := 9) hF) (vss_cons (vs_set (i := 13) hF (ve_ix (fun i => ix_all (hF.u65 i)) prim_ix (ve_lst (va_cons ve_int (va_cons (ve_op (fun _ => op_modN) prim_mod (ve_ix (fun i => ix_all (hF.u65 i)) prim_ix (ve_var (i := 2)) (ve_op (fun _ => op_addAll) prim_add ve_int (ve_var (i := 9)))) ve_int) (va_cons ve_int (va_cons (ve_op (fun _ => op_addAll) prim_add ve_int (ve_op (fun _ => op_modN) prim_mod (ve_ix (fun i => ix_all (hF.u65 i)) prim_ix (ve_var (i := 2)) (ve_op (fun _ => op_addAll) prim_add ve_int (ve_var (i := 9)))) ve_int)) (va_cons (ve_op (fun _ => op_modN) prim_mod (ve_op (fun _ => op_mulAll) prim_mul (ve_ix (fun i => ix_all (hF.u65 i)) prim_ix (ve_var (i := 2)) (ve_op (fun _ => op_addAll) prim_add ve_int (ve_var (i := 9)))) ve_int) ve_int) va_nil)))))) (ve_op (fun _ => op_modN) prim_mod (ve_ix (fun i => ix_all (hF.u65 i)) prim_ix (ve_var (i := 2)) (ve_op (fun _ => op_addAll) prim_add ve_int (ve_var (i := 9)))) ve_int))) (vss_cons (vs_set (i := 14) hF (ve_ix (fun i => ix_all (hF.u65 i)) prim_ix (ve_lst (va_cons ve_int (va_cons ve_int (va_cons ve_int (va_cons (ve_op (fun _ => op_modN) prim_mod (ve_ix (fun i => ix_all (hF.u65 i)) prim_ix (ve_var (i := 2)) (ve_op (fun _ => op_addAll) prim_add ve_int (ve_var (i := 9)))) ve_int) (va_cons (ve_op (fun _ => op_modN) prim_mod (ve_ix (fun i => ix_all (hF.u65 i)) prim_ix (ve_var (i := 2)) (ve_op (fun _ => op_addAll) prim_add ve_int (ve_var (i := 9)))) ve_int) va_nil)))))) (ve_op (fun _ => op_modN) prim_mod (ve_ix (fun i => ix_all (hF.u65 i)) prim_ix (ve_var (i := 2)) (ve_op (fun _ => op_addAll) prim_add ve_int (ve_var (i := 9)))) ve_int))) (vss_cons (vs_set (i := 15) hF (ve_call hF ((has__law_some_calendar Z Y).mono (by omega)) (fun _ => rfl) (va_cons (ve_slice hF (ve_var (i := 2)) (vo_some (ve_op (fun _ => op_addAll) prim_add ve_int (ve_var (i := 9)))) vo_none) (va_cons (ve_ix (fun i => ix_all (hF.u65 i)) prim_ix (ve_lst (va_cons ve_int (va_cons ve_int (va_cons ve_int va_nil)))) (ve_op (fun _ => op_modN) prim_mod (ve_ix (fun i => ix_all (hF.u65 i)) prim_ix (ve_var (i := 2)) (ve_op (fun _ => op_addAll) prim_add ve_int (ve_var (i := 9)))) ve_int)) va_nil)))) (vss_cons (vs_set (i := 16) hF (ve_call hF ((has__law_visits Z Y).mono (by omega)) (fun _ => rfl) (va_cons (ve_slice hF (ve_var (i := 2)) (vo_some (ve_op (fun _ => op_addAll) prim_add ve_int (ve_op (fun _ => op_mulAll) prim_mul ve_int (ve_var (i := 9))))) vo_none) (va_cons (ve_var (i := 13)) (va_cons (ve_op (fun _ => op_modN) prim_mod (ve_ix (fun i => ix_all (hF.u65 i)) prim_ix (ve_var (i := 2)) (ve_op (fun _ => op_sub) prim_sub ve_int (ve_var (i := 9)))) ve_int) va_nil))))) (vss_cons (vs_set (i := 17) hF (ve_callB hF (fun i => cr_repr (hF.u70 i) (hG i)) prim_repr (fun _ => rfl) Z.z_repr bt_repr (va_cons (ve_lst (va_cons (ve_var (i := 15)) (va_cons (ve_var (i := 16)) va_nil))) va_nil))) (vss_cons (vs_set (i := 18) hF (ve_call hF ((has__law_counts Z Y).mono (by omega)) (fun _ => rfl) (va_cons (ve_var (i := 15)) (va_cons (ve_var (i := 13)) (va_cons (ve_var (i := 16)) va_nil))))) (vss_cons (vs_set (i := 19) hF (ve_lst (va_cons (ve_var (i := 13)) (va_cons (ve_op (fun _ => op_addAll) prim_add (ve_var (i := 13)) ve_int) (va_cons (ve_op (fun _ => op_addAll) prim_add (ve_var (i := 13)) (ve_var (i := 14))) (va_cons (ve_op (fun _ => op_addAll) prim_add (ve_op (fun _ => op_addAll) prim_add (ve_var (i := 13)) (ve_var (i := 14))) (ve_op (fun _ => op_modN) prim_mod (ve_ix (fun i => ix_all (hF.u65 i)) prim_ix (ve_var (i := 2)) ve_int) ve_int)) va_nil)))))) (vss_cons (vs_for hF (fun _ => PassesOwn.leaving) (vi_seq hF (ve_op (fun _ => op_addAll) prim_add (ve_op (fun _ => op_addAll) prim_add (ve_op (fun _ => op_addAll) prim_add (ve_var (i := 19)) (ve_lst (va_cons ve_int (va_cons ve_int (va_cons ve_int va_nil))))) (ve_lc (own := [("pair", 24)]) hF (fun _ => ⟨rfl, by decide +kernel, (by decide +kernel : ∀ p ∈ ([("pair", 24)] : List (Str × Nat)), (["script", "turn", "draws", "tariff", "kept", "great", "counts", "count", "money", "k", "number", "cents", "price", "begin", "days", "closed", "visits", "text", "found", "asked", "day", "ends", "due", "last", "pair", "brought", "back"] : List Str)[p.2]? = some p.1), (by show ∀ y ∈ (_ : List (Str × NameKind)), y.2 = NameKind.free → List.lookup y.1 (defScope s_law).names = some NameKind.cell ∨ List.lookup y.1 (defScope s_law).names = some NameKind.free; decide +kernel), (by show ∀ y ∈ (_ : List (Str × NameKind)), y.2 = NameKind.local ∨ y.2 = NameKind.cell → y.1 ∈ List.map (fun x => x.1) ([("pair", 24)] : List (Str × Nat)) ∨ y.1 ∉ (["script", "turn", "draws", "tariff", "kept", "great", "counts", "count", "money", "k", "number", "cents", "price", "begin", "days", "closed", "visits", "text", "found", "asked", "day", "ends", "due", "last", "pair", "brought", "back"] : List Str); decide +kernel)⟩) (vi_seq hF (ve_var (i := 16))) (vg_name (i := 24) (hF.blk _)) vts_nil (ve_ix (fun i => ix_all ((hF.blk _).u65 i)) prim_ix (ve_var (i := 24)) ve_int))) (ve_lc (own := [("pair", 24)]) hF (fun _ => ⟨rfl, by decide +kernel, (by decide +kernel : ∀ p ∈ ([("pair", 24)] : List (Str × Nat)), (["script", "turn", "draws", "tariff", "kept", "great", "counts", "count", "money", "k", "number", "cents", "price", "begin", "days", "closed", "visits", "text", "found", "asked", "day", "ends", "due", "last", "pair", "brought", "back"] : List Str)[p.2]? = some p.1), (by show ∀ y ∈ (_ : List (Str × NameKind)), y.2 = NameKind.free → List.lookup y.1 (defScope s_law).names = some NameKind.cell ∨ List.lookup y.1 (defScope s_law).names = some NameKind.free; decide +kernel), (by show ∀ y ∈ (_ : List (Str × NameKind)), y.2 = NameKind.local ∨ y.2 = NameKind.cell → y.1 ∈ List.map (fun x => x.1) ([("pair", 24)] : List (Str × Nat)) ∨ y.1 ∉ (["script", "turn", "draws", "tariff", "kept", "great", "counts", "count", "money", "k", "number", "cents", "price", "begin", "days", "closed", "visits", "text", "found", "asked", "day", "ends", "due", "last", "pair", "brought", "back"] : List Str); decide +kernel)⟩) (vi_seq hF (ve_var (i := 16))) (vg_name (i := 24) (hF.blk _)) (vts_one (vt_cmp (fun _ => op_notN) prim_notN (ve_ix (fun i => ix_all ((hF.blk _).u65 i)) prim_ix (ve_var (i := 24)) ve_int) ve_non)) (ve_ix (fun i => ix_all ((hF.blk _).u65 i)) prim_ix (ve_var (i := 24)) ve_int)))) (vg_name (i := 20) hF) (vss_one (vs_if (VW.vt (vw_and (vt_cmp (fun _ => op_ge) prim_ge (ve_var (i := 20)) (ve_var (i := 13))) (vw_and1 (vt_not (vt_truth hF (ve_call hF ((has__law_same Z Y).mono (by omega)) (fun _ => rfl) (va_cons (ve_call hF ((has_holds_on Z Y).mono (by omega)) (fun _ => rfl) (va_cons (ve_var (i := 15)) (va_cons (ve_var (i := 14)) (va_cons (ve_var (i := 13)) (va_cons (ve_var (i := 16)) (va_cons (ve_var (i := 20)) va_nil)))))) (va_cons (ve_cmp (fun _ => op_lt) prim_lt (ve_ix (fun i => ix_all (hF.u65 i)) prim_ix (ve_var (i := 18)) (ve_var (i := 20))) (ve_var (i := 14))) va_nil)))))))) (vss_one (vs_ret ve_bl)) vss_nil))) (vss_cons (vs_setLc (i := 21) (own := [("day", 20)]) hF (fun _ => ⟨rfl, by decide +kernel, (by decide +kernel : ∀ p ∈ ([("day", 20)] : List (Str × Nat)), (["script", "turn", "draws", "tariff", "kept", "great", "counts", "count", "money", "k", "number", "cents", "price", "begin", "days", "closed", "visits", "text", "found", "asked", "day", "ends", "due", "last", "pair", "brought", "back"] : List Str)[p.2]? = some p.1), (by show ∀ y ∈ (_ : List (Str × NameKind)), y.2 = NameKind.free → List.lookup y.1 (defScope s_law).names = some NameKind.cell ∨ List.lookup y.1 (defScope s_law).names = some NameKind.free; decide +kernel), (by show ∀ y ∈ (_ : List (Str × NameKind)), y.2 = NameKind.local ∨ y.2 = NameKind.cell → y.1 ∈ List.map (fun x => x.1) ([("day", 20)] : List (Str × Nat)) ∨ y.1 ∉ (["script", "turn", "draws", "tariff", "kept", "great", "counts", "count", "money", "k", "number", "cents", "price", "begin", "days", "closed", "visits", "text", "found", "asked", "day", "ends", "due", "last", "pair", "brought", "back"] : List Str); decide +kernel)⟩) (vi_range2 hF (fun _ => rfl) Z.z_range (ve_var (i := 13)) ve_int) (vg_name (i := 20) (hF.blk _)) (vts_one (vt_cmp (fun _ => op_ge) prim_ge (ve_ix (fun i => ix_all ((hF.blk _).u65 i)) prim_ix (ve_var (i := 18)) (ve_var (i := 20))) (ve_var (i := 14)))) (ve_var (i := 20))) (vss_cons (vs_set (i := 22) hF (ve_ix (fun i => ix_all (hF.u65 i)) prim_ix (ve_op (fun _ => op_addAll) prim_add (ve_slice hF (ve_var (i := 21)) (vo_some ve_int) (vo_some ve_int)) (ve_lst (va_cons ve_non va_nil))) ve_int)) (vss_cons (vs_if (vt_not (vt_truth hF (ve_call hF ((has__law_same Z Y).mono (by omega)) (fun _ => rfl) (va_cons (ve_call hF ((has_end_of Z Y).mono (by omega)) (fun _ => rfl) (va_cons (ve_var (i := 15)) (va_cons (ve_var (i := 14)) (va_cons (ve_var (i := 13)) (va_cons (ve_var (i := 16)) va_nil))))) (va_cons (ve_var (i := 22)) va_nil))))) (vss_one (vs_ret ve_bl)) vss_nil) (vss_cons (vs_set (i := 23) hF ve_bl) (vss_cons (vs_if (VW.vt (vw_and (vt_cmp (fun _ => op_gt) prim_gt (ve_callB hF (fun i => call_lenAll) prim_len (fun _ => rfl) Z.z_len bt_len (va_cons (ve_var (i := 16)) va_nil)) ve_int) (vw_and1 (vt_cmp (fun _ => op_isN) prim_isN (ve_ix (fun i => ix_all (hF.u65 i)) prim_ix (ve_ix (fun i => ix_all (hF.u65 i)) prim_ix (ve_var (i := 16)) (ve_op (fun _ => op_sub) prim_sub (ve_callB hF (fun i => call_lenAll) prim_len (fun _ => rfl) Z.z_len bt_len (va_cons (ve_var (i := 16)) va_nil)) ve_int)) ve_int) ve_non)))) (vss_one (vs_set (i := 23) hF (ve_cmp (fun _ => op_lt) prim_lt (ve_ix (fun i => ix_all (hF.u65 i)) prim_ix (ve_var (i := 18)) (ve_ix (fun i => ix_all (hF.u65 i)) prim_ix (ve_ix (fun i => ix_all (hF.u65 i)) prim_ix (ve_var (i := 16)) (ve_op (fun _ => op_sub) prim_sub (ve_callB hF (fun i => call_lenAll) prim_len (fun _ => rfl) Z.z_len bt_len (va_cons (ve_var (i := 16)) va_nil)) ve_int)) ve_int)) (ve_var (i := 14))))) vss_nil) (vss_cons (vs_if (vt_cmp (fun i => op_neA (hF.u64 i)) prim_ne (ve_cmp (fun _ => op_isN) prim_isN (ve_var (i := 22)) ve_non) (ve_var (i := 23))) (vss_one (vs_ret ve_bl)) vss_nil) (vss_one (vs_if (VW.vt (vw_or (vt_not (vt_truth hF (ve_call hF ((has__law_same Z Y).mono (by omega)) (fun _ => rfl) (va_cons (ve_call hF ((has_free_visits Z Y).mono (by omega)) (fun _ => rfl) (va_cons (ve_var (i := 15)) (va_cons (ve_var (i := 14)) (va_cons (ve_var (i := 13)) (va_cons (ve_var (i := 16)) va_nil))))) (va_cons (ve_lc (own := [("brought", 25), ("back", 26)]) hF (fun _ => ⟨rfl, by decide +kernel, (by decide +kernel : ∀ p ∈ ([("brought", 25), ("back", 26)] : List (Str × Nat)), (["script", "turn", "draws", "tariff", "kept", "great", "counts", "count", "money", "k", "number", "cents", "price", "begin", "days", "closed", "visits", "text", "found", "asked", "day", "ends", "due", "last", "pair", "brought", "back"] : List Str)[p.2]? = some p.1), (by show ∀ y ∈ (_ : List (Str × NameKind)), y.2 = NameKind.free → List.lookup y.1 (defScope s_law).names = some NameKind.cell ∨ List.lookup y.1 (defScope s_law).names = some NameKind.free; decide +kernel), (by show ∀ y ∈ (_ : List (Str × NameKind)), y.2 = NameKind.local ∨ y.2 = NameKind.cell → y.1 ∈ List.map (fun x => x.1) ([("brought", 25), ("back", 26)] : List (Str × Nat)) ∨ y.1 ∉ (["script", "turn", "draws", "tariff", "kept", "great", "counts", "count", "money", "k", "number", "cents", "price", "begin", "days", "closed", "visits", "text", "found", "asked", "day", "ends", "due", "last", "pair", "brought", "back"] : List Str); decide +kernel)⟩) (vi_seq hF (ve_var (i := 16))) (vg_tup (hF.blk _) (vgs_cons (vg_name (i := 25) (hF.blk _)) (vgs_cons (vg_name (i := 26) (hF.blk _)) vgs_nil)) (gC_len (gC_len gN0_len))) vts_nil (ve_cmp (fun _ => op_lt) prim_lt (ve_ix (fun i => ix_all ((hF.blk _).u65 i)) prim_ix (ve_var (i := 18)) (ve_var (i := 25))) (ve_var (i := 14)))) va_nil))))) (vw_or1 (vt_cmp (fun i => op_neA (hF.u64 i)) prim_ne (ve_callB hF (fun i => cr_repr (hF.u70 i) (hG i)) prim_repr (fun _ => rfl) Z.z_repr bt_repr (va_cons (ve_lst (va_cons (ve_var (i := 15)) (va_cons (ve_var (i := 16)) va_nil))) va_nil)) (ve_var (i := 17)))))) (vss_one (vs_ret ve_bl)) vss_nil))))))))))))))))) (vss_one (vs_if (vt_cmp (fun i => op_neA (hF.u64 i)) prim_ne (ve_var (i := 3)) (ve_var (i := 4))) (vss_one (vs_ret ve_bl)) vss_nil)))))))))))) (vss_one (vs_ret ve_bl)))
end
/-! ### what the top has written -/
theorem all_mk (hlaw : ∀ ns : List Int, ns.length ≤ 63 → phi_law [.node false .lst (ns.map D.int)] = .ok (.bl true)) {l : PySem.W.OpenLaw} {w : World} {K : PySem.W.Frag} {h : Heap} {mg : Str → Option Value} {fa : Addr} (X : K.In h) (G : h.Ns mainGlobals mg) (hfa : mg "law" = some (.ref fa))
    {f0 : Addr} {od0 an0 : Option Addr} {sl0 : Array (Option Value)} {oc0 kV0 dc0 pm0 cd0 ct0 : Value}
    {f1 : Addr} {od1 an1 : Option Addr} {sl1 : Array (Option Value)} {oc1 kV1 dc1 pm1 cd1 ct1 : Value}
    {f2 : Addr} {od2 an2 : Option Addr} {sl2 : Array (Option Value)} {oc2 kV2 dc2 pm2 cd2 ct2 : Value}
    {f3 : Addr} {od3 an3 : Option Addr} {sl3 : Array (Option Value)} {oc3 kV3 dc3 pm3 cd3 ct3 : Value}
    {f4 : Addr} {od4 an4 : Option Addr} {sl4 : Array (Option Value)} {oc4 kV4 dc4 pm4 cd4 ct4 : Value}
    {f5 : Addr} {od5 an5 : Option Addr} {sl5 : Array (Option Value)} {oc5 kV5 dc5 pm5 cd5 ct5 : Value}
    {f6 : Addr} {od6 an6 : Option Addr} {sl6 : Array (Option Value)} {oc6 kV6 dc6 pm6 cd6 ct6 : Value}
    {f7 : Addr} {od7 an7 : Option Addr} {sl7 : Array (Option Value)} {oc7 kV7 dc7 pm7 cd7 ct7 : Value}
    {f8 : Addr} {od8 an8 : Option Addr} {sl8 : Array (Option Value)} {oc8 kV8 dc8 pm8 cd8 ct8 : Value}
    {f9 : Addr} {od9 an9 : Option Addr} {sl9 : Array (Option Value)} {oc9 kV9 dc9 pm9 cd9 ct9 : Value}
    {f10 : Addr} {od10 an10 : Option Addr} {sl10 : Array (Option Value)} {oc10 kV10 dc10 pm10 cd10 ct10 : Value}
    {f11 : Addr} {od11 an11 : Option Addr} {sl11 : Array (Option Value)} {oc11 kV11 dc11 pm11 cd11 ct11 : Value}
    {f12 : Addr} {od12 an12 : Option Addr} {sl12 : Array (Option Value)} {oc12 kV12 dc12 pm12 cd12 ct12 : Value}
    {f13 : Addr} {od13 an13 : Option Addr} {sl13 : Array (Option Value)} {oc13 kV13 dc13 pm13 cd13 ct13 : Value}
    {f14 : Addr} {od14 an14 : Option Addr} {sl14 : Array (Option Value)} {oc14 kV14 dc14 pm14 cd14 ct14 : Value}
    {f15 : Addr} {od15 an15 : Option Addr} {sl15 : Array (Option Value)} {oc15 kV15 dc15 pm15 cd15 ct15 : Value}
    {f16 : Addr} {od16 an16 : Option Addr} {sl16 : Array (Option Value)} {oc16 kV16 dc16 pm16 cd16 ct16 : Value}
    {f17 : Addr} {od17 an17 : Option Addr} {sl17 : Array (Option Value)} {oc17 kV17 dc17 pm17 cd17 ct17 : Value}
    {t_BEYOND : Tok}
    {t_MOST_THINGS : Tok}
    (a0 : PySem.W.nsIn K mainGlobals "_law_cell" = some (some (.ref f0))) (l0 : K.lookup f0 = some ⟨oc0, od0, .func (PySem.W.fnOf "_law_cell" "_law_cell" (defArgs s__law_cell) (defBody s__law_cell) (defScope s__law_cell) .none kV0 dc0 pm0 an0 cd0 ct0), sl0⟩) (c0 : PySem.W.codeIn K cd0 "_law_cell" = true) (k0 : PySem.W.keepIn K (.ref f0) = true)
    (a1 : PySem.W.nsIn K mainGlobals "_law_counts" = some (some (.ref f1))) (l1 : K.lookup f1 = some ⟨oc1, od1, .func (PySem.W.fnOf "_law_counts" "_law_counts" (defArgs s__law_counts) (defBody s__law_counts) (defScope s__law_counts) .none kV1 dc1 pm1 an1 cd1 ct1), sl1⟩) (c1 : PySem.W.codeIn K cd1 "_law_counts" = true) (k1 : PySem.W.keepIn K (.ref f1) = true)
    (a2 : PySem.W.nsIn K mainGlobals "_law_price" = some (some (.ref f2))) (l2 : K.lookup f2 = some ⟨oc2, od2, .func (PySem.W.fnOf "_law_price" "_law_price" (defArgs s__law_price) (defBody s__law_price) (defScope s__law_price) .none kV2 dc2 pm2 an2 cd2 ct2), sl2⟩) (c2 : PySem.W.codeIn K cd2 "_law_price" = true) (k2 : PySem.W.keepIn K (.ref f2) = true)
    (a3 : PySem.W.nsIn K mainGlobals "_law_is_most" = some (some (.ref f3))) (l3 : K.lookup f3 = some ⟨oc3, od3, .func (PySem.W.fnOf "_law_is_most" "_law_is_most" (defArgs s__law_is_most) (defBody s__law_is_most) (defScope s__law_is_most) .none kV3 dc3 pm3 an3 cd3 ct3), sl3⟩) (c3 : PySem.W.codeIn K cd3 "_law_is_most" = true) (k3 : PySem.W.keepIn K (.ref f3) = true)
    (a4 : PySem.W.nsIn K mainGlobals "_law_numbers" = some (some (.ref f4))) (l4 : K.lookup f4 = some ⟨oc4, od4, .func (PySem.W.fnOf "_law_numbers" "_law_numbers" (defArgs s__law_numbers) (defBody s__law_numbers) (defScope s__law_numbers) .none kV4 dc4 pm4 an4 cd4 ct4), sl4⟩) (c4 : PySem.W.codeIn K cd4 "_law_numbers" = true) (k4 : PySem.W.keepIn K (.ref f4) = true)
    (a5 : PySem.W.nsIn K mainGlobals "_law_same" = some (some (.ref f5))) (l5 : K.lookup f5 = some ⟨oc5, od5, .func (PySem.W.fnOf "_law_same" "_law_same" (defArgs s__law_same) (defBody s__law_same) (defScope s__law_same) .none kV5 dc5 pm5 an5 cd5 ct5), sl5⟩) (c5 : PySem.W.codeIn K cd5 "_law_same" = true) (k5 : PySem.W.keepIn K (.ref f5) = true)
    (a6 : PySem.W.nsIn K mainGlobals "_law_some_calendar" = some (some (.ref f6))) (l6 : K.lookup f6 = some ⟨oc6, od6, .func (PySem.W.fnOf "_law_some_calendar" "_law_some_calendar" (defArgs s__law_some_calendar) (defBody s__law_some_calendar) (defScope s__law_some_calendar) .none kV6 dc6 pm6 an6 cd6 ct6), sl6⟩) (c6 : PySem.W.codeIn K cd6 "_law_some_calendar" = true) (k6 : PySem.W.keepIn K (.ref f6) = true)
    (a7 : PySem.W.nsIn K mainGlobals "_law_tariff" = some (some (.ref f7))) (l7 : K.lookup f7 = some ⟨oc7, od7, .func (PySem.W.fnOf "_law_tariff" "_law_tariff" (defArgs s__law_tariff) (defBody s__law_tariff) (defScope s__law_tariff) .none kV7 dc7 pm7 an7 cd7 ct7), sl7⟩) (c7 : PySem.W.codeIn K cd7 "_law_tariff" = true) (k7 : PySem.W.keepIn K (.ref f7) = true)
    (a8 : PySem.W.nsIn K mainGlobals "_law_visits" = some (some (.ref f8))) (l8 : K.lookup f8 = some ⟨oc8, od8, .func (PySem.W.fnOf "_law_visits" "_law_visits" (defArgs s__law_visits) (defBody s__law_visits) (defScope s__law_visits) .none kV8 dc8 pm8 an8 cd8 ct8), sl8⟩) (c8 : PySem.W.codeIn K cd8 "_law_visits" = true) (k8 : PySem.W.keepIn K (.ref f8) = true)
    (a9 : PySem.W.nsIn K mainGlobals "open_days" = some (some (.ref f9))) (l9 : K.lookup f9 = some ⟨oc9, od9, .func (PySem.W.fnOf "open_days" "open_days" (defArgs s_open_days) (defBody s_open_days) (defScope s_open_days) .none kV9 dc9 pm9 an9 cd9 ct9), sl9⟩) (c9 : PySem.W.codeIn K cd9 "open_days" = true) (k9 : PySem.W.keepIn K (.ref f9) = true)
    (a10 : PySem.W.nsIn K mainGlobals "away_days" = some (some (.ref f10))) (l10 : K.lookup f10 = some ⟨oc10, od10, .func (PySem.W.fnOf "away_days" "away_days" (defArgs s_away_days) (defBody s_away_days) (defScope s_away_days) .none kV10 dc10 pm10 an10 cd10 ct10), sl10⟩) (c10 : PySem.W.codeIn K cd10 "away_days" = true) (k10 : PySem.W.keepIn K (.ref f10) = true)
    (a11 : PySem.W.nsIn K mainGlobals "counted" = some (some (.ref f11))) (l11 : K.lookup f11 = some ⟨oc11, od11, .func (PySem.W.fnOf "counted" "counted" (defArgs s_counted) (defBody s_counted) (defScope s_counted) .none kV11 dc11 pm11 an11 cd11 ct11), sl11⟩) (c11 : PySem.W.codeIn K cd11 "counted" = true) (k11 : PySem.W.keepIn K (.ref f11) = true)
    (a12 : PySem.W.nsIn K mainGlobals "holds_on" = some (some (.ref f12))) (l12 : K.lookup f12 = some ⟨oc12, od12, .func (PySem.W.fnOf "holds_on" "holds_on" (defArgs s_holds_on) (defBody s_holds_on) (defScope s_holds_on) .none kV12 dc12 pm12 an12 cd12 ct12), sl12⟩) (c12 : PySem.W.codeIn K cd12 "holds_on" = true) (k12 : PySem.W.keepIn K (.ref f12) = true)
    (a13 : PySem.W.nsIn K mainGlobals "end_of" = some (some (.ref f13))) (l13 : K.lookup f13 = some ⟨oc13, od13, .func (PySem.W.fnOf "end_of" "end_of" (defArgs s_end_of) (defBody s_end_of) (defScope s_end_of) .none kV13 dc13 pm13 an13 cd13 ct13), sl13⟩) (c13 : PySem.W.codeIn K cd13 "end_of" = true) (k13 : PySem.W.keepIn K (.ref f13) = true)
    (a14 : PySem.W.nsIn K mainGlobals "free_visits" = some (some (.ref f14))) (l14 : K.lookup f14 = some ⟨oc14, od14, .func (PySem.W.fnOf "free_visits" "free_visits" (defArgs s_free_visits) (defBody s_free_visits) (defScope s_free_visits) .none kV14 dc14 pm14 an14 cd14 ct14), sl14⟩) (c14 : PySem.W.codeIn K cd14 "free_visits" = true) (k14 : PySem.W.keepIn K (.ref f14) = true)
    (a15 : PySem.W.nsIn K mainGlobals "price_of" = some (some (.ref f15))) (l15 : K.lookup f15 = some ⟨oc15, od15, .func (PySem.W.fnOf "price_of" "price_of" (defArgs s_price_of) (defBody s_price_of) (defScope s_price_of) .none kV15 dc15 pm15 an15 cd15 ct15), sl15⟩) (c15 : PySem.W.codeIn K cd15 "price_of" = true) (k15 : PySem.W.keepIn K (.ref f15) = true)
    (a16 : PySem.W.nsIn K mainGlobals "most_for" = some (some (.ref f16))) (l16 : K.lookup f16 = some ⟨oc16, od16, .func (PySem.W.fnOf "most_for" "most_for" (defArgs s_most_for) (defBody s_most_for) (defScope s_most_for) .none kV16 dc16 pm16 an16 cd16 ct16), sl16⟩) (c16 : PySem.W.codeIn K cd16 "most_for" = true) (k16 : PySem.W.keepIn K (.ref f16) = true)
    (a17 : PySem.W.nsIn K mainGlobals "law" = some (some (.ref f17))) (l17 : K.lookup f17 = some ⟨oc17, od17, .func (PySem.W.fnOf "law" "law" (defArgs s_law) (defBody s_law) (defScope s_law) .none kV17 dc17 pm17 an17 cd17 ct17), sl17⟩) (c17 : PySem.W.codeIn K cd17 "law" = true) (k17 : PySem.W.keepIn K (.ref f17) = true)
    (z_bool : PySem.W.nsIn K mainGlobals "bool" = some none)
    (z_enumerate : PySem.W.nsIn K mainGlobals "enumerate" = some none)
    (z_int : PySem.W.nsIn K mainGlobals "int" = some none)
    (z_isinstance : PySem.W.nsIn K mainGlobals "isinstance" = some none)
    (z_len : PySem.W.nsIn K mainGlobals "len" = some none)
    (z_list : PySem.W.nsIn K mainGlobals "list" = some none)
    (z_max : PySem.W.nsIn K mainGlobals "max" = some none)
    (z_min : PySem.W.nsIn K mainGlobals "min" = some none)
    (z_range : PySem.W.nsIn K mainGlobals "range" = some none)
    (z_repr : PySem.W.nsIn K mainGlobals "repr" = some none)
    (z_set : PySem.W.nsIn K mainGlobals "set" = some none)
    (z_sorted : PySem.W.nsIn K mainGlobals "sorted" = some none)
    (z_str : PySem.W.nsIn K mainGlobals "str" = some none)
    (z_sum : PySem.W.nsIn K mainGlobals "sum" = some none)
    (z_tuple : PySem.W.nsIn K mainGlobals "tuple" = some none)
    (c_BEYOND : PySem.W.nsIn K mainGlobals "BEYOND" = some (some (Value.int 10400 t_BEYOND)))
    (c_MOST_THINGS : PySem.W.nsIn K mainGlobals "MOST_THINGS" = some (some (Value.int 1000000000 t_MOST_THINGS))) :
    ∃ fd : FuncData, (∀ (s : Shared) (v : Value), BindsTo s fd ⟨[v], []⟩ [("script", v)]) ∧ ∀ base : Heap, K.In base → base.Ns mainGlobals mg → FnG l.prog w K mg base (L2.CX l.prog w) 6 fa fd ["script"] (spLaw K) := by
  have Z : Zs mg := ⟨PySem.W.mg_none_of X G z_bool, PySem.W.mg_none_of X G z_enumerate, PySem.W.mg_none_of X G z_int, PySem.W.mg_none_of X G z_isinstance, PySem.W.mg_none_of X G z_len, PySem.W.mg_none_of X G z_list, PySem.W.mg_none_of X G z_max, PySem.W.mg_none_of X G z_min, PySem.W.mg_none_of X G z_range, PySem.W.mg_none_of X G z_repr, PySem.W.mg_none_of X G z_set, PySem.W.mg_none_of X G z_sorted, PySem.W.mg_none_of X G z_str, PySem.W.mg_none_of X G z_sum, PySem.W.mg_none_of X G z_tuple, ⟨_, PySem.W.mg_of X G c_BEYOND, ⟨_, rfl⟩⟩, ⟨_, PySem.W.mg_of X G c_MOST_THINGS, ⟨_, rfl⟩⟩⟩
  have Y : Ys K mg := ⟨⟨f0, _, fun_mk l0 c0 k0, PySem.W.mg_of X G a0⟩, ⟨f1, _, fun_mk l1 c1 k1, PySem.W.mg_of X G a1⟩, ⟨f2, _, fun_mk l2 c2 k2, PySem.W.mg_of X G a2⟩, ⟨f3, _, fun_mk l3 c3 k3, PySem.W.mg_of X G a3⟩, ⟨f4, _, fun_mk l4 c4 k4, PySem.W.mg_of X G a4⟩, ⟨f5, _, fun_mk l5 c5 k5, PySem.W.mg_of X G a5⟩, ⟨f6, _, fun_mk l6 c6 k6, PySem.W.mg_of X G a6⟩, ⟨f7, _, fun_mk l7 c7 k7, PySem.W.mg_of X G a7⟩, ⟨f8, _, fun_mk l8 c8 k8, PySem.W.mg_of X G a8⟩, ⟨f9, _, fun_mk l9 c9 k9, PySem.W.mg_of X G a9⟩, ⟨f10, _, fun_mk l10 c10 k10, PySem.W.mg_of X G a10⟩, ⟨f11, _, fun_mk l11 c11 k11, PySem.W.mg_of X G a11⟩, ⟨f12, _, fun_mk l12 c12 k12, PySem.W.mg_of X G a12⟩, ⟨f13, _, fun_mk l13 c13 k13, PySem.W.mg_of X G a13⟩, ⟨f14, _, fun_mk l14 c14 k14, PySem.W.mg_of X G a14⟩, ⟨f15, _, fun_mk l15 c15 k15, PySem.W.mg_of X G a15⟩, ⟨f16, _, fun_mk l16 c16 k16, PySem.W.mg_of X G a16⟩, ⟨f17, _, fun_mk l17 c17 k17, PySem.W.mg_of X G a17⟩⟩
  cases hfa.symm.trans (PySem.W.mg_of X G a17)
  refine ⟨_, fun s v => .of_eq rfl, fun base _ _ => law_okG (?_ : FnG l.prog w K mg base (L2.CX l.prog w) 6 fa (PySem.W.fnOf "law" "law" (defArgs s_law) (defBody s_law) (defScope s_law) .none kV17 dc17 pm17 an17 cd17 ct17) ["script"] (spD K mg phi_law 1)) hlaw⟩
  exact ok_law Z Y (fun_mk l17 c17 k17)
end Py.K89

set_option linter.all false
set_option maxRecDepth 100000
namespace Py.K89
open PySem L2
abbrev P := Int × Int
def t2 (a : P) : D := .node false .tup [.int a.1, .int a.2]
@[simp] theorem frz_t2 (a : P) : frz (t2 a) = t2 a := by simp [t2]
@[simp] theorem noShr_t2 (a : P) : noShr (t2 a) = true := by simp [t2]
@[simp] theorem ix_t2_0 (a : P) : gIx (t2 a) (.int 0) = some (.int a.1) := by simp [t2]
@[simp] theorem ix_t2_1 (a : P) : gIx (t2 a) (.int 1) = some (.int a.2) := by simp [t2]
@[simp] theorem tp_t2 {Gs : List D → List Nat → Ev → Option Ev} {p : List Nat} {ρ : Ev} (a : P) : gTp Gs (t2 a, p) ρ = Gs [.int a.1, .int a.2] p ρ := Eq.trans rfl rfl
theorem toPy_t2 (a : P) : toPy (t2 a) = some (PyE.py a) := by simp [t2, toPy, toPyL]; rfl
@[simp] theorem noShr_t2s (R : List P) : noShrL (R.map t2) = true := noShrL_map noShr_t2 R
@[simp] theorem frz_t2s (R : List P) : (R.map t2).map frz = R.map t2 := by simp
def G (T : List P) (k : Nat) : P := T.getD k (0, 0)
theorem atT {T : List P} {i : Int} {k : Nat} (h : i = k) (hk : k < T.length) : atI (T.map t2) i = some (t2 (G T k)) := by
  subst h
  have := atI_map (f := t2) (xs := T) (i := (k : Int)) (0, 0) (by omega) (by omega)
  rw [Int.toNat_natCast] at this
  exact this
/-- the last thing of the k-th price -/
def lastOf (T : List P) (c : Int) (k : Nat) : Int := if k + 1 < T.length then min c ((G T (k + 1)).1 - 1) else c
def term (T : List P) (c : Int) (k : Nat) : Int := max 0 (lastOf T c k - (G T k).1 + 1) * (G T k).2
def price (T : List P) (c : Int) : Nat → Int
  | 0 => 0
  | k + 1 => price T c k + term T c k
def TOk (T : List P) : Prop := T.length ≤ 20 ∧ ∀ k, k < T.length → 1 ≤ (G T k).1 ∧ (G T k).1 ≤ 10000 ∧ 0 ≤ (G T k).2 ∧ (G T k).2 < 10000
theorem price_mono {T : List P} (hT : TOk T) {c d : Int} (h : c ≤ d) : ∀ n, n ≤ T.length → price T c n ≤ price T d n
  | 0, _ => Int.le_refl _
  | n + 1, hn => by
    have ih := price_mono hT h n (by omega)
    obtain ⟨_, _, h3, _⟩ := hT.2 n (by omega)
    have : term T c n ≤ term T d n := by
      unfold term
      refine Int.mul_le_mul_of_nonneg_right ?_ h3
      have : lastOf T c n ≤ lastOf T d n := by unfold lastOf; split <;> omega
      omega
    rw [price, price]
    omega
theorem price_0 {T : List P} (hT : TOk T) : ∀ n, n ≤ T.length → price T 0 n = 0
  | 0, _ => rfl
  | n + 1, hn => by
    have ih := price_0 hT n (by omega)
    obtain ⟨h1, _, _, _⟩ := hT.2 n (by omega)
    have h0 : lastOf T 0 n ≤ 0 := by unfold lastOf; split <;> omega
    have : term T 0 n = 0 := by
      unfold term
      have : max 0 (lastOf T 0 n - (G T n).1 + 1) = 0 := by omega
      rw [this]
      simp
    rw [price, ih, this]
    rfl
theorem price_nn {T : List P} (hT : TOk T) (c : Int) : ∀ n, n ≤ T.length → 0 ≤ price T c n
  | 0, _ => Int.le_refl _
  | n + 1, hn => by
    have ih := price_nn hT c n (by omega)
    obtain ⟨_, _, h3, _⟩ := hT.2 n (by omega)
    have : 0 ≤ term T c n := Int.mul_nonneg (by omega) h3
    rw [price]
    omega
theorem v_price_of {T : List P} (hT : TOk T) (c : Int) : phi_price_of [.node false .lst (T.map t2), .int c] = .ok (.int (price T c T.length)) := by
  unfold phi_price_of F_price_of run
  simp [start]
  generalize hq : oFor _ _ _ _ _ = o
  obtain ⟨b, rfl, rfl⟩ := for_set hq 2 T.zipIdx (fun q => .node false .tup [.int (q.2 : Nat), t2 q.1]) [0] (fun b : Int => sl (.int b)) (fun k b => b = price T c k) 0 (by simp [enumD_map, List.zipIdx_map, Function.comp_def]) (by simp) rfl fun k x b hx hk hb => by
    subst hb
    rw [List.length_zipIdx] at hk
    have hlen := hT.1
    rw [List.getElem?_zipIdx, List.getElem?_eq_getElem hk] at hx
    simp at hx
    subst hx
    have eG : G T k = T[k] := by unfold G; simp [hk]
    rw [← eG]
    obtain ⟨_, _, h3, h4⟩ := hT.2 k hk
    have hm : ∀ z, cMul z (G T k).2 = true := fun z => cMul_r (by omega) (by omega)
    have hlast : price T c (k + 1) = price T c k + max 0 (lastOf T c k - (G T k).1 + 1) * (G T k).2 := rfl
    rw [hlast]
    unfold lastOf
    by_cases hk2 : k + 1 < T.length
    · have e1 := atT (T := T) (i := (k : Int) + 1) (k := k + 1) (by omega) hk2
      have hki : (k : Int) + 1 < T.length := by omega
      generalize price T c k = pr
      generalize G T k = g at *
      generalize G T (k + 1) = g2 at *
      simp [hki, hk2, e1, hm]
    · have hki : ¬ (k : Int) + 1 < T.length := by omega
      generalize price T c k = pr
      generalize G T k = g at *
      simp [hki, hk2, hm]
  simp
theorem v_law_price {T : List P} (hT : TOk T) (c : Int) : phi__law_price [.node false .lst (T.map t2), .int c] = .ok (.int (price T c T.length)) := by
  unfold phi__law_price F__law_price run
  have hlen := hT.1
  have hin : in62 T.length = true := in62_of (by omega) (by omega)
  simp [start]
  generalize hq : oFor _ _ _ _ _ = o
  obtain ⟨b, rfl, rfl⟩ := for_set hq 2 (rg T.length) D.int [] (fun b : Int => sl (.int b)) (fun k b => b = price T c k) 0 (by simp [hin, rngI0]) (by simp) rfl fun k x b hx hk hb => by
    subst hb
    rw [rg_len] at hk
    rw [rg_get hk] at hx
    obtain rfl : (k : Int) = x := by simpa using hx
    clear hx hq
    have e0 := atT (T := T) (i := (k : Int)) rfl hk
    obtain ⟨_, _, h3, h4⟩ := hT.2 k hk
    have hm : ∀ z, cMul z (G T k).2 = true := fun z => cMul_r (by omega) (by omega)
    have key : ∀ stop : Int, stop = lastOf T c k + 1 → price T c (k + 1) = price T c k + if (G T k).1 < stop then (stop - (G T k).1) * (G T k).2 else 0 := by
      intro stop hs
      rw [price]
      congr 1
      unfold term
      split
      · congr 1
        omega
      · have : max 0 (lastOf T c k - (G T k).1 + 1) = 0 := by omega
        rw [this]
        simp
    by_cases hk2 : k + 1 < T.length
    · have e1 := atT (T := T) (i := (k : Int) + 1) (k := k + 1) (by omega) hk2
      have hki : (k : Int) + 1 < T.length := by omega
      have hs := key (min (c + 1) (G T (k + 1)).1) (by unfold lastOf; rw [if_pos hk2]; omega)
      rw [hs]
      generalize price T c k = pr
      generalize G T k = g at *
      generalize G T (k + 1) = g2 at *
      generalize (k : Int) = k0 at *
      generalize hst : min (c + 1) g2.1 = st
      by_cases hb : g.1 < st
      · simp [hki, e0, e1, hm, hst, hb]
      · simp [hki, e0, e1, hm, hst, hb]
    · have hki : ¬ (k : Int) + 1 < T.length := by omega
      have hs := key (c + 1) (by unfold lastOf; rw [if_neg hk2])
      rw [hs]
      generalize price T c k = pr
      generalize G T k = g at *
      generalize (k : Int) = k0 at *
      generalize hst : c + 1 = st
      by_cases hb : g.1 < st
      · simp [hki, e0, hm, hst, hb]
      · simp [hki, e0, hm, hst, hb]
  simp
theorem v_most_for {T : List P} (hT : TOk T) (m : Int) (hm : 0 ≤ m) : ∃ r : Int, (0 ≤ r ∧ r ≤ 1000000000) ∧ price T r T.length ≤ m ∧ (r = 1000000000 ∨ m < price T (r + 1) T.length) ∧ phi_most_for [.node false .lst (T.map t2), .int m] = .ok (.int r) := by
  unfold phi_most_for F_most_for run
  simp [start]
  generalize hq : sWhile _ _ _ _ = o
  obtain ⟨ρe, rfl, r, h1, h2, h3, z, rfl⟩ := while_dec hq (fun n ρ => ∃ (lo hi : Int), (0 ≤ lo ∧ lo ≤ hi ∧ hi ≤ 1000000000) ∧ price T lo T.length ≤ m ∧ (hi = 1000000000 ∨ m < price T (hi + 1) T.length) ∧ n = (hi - lo).toNat ∧ ρ = [sl (.node false .lst (T.map t2)), sl (.int m), sl (.int lo), sl (.int hi), none])
    (fun ρ => ∃ r : Int, (0 ≤ r ∧ r ≤ 1000000000) ∧ price T r T.length ≤ m ∧ (r = 1000000000 ∨ m < price T (r + 1) T.length) ∧ ∃ hi : Int, ρ = [sl (.node false .lst (T.map t2)), sl (.int m), sl (.int r), sl (.int hi), none]) 1000000000 ⟨0, 1000000000, by omega, by rw [price_0 hT _ (Nat.le_refl _)]; exact hm, .inl rfl, rfl, rfl⟩ fun k ρ hi => by
      obtain ⟨lo, hi, h0, h1, h2, hk, rfl⟩ := hi
      by_cases hlt : lo < hi
      · right
        refine ⟨by simp [hlt], ?_⟩
        have hd : (lo + hi + 1).fdiv 2 = (lo + hi + 1) / 2 := Int.fdiv_eq_ediv_of_nonneg _ (by omega)
        have hv := v_price_of hT ((lo + hi + 1) / 2)
        generalize hmid : (lo + hi + 1) / 2 = mid at *
        have hmb : lo < mid ∧ mid ≤ hi := by omega
        by_cases hp : price T mid T.length ≤ m
        · simp [hd, hv, hp]
          exact ⟨_, by omega, mid, hi, by omega, hp, h2, rfl, rfl, rfl⟩
        · simp [hd, hv, hp]
          exact ⟨_, by omega, lo, mid - 1, by omega, h1, .inr (by have : mid - 1 + 1 = mid := by omega
                                                                  rw [this]; omega), rfl, rfl, rfl⟩
      · left
        have : lo = hi := by omega
        subst this
        exact ⟨by simp, lo, by omega, h1, h2, lo, rfl⟩
  exact ⟨r, h1, h2, h3, by simp⟩
end Py.K89

set_option linter.all false
set_option maxRecDepth 100000
namespace Py.K89
open PySem L2
theorem v_is_most {T : List P} (hT : TOk T) {m r : Int} (h0 : 0 ≤ r ∧ r ≤ 1000000000) (h1 : price T r T.length ≤ m) (h2 : r = 1000000000 ∨ m < price T (r + 1) T.length) : phi__law_is_most [.node false .lst (T.map t2), .int m, .int r] = .ok (.bl true) := by
  have e1 := v_law_price hT r
  have e2 := v_law_price hT (r + 1)
  unfold phi__law_is_most F__law_is_most run
  have a1 : ¬ r < 0 := by omega
  have a2 : ¬ 1000000000 < r := by omega
  have a3 : ¬ m < price T r T.length := by omega
  by_cases hr : r = 1000000000
  · subst hr
    simp [start, e1, a3]
  · have h2 := h2.resolve_left hr
    simp [start, e1, e2, a1, a2, a3, hr, h2]
theorem ixd {L : List Int} {n : Nat} (hL : L.length = n) (hb : ∀ x ∈ L, 0 ≤ x ∧ x < 5040) (i : Int) (h0 : 0 ≤ i) (h1 : i < n) : ∃ v, atI (L.map D.int) i = some (.int v) ∧ 0 ≤ v ∧ v < 5040 := by
  refine ⟨_, atI_int h0 (by omega), ?_⟩
  have hi : i.toNat < L.length := by omega
  rw [List.getD_eq_getElem?_getD, List.getElem?_eq_getElem hi]
  exact hb _ (List.getElem_mem hi)
theorem fm (z : Int) (w : Int) (hw : 0 < w) : 0 ≤ z.fmod w ∧ z.fmod w < w := ⟨fmod_nn z hw, fmod_lt z hw⟩
theorem ix3 {z a b c : Int} (h : 0 ≤ z ∧ z < 3) : ∃ v, atI [D.int a, D.int b, D.int c] z = some (.int v) ∧ (v = a ∨ v = b ∨ v = c) := by
  have : z = 0 ∨ z = 1 ∨ z = 2 := by omega
  rcases this with rfl | rfl | rfl
  · exact ⟨a, rfl, .inl rfl⟩
  · exact ⟨b, rfl, .inr (.inl rfl)⟩
  · exact ⟨c, rfl, .inr (.inr rfl)⟩
theorem ix4 {z a b c d : Int} (h : 0 ≤ z ∧ z < 4) : ∃ v, atI [D.int a, D.int b, D.int c, D.int d] z = some (.int v) ∧ (v = a ∨ v = b ∨ v = c ∨ v = d) := by
  have : z = 0 ∨ z = 1 ∨ z = 2 ∨ z = 3 := by omega
  rcases this with rfl | rfl | rfl | rfl
  · exact ⟨a, rfl, .inl rfl⟩
  · exact ⟨b, rfl, .inr (.inl rfl)⟩
  · exact ⟨c, rfl, .inr (.inr (.inl rfl))⟩
  · exact ⟨d, rfl, .inr (.inr (.inr rfl))⟩
theorem ix5 {z a b c d e : Int} (h : 0 ≤ z ∧ z < 5) : ∃ v, atI [D.int a, D.int b, D.int c, D.int d, D.int e] z = some (.int v) ∧ (v = a ∨ v = b ∨ v = c ∨ v = d ∨ v = e) := by
  have : z = 0 ∨ z = 1 ∨ z = 2 ∨ z = 3 ∨ z = 4 := by omega
  rcases this with rfl | rfl | rfl | rfl | rfl
  · exact ⟨a, rfl, .inl rfl⟩
  · exact ⟨b, rfl, .inr (.inl rfl)⟩
  · exact ⟨c, rfl, .inr (.inr (.inl rfl))⟩
  · exact ⟨d, rfl, .inr (.inr (.inr (.inl rfl)))⟩
  · exact ⟨e, rfl, .inr (.inr (.inr (.inr rfl)))⟩
def sel5 (z a b c d e : Int) : Int := if z = 0 then a else if z = 1 then b else if z = 2 then c else if z = 3 then d else e
theorem at_sel5 {z a b c d e : Int} (h : 0 ≤ z ∧ z < 5) : atI [D.int a, D.int b, D.int c, D.int d, D.int e] z = some (.int (sel5 z a b c d e)) := by
  have : z = 0 ∨ z = 1 ∨ z = 2 ∨ z = 3 ∨ z = 4 := by omega
  rcases this with rfl | rfl | rfl | rfl | rfl <;> rfl
@[simp] theorem gSorted_ints {o : Bool} {b : List Int} : gSorted [.node o .lst (b.map D.int)] = some (.node true .lst ((srt b).map D.int)) := by
  show (intL _).map _ = _
  rw [intL_map]; rfl
theorem v_tariff {L : List Int} (hL : L.length = 70) (hb : ∀ x ∈ L, 0 ≤ x ∧ x < 5040) : ∃ T : List P, TOk T ∧ phi__law_tariff [.node false .lst (L.map .int)] = .ok (.node true .lst (T.map t2)) := by
  unfold phi__law_tariff F__law_tariff run
  obtain ⟨v0, e0, b0, b0'⟩ := ixd hL hb 0 (by omega) (by omega)
  obtain ⟨v9, e9, b9, b9'⟩ := ixd hL hb 9 (by omega) (by omega)
  obtain ⟨v10, e10, b10, b10'⟩ := ixd hL hb 10 (by omega) (by omega)
  obtain ⟨v11, e11, b11, b11'⟩ := ixd hL hb 11 (by omega) (by omega)
  have m8 := fm v0 8 (by omega)
  simp [start, e0]
  generalize hm8 : v0.fmod 8 = n at *
  have hin : in62 n = true := in62_of (by omega) (by omega)
  generalize hq : oFor _ _ _ _ _ = o
  obtain ⟨b, hb2, rfl⟩ := for_set hq 1 (rg n.toNat) D.int [] (fun b : List Int => sl (.node true .lst (b.map .int))) (fun k b => b.length ≤ 1 + k ∧ ∀ x ∈ b, 1 ≤ x ∧ x ≤ 10000) [1] (by simp [e0, hm8, hin, rngI0]) (by simp) (by simp) fun k x b hx hk hb2 => by
    rw [rg_len] at hk
    rw [rg_get hk] at hx
    obtain rfl : (k : Int) = x := by simpa using hx
    clear hx hq
    obtain ⟨u, eu, bu, bu'⟩ := ixd hL hb (1 + (k : Int)) (by omega) (by omega)
    have s1 := fm u 5 (by omega)
    have s2 := fm u 40 (by omega)
    have s3 := fm (u * 2) 9998 (by omega)
    have hm : cMul u 2 = true := cMul_r (by omega) (by omega)
    have hs : ¬ sizeLine ≤ b.length := by rw [sizeLine_eq]; omega
    obtain ⟨w, ew, hw⟩ := ix4 (a := u.fmod 5) (b := u.fmod 40) (c := (u * 2).fmod 9998) (d := 9997 - (k : Int)) (fm v9 4 (by omega))
    have hkb : (k : Int) < 8 := by omega
    have hw0 : 0 ≤ w ∧ w ≤ 9998 := by omega
    generalize (k : Int) = kk at *
    by_cases hmem : 2 + w ∈ b
    · simp [eu, hm, e9, ew, hmem]
      exact ⟨b, ⟨by omega, hb2.2⟩, rfl⟩
    · simp [eu, hm, e9, ew, hmem, hs, putE, kd]
      exact ⟨b ++ [2 + w], ⟨by simp; omega, fun x hx => by
        rcases List.mem_append.mp hx with hx | hx
        · exact hb2.2 x hx
        · simp at hx; omega⟩, by simp⟩
  rw [rg_len] at hb2
  simp
  generalize hq : eLc _ _ _ _ _ _ = o
  have hperm := srt_perm b
  have hsl : (srt b).length ≤ 9 := by rw [hperm.length_eq]; omega
  have hsb : ∀ x ∈ srt b, 1 ≤ x ∧ x ≤ 10000 := fun x hx => hb2.2 x (hperm.mem_iff.mp hx)
  generalize hsr : srt b = sb at *
  have := eLc_all hq sb D.int (fun x => t2 (x, (sel5 ((v11 + x).fmod 5) (v10.fmod 9) (v10 * x) 9999 0 x).fmod 10000)) [] (by simp [hsr]) (by omega) (fun _ => noShr_t2 _) fun x hx => by
    have hm : cMul v10 x = true := cMul_l (by omega) (by omega)
    have es := at_sel5 (a := v10.fmod 9) (b := v10 * x) (c := 9999) (d := 0) (e := x) (fm (v11 + x) 5 (by omega))
    exact ⟨_, rfl, [], by simp [e10, e11, hm, es, t2]⟩
  subst this
  clear hq
  simp
  refine ⟨sb.map fun x => (x, (sel5 ((v11 + x).fmod 5) (v10.fmod 9) (v10 * x) 9999 0 x).fmod 10000), ⟨by simp; omega, fun k hk => ?_⟩, by rw [List.map_map]; rfl⟩
  have hk' : k < sb.length := by simpa using hk
  have e : G (sb.map fun x => (x, (sel5 ((v11 + x).fmod 5) (v10.fmod 9) (v10 * x) 9999 0 x).fmod 10000)) k = (sb[k], (sel5 ((v11 + sb[k]).fmod 5) (v10.fmod 9) (v10 * sb[k]) 9999 0 sb[k]).fmod 10000) := by
    unfold G
    rw [List.getD_eq_getElem?_getD, List.getElem?_map, List.getElem?_eq_getElem hk']
    rfl
  rw [e]
  have h1 := hsb _ (List.getElem_mem hk')
  have h2 := fm (sel5 ((v11 + sb[k]).fmod 5) (v10.fmod 9) (v10 * sb[k]) 9999 0 sb[k]) 10000 (by omega)
  exact ⟨h1.1, h1.2, h2.1, h2.2⟩
end Py.K89

set_option linter.all false
set_option maxRecDepth 100000
namespace Py.K89
open PySem L2
/-! open days -/
def W (cl : List Int) (a b : Int) : Int := if b ≤ a then 0 else b - a - ((cl.filter fun x => decide (a ≤ x) && decide (x < b)).length : Int)
theorem v_open_days {cl : List Int} (hc : cl.length ≤ 400) (a b : Int) : phi_open_days [.node false .lst (cl.map .int), .int a, .int b] = .ok (.int (W cl a b)) := by
  unfold phi_open_days F_open_days run W
  by_cases h : b ≤ a
  · simp [start, h]
  · simp [start, h]
    generalize hl : eLc _ _ _ _ _ _ = r
    have := eLc_D hl cl D.int (fun x => decide (a ≤ x) && decide (x < b)) D.int [0] (by simp) (by omega) (fun _ => rfl) fun x hx => by
      refine ⟨_, rfl, ?_, fun _ => ⟨[], by simp⟩⟩
      by_cases h1 : a ≤ x <;> simp [h1]
    subst this
    simp
theorem W_le {cl : List Int} {a b : Int} (h : b ≤ a) : W cl a b = 0 := by unfold W; rw [if_pos h]
theorem W_succ {cl : List Int} (hn : cl.Nodup) (a d : Int) : W cl a (d + 1) = W cl a d + if a ≤ d ∧ d ∉ cl then 1 else 0 := by
  by_cases had : a ≤ d
  · have key : ∀ l : List Int, l.Nodup → ((l.filter fun x => decide (a ≤ x) && decide (x < d + 1)).length : Int) = ((l.filter fun x => decide (a ≤ x) && decide (x < d)).length : Int) + if d ∈ l then 1 else 0 := by
      intro l
      induction l with
      | nil => intro _; simp
      | cons y l ih2 =>
        intro hl
        obtain ⟨h1, h2⟩ := List.nodup_cons.mp hl
        have ih2 := ih2 h2
        by_cases hy : y = d
        · subst hy
          have a1 : (decide (a ≤ y) && decide (y < y + 1)) = true := by simp; omega
          have a2 : (decide (a ≤ y) && decide (y < y)) = false := by simp
          rw [if_neg h1] at ih2
          rw [if_pos List.mem_cons_self]
          simp only [List.filter_cons, a1, a2, if_true, Bool.false_eq_true, if_false, List.length_cons]
          omega
        · have e1 : (decide (y < d + 1)) = decide (y < d) := by
            apply decide_eq_decide.mpr
            omega
          have e2 : (d ∈ y :: l) = (d ∈ l) := by
            apply propext
            constructor
            · intro h
              rcases List.mem_cons.mp h with h | h
              · exact absurd h.symm hy
              · exact h
            · exact List.mem_cons_of_mem _
          simp only [List.filter_cons, e1, e2]
          split
          · simp only [List.length_cons]; omega
          · exact ih2
    have hk := key cl hn
    have e0 : W cl a (d + 1) = d + 1 - a - ((cl.filter fun x => decide (a ≤ x) && decide (x < d + 1)).length : Int) := by unfold W; rw [if_neg (by omega)]
    have e1 : W cl a d = d - a - ((cl.filter fun x => decide (a ≤ x) && decide (x < d)).length : Int) := by
      unfold W
      by_cases h : d ≤ a
      · rw [if_pos h]
        have : (cl.filter fun x => decide (a ≤ x) && decide (x < d)) = [] := by
          rw [List.filter_eq_nil_iff]
          intro x _
          simp
          omega
        rw [this]
        simp
        omega
      · rw [if_neg h]
    rw [e0, e1, hk]
    by_cases hm : d ∈ cl <;> simp [hm, had] <;> omega
  · rw [W_le (by omega), W_le (by omega), if_neg (by omega)]
    rfl
/-! visits -/
abbrev Vi := Int × Option Int
def oI : Option Int → D
  | none => .non
  | some i => .int i
@[simp] theorem oI_n : oI none = .non := rfl
@[simp] theorem oI_s (i : Int) : oI (some i) = .int i := rfl
@[simp] theorem frz_oI (a : Option Int) : frz (oI a) = oI a := by cases a <;> rfl
@[simp] theorem noShr_oI (a : Option Int) : noShr (oI a) = true := by cases a <;> rfl
@[simp] theorem isN_oI (o : Option Int) : isN (oI o) = o.isNone := by cases o <;> rfl
theorem toPy_oI (a : Option Int) : toPy (oI a) = some (PyE.py a) := by cases a <;> rfl
def tv (v : Vi) : D := .node false .tup [.int v.1, oI v.2]
@[simp] theorem frz_tv (a : Vi) : frz (tv a) = tv a := by simp [tv]
@[simp] theorem noShr_tv (a : Vi) : noShr (tv a) = true := by simp [tv]
@[simp] theorem ix_tv_0 (a : Vi) : gIx (tv a) (.int 0) = some (.int a.1) := by simp [tv]
@[simp] theorem ix_tv_1 (a : Vi) : gIx (tv a) (.int 1) = some (oI a.2) := by simp [tv]
@[simp] theorem tp_tv {Gs : List D → List Nat → Ev → Option Ev} {p : List Nat} {ρ : Ev} (a : Vi) : gTp Gs (tv a, p) ρ = Gs [.int a.1, oI a.2] p ρ := Eq.trans rfl rfl
theorem toPy_tv (a : Vi) : toPy (tv a) = some (PyE.py a) := by simp [tv, toPy, toPyL, toPy_oI]; rfl
@[simp] theorem noShr_tvs (R : List Vi) : noShrL (R.map tv) = true := noShrL_map noShr_tv R
@[simp] theorem frz_tvs (R : List Vi) : (R.map tv).map frz = R.map tv := by simp
def stopOf (v : Vi) (day : Int) : Int := match v.2 with
  | none => day
  | some e => min day e
theorem v_away {cl : List Int} (hc : cl.length ≤ 400) (v : Vi) (b day : Int) : phi_away_days [.node false .lst (cl.map .int), tv v, .int b, .int day] = .ok (.int (W cl (max b v.1) (stopOf v day))) := by
  unfold phi_away_days F_away_days run stopOf
  have e := v_open_days hc
  obtain ⟨a, o⟩ := v
  cases o with
  | none => simp [start, e]
  | some z => simp [start, e]
def C (cl : List Int) (V : List Vi) (b day : Int) : Int := W cl b day - (V.map fun v => W cl (max b v.1) (stopOf v day)).sum
@[simp] theorem gSum_ints {o : Bool} {ns : List Int} : gSum [.node o .lst (ns.map D.int)] = some (.int ns.sum) := by
  show (intL _).map _ = _
  rw [intL_map]; rfl
theorem v_counted {cl : List Int} (hc : cl.length ≤ 400) {V : List Vi} (hV : V.length ≤ 20) (b day : Int) : phi_counted [.node false .lst (cl.map .int), .int b, .node false .lst (V.map tv), .int day] = .ok (.int (C cl V b day)) := by
  unfold phi_counted F_counted run C
  have e := v_open_days hc
  have e2 := v_away hc
  simp [start, e]
  generalize hq : eLc _ _ _ _ _ _ = o
  have := eLc_all hq V tv (fun v => D.int (W cl (max b v.1) (stopOf v day))) [2] (by simp) (by omega) (fun _ => rfl) fun x hx => by
    exact ⟨_, rfl, [], by simp [e2]⟩
  subst this
  have e3 : V.map (fun v => D.int (W cl (max b v.1) (stopOf v day))) = (V.map fun v => W cl (max b v.1) (stopOf v day)).map D.int := by rw [List.map_map]; rfl
  rw [e3]
  generalize V.map (fun v => W cl (max b v.1) (stopOf v day)) = ws
  simp
theorem v_holds {cl : List Int} (hc : cl.length ≤ 400) {V : List Vi} (hV : V.length ≤ 20) (days b day : Int) : phi_holds_on [.node false .lst (cl.map .int), .int days, .int b, .node false .lst (V.map tv), .int day] = .ok (.bl (decide (C cl V b day < days))) := by
  unfold phi_holds_on F_holds_on run
  simp [start, v_counted hc hV]
/-! the visits lie one behind the other -/
def Chain : Int → List Vi → Prop
  | _, [] => True
  | lo, (a, none) :: vs => lo ≤ a ∧ a ≤ 9999 ∧ vs = []
  | lo, (a, some e) :: vs => lo ≤ a ∧ a ≤ e ∧ e ≤ 9999 ∧ Chain e vs
def covers (v : Vi) (d : Int) : Bool := decide (v.1 ≤ d) && match v.2 with
  | none => true
  | some e => decide (d < e)
theorem Chain.le : ∀ {lo lo' : Int} {vs : List Vi}, Chain lo vs → lo' ≤ lo → Chain lo' vs
  | _, _, [], h, _ => trivial
  | _, _, (a, none) :: vs, h, hl => ⟨by have := h.1; omega, h.2⟩
  | _, _, (a, some e) :: vs, h, hl => ⟨by have := h.1; omega, h.2⟩
theorem Chain.low : ∀ {lo : Int} {vs : List Vi}, Chain lo vs → ∀ v ∈ vs, lo ≤ v.1 ∧ v.1 ≤ 9999 ∧ ∀ e, v.2 = some e → v.1 ≤ e ∧ e ≤ 9999
  | _, [], _, v, hv => by cases hv
  | lo, (a, none) :: vs, h, v, hv => by
    obtain ⟨h1, h2, rfl⟩ := h
    have : v = (a, none) := by simpa using hv
    subst this
    exact ⟨h1, h2, fun e he => by cases he⟩
  | lo, (a, some e) :: vs, h, v, hv => by
    obtain ⟨h1, h2, h3, h4⟩ := h
    rcases List.mem_cons.mp hv with rfl | hv
    · exact ⟨h1, by omega, fun e' he => by cases he; exact ⟨h2, h3⟩⟩
    · obtain ⟨q1, q2, q3⟩ := h4.low v hv
      exact ⟨by omega, q2, q3⟩
/-- at most one visit covers a day -/
theorem Chain.sum : ∀ {lo : Int} {vs : List Vi} (d : Int), Chain lo vs → (vs.map fun v => if covers v d = true then (1 : Int) else 0).sum = if vs.any (fun v => covers v d) = true then 1 else 0
  | _, [], d, _ => by simp
  | lo, (a, none) :: vs, d, h => by
    obtain ⟨_, _, rfl⟩ := h
    cases hc : covers (a, none) d <;> simp [hc]
  | lo, (a, some e) :: vs, d, h => by
    obtain ⟨h1, h2, h3, h4⟩ := h
    have ih := h4.sum d
    rw [List.map_cons, List.sum_cons, ih, List.any_cons]
    cases hc : covers (a, some e) d with
    | false => cases hq : vs.any (fun v => covers v d) <;> simp
    | true =>
      have hd : d < e := by
        unfold covers at hc
        simp at hc
        exact hc.2
      have : vs.any (fun v => covers v d) = false := by
        rw [List.any_eq_false]
        intro v hv
        have := (h4.low v hv).1
        unfold covers
        simp
        intro h5
        omega
      simp [this]
def shut (cl : List Int) (V : List Vi) (d : Int) : Bool := decide (d ∈ cl) || V.any fun v => covers v d
/-- the days that count, before the n-th -/
def F (cl : List Int) (V : List Vi) (b : Int) : Nat → Int
  | 0 => 0
  | n + 1 => F cl V b n + if shut cl V (b + n) = true then 0 else 1
theorem away_succ {cl : List Int} (hn : cl.Nodup) {v : Vi} {b d : Int} (hb : b ≤ v.1) (he : ∀ e, v.2 = some e → v.1 ≤ e) : W cl (max b v.1) (stopOf v (d + 1)) = W cl (max b v.1) (stopOf v d) + if covers v d = true ∧ d ∉ cl then 1 else 0 := by
  have hm : max b v.1 = v.1 := by omega
  rw [hm]
  obtain ⟨a, o⟩ := v
  cases o with
  | none =>
    unfold stopOf covers
    simp only
    rw [W_succ hn]
    simp
  | some e =>
    have he := he e rfl
    unfold stopOf covers
    simp only
    by_cases hd : d < e
    · have e1 : min (d + 1) e = d + 1 := by omega
      have e2 : min d e = d := by omega
      rw [e1, e2, W_succ hn]
      simp [hd]
    · have e1 : min (d + 1) e = e := by omega
      have e2 : min d e = e := by omega
      rw [e1, e2]
      simp [hd]
theorem sum_add {α : Type} (f g : α → Int) : ∀ l : List α, (l.map fun x => f x + g x).sum = (l.map f).sum + (l.map g).sum
  | [] => by simp
  | x :: l => by
    have := sum_add f g l
    simp only [List.map_cons, List.sum_cons, this]
    omega
theorem C_eq {cl : List Int} (hn : cl.Nodup) {V : List Vi} {b : Int} (hV : Chain b V) : ∀ n : Nat, C cl V b (b + n) = F cl V b n
  | 0 => by
    unfold C F
    have h0 : (V.map fun v => W cl (max b v.1) (stopOf v (b + (0 : Nat)))) = V.map fun _ => 0 := List.map_congr_left fun v hv => by
      have := (hV.low v hv).1
      refine W_le ?_
      unfold stopOf
      split <;> omega
    rw [h0, W_le (by omega)]
    have : ∀ l : List Vi, (l.map fun _ => (0 : Int)).sum = 0 := fun l => by
      induction l with
      | nil => rfl
      | cons x l ih => rw [List.map_cons, List.sum_cons, ih]; rfl
    rw [this]
    rfl
  | n + 1 => by
    have ih := C_eq hn hV n
    rw [F, ← ih]
    unfold C
    have e1 : b + ((n + 1 : Nat) : Int) = b + (n : Int) + 1 := by omega
    rw [e1]
    generalize hd : b + (n : Int) = d
    have e2 : (V.map fun v => W cl (max b v.1) (stopOf v (d + 1))) = V.map fun v => W cl (max b v.1) (stopOf v d) + if covers v d = true ∧ d ∉ cl then 1 else 0 := List.map_congr_left fun v hv => by
      obtain ⟨q1, q2, q3⟩ := hV.low v hv
      exact away_succ hn q1 fun e he => (q3 e he).1
    rw [e2, sum_add, W_succ hn]
    unfold shut
    by_cases hm : d ∈ cl
    · have e3 : (V.map fun v => if covers v d = true ∧ d ∉ cl then (1 : Int) else 0) = V.map fun _ => 0 := List.map_congr_left fun v hv => by simp [hm]
      have : ∀ l : List Vi, (l.map fun _ => (0 : Int)).sum = 0 := fun l => by
        induction l with
        | nil => rfl
        | cons x l ih => rw [List.map_cons, List.sum_cons, ih]; rfl
      rw [e3, this]
      simp [hm]
    · have e3 : (V.map fun v => if covers v d = true ∧ d ∉ cl then (1 : Int) else 0) = V.map fun v => if covers v d = true then (1 : Int) else 0 := List.map_congr_left fun v hv => by simp [hm]
      rw [e3, hV.sum d]
      have hbd : b ≤ d := by omega
      cases V.any fun v => covers v d <;> simp [hm, hbd] <;> omega
theorem F_mono (cl : List Int) (V : List Vi) (b : Int) {m n : Nat} (h : m ≤ n) : F cl V b m ≤ F cl V b n := by
  induction n with
  | zero => obtain rfl : m = 0 := by omega
            exact Int.le_refl _
  | succ n ih =>
    by_cases e : m = n + 1
    · subst e; exact Int.le_refl _
    · have := ih (by omega)
      rw [F]
      split <;> omega
end Py.K89

set_option linter.all false
set_option maxRecDepth 100000
namespace Py.K89
open PySem L2
theorem v_free {cl : List Int} (hc : cl.length ≤ 400) {V : List Vi} (hV : V.length ≤ 20) (days b : Int) : phi_free_visits [.node false .lst (cl.map .int), .int days, .int b, .node false .lst (V.map tv)] = .ok (.node true .lst ((V.map fun v => decide (C cl V b v.1 < days)).map .bl)) := by
  unfold phi_free_visits F_free_visits run
  simp [start]
  generalize hq : eLc _ _ _ _ _ _ = o
  have := eLc_all hq V tv (fun v => D.bl (decide (C cl V b v.1 < days))) [3] (by simp) (by omega) (fun _ => rfl) fun x hx => by
    exact ⟨_, by simp; rfl, [], by simp [v_holds hc hV]⟩
  subst this
  simp
def highOf (V : List Vi) : Int := match V.getLast? with
  | some (a, none) => a
  | _ => 10400
theorem v_end {cl : List Int} (hc : cl.length ≤ 400) (hn : cl.Nodup) {V : List Vi} (hV : V.length ≤ 20) {days b : Int} (hb : 0 ≤ b) (hC : Chain b V) (N : Nat) (hN : highOf V = b + N) :
    (F cl V b N < days → phi_end_of [.node false .lst (cl.map .int), .int days, .int b, .node false .lst (V.map tv)] = .ok .non) ∧
    (days ≤ F cl V b N → ∃ m : Nat, m ≤ N ∧ days ≤ F cl V b m ∧ (∀ j, j < m → F cl V b j < days) ∧ phi_end_of [.node false .lst (cl.map .int), .int days, .int b, .node false .lst (V.map tv)] = .ok (.int (b + m))) := by
  have hh : ∀ n : Nat, phi_holds_on [.node false .lst (cl.map .int), .int days, .int b, .node false .lst (V.map tv), .int (b + n)] = .ok (.bl (decide (F cl V b n < days))) := fun n => by rw [v_holds hc hV, C_eq hn hC]
  have hN' := hh N
  unfold phi_end_of F_end_of run
  simp [start, -at_sIf]
  generalize hq : sIf _ _ _ _ _ = o
  have ho : o = .nx [sl (.node false .lst (cl.map .int)), sl (.int days), sl (.int b), sl (.node false .lst (V.map tv)), sl (.int (b + N)), none, none] := by
    rw [← hq, ← hN]
    unfold highOf
    cases hl : V.getLast? with
    | none =>
      have : V = [] := by simpa using hl
      subst this
      simp
    | some v =>
      obtain ⟨a, z⟩ := v
      have e1 : atI (V.map tv) (-1) = some (tv (a, z)) := atI_last (by rw [List.getLast?_map, hl]; rfl)
      have hne : V.isEmpty = false := by cases V with | nil => cases hl | cons _ _ => rfl
      have hne2 : ¬ V = [] := fun w => by rw [w] at hne; cases hne
      cases z with
      | none => simp [hne2, e1]
      | some e => simp [hne2, e1]
  subst ho
  clear hq
  refine ⟨fun h => ?_, fun h => ?_⟩
  · generalize b + (N : Int) = bn at *
    simp [hN', h]
  · have h' : ¬ F cl V b N < days := by omega
    generalize hbn : b + (N : Int) = bn at *
    simp [hN', h']
    generalize hq : sWhile _ _ _ _ = o
    obtain ⟨ρe, rfl, m, h1, h2, h3, rfl⟩ := while_dec hq (fun n ρ => ∃ lo hi : Nat, lo ≤ hi ∧ hi ≤ N ∧ (∀ j, j < lo → F cl V b j < days) ∧ days ≤ F cl V b hi ∧ n = hi - lo ∧ ρ = [sl (.node false .lst (cl.map .int)), sl (.int days), sl (.int b), sl (.node false .lst (V.map tv)), sl (.int (b + hi)), sl (.int (b + lo)), none])
      (fun ρ => ∃ m : Nat, m ≤ N ∧ (∀ j, j < m → F cl V b j < days) ∧ days ≤ F cl V b m ∧ ρ = [sl (.node false .lst (cl.map .int)), sl (.int days), sl (.int b), sl (.node false .lst (V.map tv)), sl (.int (b + m)), sl (.int (b + m)), none]) N ⟨0, N, by omega, by omega, fun j hj => by omega, h, by omega, by rw [hbn]; simp⟩ fun k ρ hi => by
        obtain ⟨lo, hi, q1, q2, q3, q4, rfl, rfl⟩ := hi
        by_cases hlt : lo < hi
        · right
          have hlt' : b + (lo : Int) < b + (hi : Int) := by omega
          refine ⟨by simp [hlt], ?_⟩
          have hmid := hh ((lo + hi) / 2)
          have hd : (b + (lo : Int) + (b + (hi : Int))).fdiv 2 = b + (((lo + hi) / 2 : Nat) : Int) := by
            rw [Int.fdiv_eq_ediv_of_nonneg _ (by omega)]
            omega
          have hmb : lo ≤ (lo + hi) / 2 ∧ (lo + hi) / 2 < hi := by omega
          generalize (lo + hi) / 2 = mid at *
          by_cases hp : F cl V b mid < days
          · have e3 : b + (mid : Int) + 1 = b + ((mid + 1 : Nat) : Int) := by omega
            simp [hd, hmid, hp]
            refine ⟨_, ?_, mid + 1, hi, by omega, q2, fun j hj => ?_, q4, rfl, rfl, e3⟩
            · omega
            · have := F_mono cl V b (show j ≤ mid by omega)
              omega
          · simp [hd, hmid, hp]
            refine ⟨_, ?_, lo, mid, by omega, by omega, q3, by omega, rfl, rfl, rfl⟩
            omega
        · left
          have : lo = hi := by omega
          subst this
          exact ⟨by simp, lo, q2, q3, q4, rfl⟩
    exact ⟨m, h1, h3, h2, by simp⟩
end Py.K89

set_option linter.all false
set_option maxRecDepth 100000
namespace Py.K89
open PySem L2
def til (v : Vi) : Int := match v.2 with
  | none => 20001
  | some e => e
theorem noShrL_dput {κ : Type} [DecidableEq κ] : ∀ {ks : List κ} {xs : List D} {k : κ} {v : D}, noShrL xs = true → noShr v = true → noShrL (dput ks xs k v).2 = true
  | [], xs, k, v, h1, h2 => by unfold dput; cases xs <;> simp [h2]
  | k' :: ks, [], k, v, h1, h2 => by unfold dput; simp [h2]
  | k' :: ks, x :: xs, k, v, h1, h2 => by
    rw [noShrL_cons, Bool.and_eq_true] at h1
    have ih := noShrL_dput (ks := ks) (xs := xs) (k := k) (v := v) h1.2 h2
    unfold dput
    split
    · simp [h2, h1.2]
    · simp [h1.1, ih]
structure DOk (ks : List Key) (xs : List D) (n : Nat) (P : Int → Prop) : Prop where
  len : ks.length = xs.length
  fz : frzL xs = xs
  le : xs.length ≤ n
  mem : ∀ d : Int, (dfind ks xs (.inl d)).isSome = true ↔ P d
theorem DOk.put {ks : List Key} {xs : List D} {n : Nat} {P : Int → Prop} (h : DOk ks xs n P) (y : Int) : DOk (dput ks xs (.inl y) (.bl true)).1 (dput ks xs (.inl y) (.bl true)).2 (n + 1) (fun d => P d ∨ d = y) :=
  ⟨dput_len h.len, frzL_dput h.fz rfl, Nat.le_trans dput_le (by have := h.le; omega), fun d => by
    rw [dfind_dput h.len]
    by_cases e : (Sum.inl d : Key) = .inl y
    · cases e; simp
    · have : ¬ d = y := fun z => e (by rw [z])
      rw [if_neg e, h.mem]
      simp [this]⟩
theorem DOk.imp {ks : List Key} {xs : List D} {n m : Nat} {P Q : Int → Prop} (h : DOk ks xs n P) (hn : n ≤ m) (hp : ∀ d, P d ↔ Q d) : DOk ks xs m Q := ⟨h.len, h.fz, Nat.le_trans h.le hn, fun d => (h.mem d).trans (hp d)⟩
def Sh (cl : List Int) (V : List Vi) (k : Nat) (d : Int) : Prop := d ∈ cl ∨ ∃ v ∈ V.take k, v.1 ≤ d ∧ d < til v
theorem v_counts {cl : List Int} (hc : cl.length ≤ 400) (hcb : ∀ x ∈ cl, x < 10000) {V : List Vi} (hV : V.length ≤ 12) {b : Int} (hb : 0 ≤ b ∧ b ≤ 9999) (hC : Chain b V) : ∃ (ks : List Key) (xs : List D), frzL xs = xs ∧ noShrL xs = true ∧ (∀ n : Nat, b + n < 20001 → dfind ks xs (.inl (b + n)) = some (.int (F cl V b n))) ∧
    phi__law_counts [.node false .lst (cl.map .int), .int b, .node false .lst (V.map tv)] = .ok (.node true (.dK ks) xs) := by
  unfold phi__law_counts F__law_counts run
  simp [start]
  generalize hq : oFor _ _ _ _ _ = o
  obtain ⟨⟨ks, xs⟩, h1, rfl⟩ := for_set hq 3 cl D.int [0] (fun b : List Key × List D => sl (.node true (.dK b.1) b.2)) (fun k b => DOk b.1 b.2 k fun d => d ∈ cl.take k) ([], []) (by simp) (by simp) ⟨rfl, rfl, by simp, by simp [dfind]⟩ fun k y b hy hk hb => by
    have hsz : b.2.length < 1000000 := by have := hb.le; omega
    simp [dstore_dK hsz, putE, kd]
    refine (hb.put y).imp (Nat.le_refl _) fun d => ?_
    rw [List.take_add_one, hy]
    simp
  clear hq
  simp
  generalize hq : oFor _ _ _ _ _ = o
  have h1' : DOk ks xs cl.length fun d => d ∈ cl := by
    have := h1
    rwa [List.take_length] at this
  obtain ⟨⟨ks2, xs2⟩, h2, rfl⟩ := for_set hq 3 V tv [2] (fun b : List Key × List D => sl (.node true (.dK b.1) b.2)) (fun k b => DOk b.1 b.2 (400 + 20001 * k) (Sh cl V k)) (ks, xs) (by simp) (by simp) (h1'.imp (by omega) fun d => by simp [Sh]) fun k v bb hv hk hb2 => by
    have hvm : v ∈ V := List.mem_of_getElem? hv
    obtain ⟨q1, q2, q3⟩ := hC.low v hvm
    have htil : v.1 ≤ til v ∧ til v ≤ 20001 := by
      unfold til
      split
      · omega
      · rename_i e he
        have := q3 e he
        omega
    have hdp : ¬ sizeLine ≤ bb.2.length := by have := hb2.le; rw [sizeLine_eq]; omega
    obtain ⟨a, z⟩ := v
    simp only at q1 q2 htil
    have hina : in62 a = true := in62_of (by omega) (by omega)
    have hint : in62 (til (a, z)) = true := in62_of (by omega) (by omega)
    have step : ∀ o, oFor (iRg (aCons (eVar 7) (aCons (eVar 9) aNil))) (gNm 4) (sSub 3 (eVar 4) (eK (.bl true))) [2] [sl (.node false .lst (cl.map .int)), sl (.int b), sl (.node false .lst (V.map tv)), sl (.node true (.dK bb.1) bb.2), none, none, none, sl (.int a), some ⟨oI z, []⟩, sl (.int (til (a, z)))] = o →
        ∃ b' : List Key × List D, DOk b'.1 b'.2 (400 + 20001 * (k + 1)) (Sh cl V (k + 1)) ∧ o = .nx [sl (.node false .lst (cl.map .int)), sl (.int b), sl (.node false .lst (V.map tv)), sl (.node true (.dK b'.1) b'.2), none, none, none, sl (.int a), some ⟨oI z, []⟩, sl (.int (til (a, z)))] := by
      intro o hq
      obtain ⟨b', h3, rfl⟩ := for_set hq 3 (rgf a (til (a, z) - a).toNat) D.int [] (fun b : List Key × List D => sl (.node true (.dK b.1) b.2)) (fun j b => DOk b.1 b.2 (400 + 20001 * k + j) fun d => Sh cl V k d ∨ (a ≤ d ∧ d < a + j)) bb (by simp [hina, hint, rngI_rgf]) (by simp) (hb2.imp (by omega) fun d => by
          constructor
          · exact .inl
          · rintro (h | h)
            · exact h
            · omega) fun j y b hy hj hb3 => by
        rw [rgf_len] at hj
        rw [rgf_get hj] at hy
        obtain rfl : a + (j : Int) = y := by simpa using hy
        have hsz : b.2.length < 1000000 := by have := hb3.le; omega
        generalize haj : a + (j : Int) = aj
        simp [dstore_dK hsz, putE, kd]
        refine (hb3.put aj).imp (by omega) fun d => ?_
        constructor
        · rintro ((h | h) | h)
          · exact .inl h
          · exact .inr (by omega)
          · exact .inr (by omega)
        · rintro (h | h)
          · exact .inl (.inl h)
          · by_cases e : d = aj
            · exact .inr e
            · exact .inl (.inr (by omega))
      refine ⟨b', h3.imp (by rw [rgf_len]; omega) fun d => ?_, by simp⟩
      rw [rgf_len]
      unfold Sh
      rw [List.take_add_one, hv]
      constructor
      · rintro ((h | ⟨v, h, h'⟩) | h)
        · exact .inl h
        · exact .inr ⟨v, List.mem_append_left _ h, h'⟩
        · exact .inr ⟨(a, z), by simp, by omega⟩
      · rintro (h | ⟨v, h, h'⟩)
        · exact .inl (.inl h)
        · rcases List.mem_append.mp h with h | h
          · exact .inl (.inr ⟨v, h, h'⟩)
          · have : v = (a, z) := by simpa using h
            subst this
            simp only at h'
            exact .inr (by omega)
    cases z with
    | none =>
      obtain ⟨b', h3, e3⟩ := step _ rfl
      simp [til] at e3
      simp [e3]
      exact h3
    | some e =>
      obtain ⟨b', h3, e3⟩ := step _ rfl
      simp [til] at e3
      simp [e3]
      exact h3
  clear hq
  have hsh : ∀ d : Int, d ≤ 20000 → (dfind ks2 xs2 (.inl d)).isSome = shut cl V d := fun d hd => by
    rw [Bool.eq_iff_iff, h2.mem d]
    unfold Sh shut
    rw [List.take_length]
    simp only [Bool.or_eq_true, decide_eq_true_eq, List.any_eq_true]
    refine or_congr Iff.rfl ⟨?_, ?_⟩
    · rintro ⟨⟨a, z⟩, hv, h3, h4⟩
      refine ⟨(a, z), hv, ?_⟩
      cases z with
      | none => simpa [covers] using h3
      | some e => simpa [covers] using ⟨h3, h4⟩
    · rintro ⟨⟨a, z⟩, hv, h3⟩
      refine ⟨(a, z), hv, ?_⟩
      cases z with
      | none => exact ⟨by simpa [covers] using h3, by show d < 20001; omega⟩
      | some e =>
        show a ≤ d ∧ d < e
        simpa [covers] using h3
  have hfz2 := h2.fz
  have hinb : in62 b = true := in62_of (by omega) (by omega)
  have hin2 : in62 20001 = true := in62_of (by omega) (by omega)
  simp
  generalize hq : oFor _ _ _ _ _ = o
  obtain ⟨⟨⟨ks3, xs3⟩, tot⟩, ⟨h3, h4, h5, h6, h8, h7⟩, rfl⟩ := for_set2 hq 5 6 (rgf b (20001 - b).toNat) D.int [] (fun b : (List Key × List D) × Int => sl (.node true (.dK b.1.1) b.1.2)) (fun b => sl (.int b.2)) (fun k bb => bb.2 = F cl V b k ∧ bb.1.1.length = bb.1.2.length ∧ frzL bb.1.2 = bb.1.2 ∧ bb.1.2.length ≤ k ∧ noShrL bb.1.2 = true ∧ ∀ j, j < k → dfind bb.1.1 bb.1.2 (.inl (b + (j : Nat))) = some (.int (F cl V b j))) (([], []), 0) (by simp [hinb, hin2, rngI_rgf]) (by simp) ⟨rfl, rfl, rfl, by simp, rfl, fun j hj => by omega⟩ fun k y bb hy hk hb3 => by
    rw [rgf_len] at hk
    rw [rgf_get hk] at hy
    obtain rfl : b + (k : Int) = y := by simpa using hy
    clear hy hq
    obtain ⟨⟨ks3, xs3⟩, tot⟩ := bb
    simp only at hb3
    obtain ⟨h3, h4, h5, h6, h8, h7⟩ := hb3
    have hsz : xs3.length < 1000000 := by omega
    have hs := hsh (b + (k : Int)) (by omega)
    have hF : F cl V b (k + 1) = F cl V b k + if shut cl V (b + k) = true then 0 else 1 := rfl
    rw [hF, ← h3]
    have hnext : ∀ j, j < k + 1 → dfind (dput ks3 xs3 (.inl (b + (k : Int))) (.int tot)).1 (dput ks3 xs3 (.inl (b + (k : Int))) (.int tot)).2 (.inl (b + (j : Nat))) = some (.int (F cl V b j)) := fun j hj => by
      rw [dfind_dput h4]
      by_cases e : j = k
      · subst e
        rw [if_pos rfl, h3]
      · rw [if_neg (fun z => e (by have := Sum.inl.inj z; omega))]
        exact h7 j (by omega)
    have hle := dput_le (ks := ks3) (xs := xs3) (k := (Sum.inl (b + (k : Int)) : Key)) (v := .int tot)
    have hln := dput_len (k := (Sum.inl (b + (k : Int)) : Key)) (v := .int tot) h4
    have hfz := frzL_dput (ks := ks3) (k := (Sum.inl (b + (k : Int)) : Key)) (v := .int tot) h5 rfl
    have hno := noShrL_dput (ks := ks3) (k := (Sum.inl (b + (k : Int)) : Key)) (v := .int tot) h8 rfl
    generalize hbk : b + (k : Int) = bk at *
    cases hsd : shut cl V bk with
    | true =>
      rw [hsd] at hs
      simp [dstore_dK hsz, putE, kd, hs, hfz2]
      exact ⟨hln, hfz, by omega, hno, hnext⟩
    | false =>
      rw [hsd] at hs
      simp [dstore_dK hsz, putE, kd, hs, hfz2]
      exact ⟨hln, hfz, by omega, hno, hnext⟩
  rw [rgf_len] at h7
  exact ⟨ks3, xs3, h5, h8, fun n hn => h7 n (by omega), by simp⟩
end Py.K89

set_option linter.all false
set_option maxRecDepth 100000
namespace Py.K89
open PySem L2
theorem v_calendar {L : List Int} (hL : 11 ≤ L.length) (hb : ∀ x ∈ L, 0 ≤ x ∧ x < 5040) {top : Int} (ht : top = 40 ∨ top = 300 ∨ top = 9999) : ∃ cl : List Int, cl.length ≤ 400 ∧ cl.Nodup ∧ (∀ x ∈ cl, 0 ≤ x ∧ x < 10000) ∧ phi__law_some_calendar [.node false .lst (L.map .int), .int top] = .ok (.node true .lst (cl.map .int)) := by
  have ix : ∀ i : Int, 0 ≤ i → i < 11 → ∃ v, atI (L.map D.int) i = some (.int v) ∧ 0 ≤ v ∧ v < 5040 := fun i h0 h1 => ixd rfl hb i h0 (by omega)
  obtain ⟨v0, e0, b0, b0'⟩ := ix 0 (by omega) (by omega)
  obtain ⟨v1, e1, b1, b1'⟩ := ix 1 (by omega) (by omega)
  obtain ⟨v2, e2, b2, b2'⟩ := ix 2 (by omega) (by omega)
  unfold phi__law_some_calendar F__law_some_calendar run
  have ht0 : ¬ top = 0 := by omega
  have hm := fm v1 top (by omega)
  have hm4 := fm v0 4 (by omega)
  simp [start, e0, -at_sIf]
  generalize hk : v0.fmod 4 = kind at *
  generalize hq : sIf _ _ _ _ _ = o
  obtain ⟨ns, hn, hnb, rfl⟩ : ∃ ns : List Int, ns.length ≤ 400 ∧ (∀ x ∈ ns, 0 ≤ x) ∧ o = .nx [sl (.node false .lst (L.map .int)), sl (.int top), sl (.int kind), sl (.node true .lst (ns.map .int)), none, none] := by
    rw [← hq]
    by_cases h1 : kind = 1
    · subst h1
      simp
      generalize hl : eLc _ _ _ _ _ _ = r
      have ixf : ∀ k ∈ rg 10, atI (L.map D.int) (1 + k) = some (.int (L.getD (1 + k).toNat 0)) := fun k hk => by
        rw [mem_rg] at hk
        exact atI_int (by omega) (by omega)
      have := eLc_all hl (rg 10) D.int (fun k => D.int ((L.getD (1 + k).toNat 0).fmod top)) [] (by simp [in62_of (show (0 : Int) ≤ 10 by omega) (by omega)]; exact rngI0 10) (by simp) (fun _ => rfl) fun x hx => by
        exact ⟨_, rfl, [], by simp [ixf x hx, ht0]⟩
      subst this
      exact ⟨(rg 10).map fun k => (L.getD (1 + k).toNat 0).fmod top, by simp, fun x hx => by
        obtain ⟨k, _, rfl⟩ := List.mem_map.mp hx
        exact (fm _ top (by omega)).1, by simp⟩
    · by_cases h2 : kind = 2
      · subst h2
        simp
        generalize hl : eLc _ _ _ _ _ _ = r
        have m7 := fm v1 7 (by omega)
        have ht7 : 0 ≤ min 400 (top.fdiv 7) ∧ min 400 (top.fdiv 7) ≤ 400 := by
          rw [Int.fdiv_eq_ediv_of_nonneg _ (by omega)]
          omega
        generalize hcnt : min 400 (top.fdiv 7) = cnt at *
        have hin : in62 cnt = true := in62_of ht7.1 (by omega)
        have := eLc_all hl (rg cnt.toNat) D.int (fun k => D.int (7 * k + v1.fmod 7)) [] (by simp [hcnt, hin, rngI0]) (by simp; omega) (fun _ => rfl) fun x hx => by
          have c7 : cMul 7 x = true := cMul_l (by decide) (by decide)
          exact ⟨_, rfl, [], by simp [e1, c7]⟩
        subst this
        exact ⟨(rg cnt.toNat).map fun k => 7 * k + v1.fmod 7, by simp; omega, fun x hx => by
          obtain ⟨k, hk, rfl⟩ := List.mem_map.mp hx
          rw [mem_rg] at hk
          omega, by simp⟩
      · by_cases h3 : kind = 3
        · subst h3
          have m40 := fm v2 40 (by omega)
          have hr : rgOk (v1.fmod top) (v1.fmod top + 1 + v2.fmod 40) = true := rgOk_of (by omega) (by omega) (by omega) (by omega)
          refine ⟨rgf (v1.fmod top) (v1.fmod top + 1 + v2.fmod 40 - v1.fmod top).toNat, by simp; omega, fun x hx => by rw [mem_rgf] at hx; omega, ?_⟩
          simp [e1, e2, ht0, hr, rngI_rgf]
        · exact ⟨[], by simp, by simp, by simp [h1, h2, h3]⟩
  clear hq
  simp
  generalize hq : eLc _ _ _ _ _ _ = o
  have := eLc_D hq ns D.int (fun x => decide (x < 10000)) D.int [3] (by simp) (by omega) (fun _ => rfl) fun x hx => by
    exact ⟨_, rfl, by simp, fun _ => ⟨[], by simp⟩⟩
  subst this
  have hfl := List.length_filter_le (fun x => decide (x < 10000)) ns
  generalize hfi : ns.filter (fun x => decide (x < 10000)) = fs at *
  have h4 : fs.length ≤ 4000 := by omega
  have hcl := sset_lt fs
  refine ⟨sset fs, Nat.le_trans (sset_le fs) (by omega), hcl.imp fun h e => by omega, fun x hx => ?_, by simp [gSS_of h4]⟩
  have hx := mem_sset.mp hx
  rw [← hfi, List.mem_filter] at hx
  exact ⟨hnb x hx.1, by simpa using hx.2⟩
end Py.K89

set_option linter.all false
set_option maxRecDepth 100000
namespace Py.K89
open PySem L2
def ChT : Int → List P → Int → Prop
  | lo, [], e => lo = e
  | lo, (a, z) :: vs, e => lo ≤ a ∧ a ≤ z ∧ z ≤ 9999 ∧ ChT z vs e
theorem ChT.snoc : ∀ {lo : Int} {vs : List P} {e a z : Int}, ChT lo vs e → e ≤ a → a ≤ z → z ≤ 9999 → ChT lo (vs ++ [(a, z)]) z
  | lo, [], e, a, z, h, h1, h2, h3 => ⟨by have : lo = e := h; omega, h2, h3, rfl⟩
  | lo, (a', z') :: vs, e, a, z, h, h1, h2, h3 => ⟨h.1, h.2.1, h.2.2.1, h.2.2.2.snoc h1 h2 h3⟩
def so (p : P) : Vi := (p.1, some p.2)
theorem ChT.chain : ∀ {lo : Int} {vs : List P} {e : Int}, ChT lo vs e → Chain lo (vs.map so)
  | _, [], _, _ => trivial
  | lo, (a, z) :: vs, e, h => ⟨h.1, h.2.1, h.2.2.1, h.2.2.2.chain⟩
theorem ChT.open : ∀ {lo : Int} {vs : List P} {e a z : Int}, ChT lo (vs ++ [(a, z)]) e → Chain lo (vs.map so ++ [(a, none)])
  | lo, [], e, a, z, h => ⟨h.1, by have := h.2.1; have := h.2.2.1; omega, rfl⟩
  | lo, (a', z') :: vs, e, a, z, h => ⟨h.1, h.2.1, h.2.2.1, h.2.2.2.open⟩
theorem t2_so (vs : List P) : vs.map t2 = (vs.map so).map tv := by rw [List.map_map]; rfl
theorem v_visits {L : List Int} (hL : 14 ≤ L.length) (hb : ∀ x ∈ L, 0 ≤ x ∧ x < 5040) {b c : Int} (hbb : 0 ≤ b ∧ b ≤ 9999) (hc : 0 ≤ c ∧ c ≤ 12) : ∃ V : List Vi, V.length ≤ 12 ∧ Chain b V ∧ phi__law_visits [.node false .lst (L.map .int), .int b, .int c] = .ok (.node true .lst (V.map tv)) := by
  have ix : ∀ i : Int, 0 ≤ i → i < 14 → ∃ v, atI (L.map D.int) i = some (.int v) ∧ 0 ≤ v ∧ v < 5040 := fun i h0 h1 => ixd rfl hb i h0 (by omega)
  obtain ⟨v13, e13, b13, b13'⟩ := ix 13 (by omega) (by omega)
  unfold phi__law_visits F__law_visits run
  have hin : in62 c = true := in62_of hc.1 (by omega)
  simp [start]
  generalize hq : oFor _ _ _ _ _ = o
  obtain ⟨⟨day, vs⟩, ⟨h1, h2, h3⟩, rfl⟩ := for_set2 hq 3 4 (rg c.toNat) D.int [] (fun q : Int × List P => sl (.int q.1)) (fun q => sl (.node true .lst (q.2.map t2))) (fun k q => q.2.length = k ∧ ChT b q.2 q.1 ∧ b ≤ q.1 ∧ q.1 ≤ 9999) (b, []) (by simp [hin, rngI0]) (by simp) ⟨rfl, rfl, by simp, by simpa using hbb.2⟩ fun k x q hx hk hq2 => by
    rw [rg_len] at hk
    rw [rg_get hk] at hx
    obtain rfl : (k : Int) = x := by simpa using hx
    clear hx hq
    obtain ⟨day, vs⟩ := q
    simp only at hq2
    obtain ⟨h1, h2, h3⟩ := hq2
    obtain ⟨u, eu, bu, bu'⟩ := ix (k : Int) (by omega) (by omega)
    obtain ⟨w, ew, bw, bw'⟩ := ix ((k : Int) + 1) (by omega) (by omega)
    have u1 := fm u 12 (by omega)
    have u2 := fm u 200 (by omega)
    have w1 := fm w 15 (by omega)
    have w2 := fm w 300 (by omega)
    obtain ⟨y, ey, hy⟩ := ix3 (a := 0) (b := u.fmod 12) (c := u.fmod 200) (fm (u.fdiv 200) 3 (by omega))
    obtain ⟨z, ez, hz⟩ := ix3 (a := 0) (b := w.fmod 15) (c := w.fmod 300) (fm (w.fdiv 300) 3 (by omega))
    have hy0 : 0 ≤ y := by omega
    have hz0 : 0 ≤ z := by omega
    have hs : ¬ sizeLine ≤ vs.length := by rw [sizeLine_eq]; omega
    have hvl : vs.length + 1 = k + 1 := by omega
    generalize (k : Int) = kk at *
    generalize hbr : min 9999 (day + y) = br
    generalize hbk : min 9999 (br + z) = bk
    have hn := h2.snoc (show day ≤ br by omega) (show br ≤ bk by omega) (by omega)
    simp [eu, ew, ey, ez, hbr, hbk, hs, putE, kd]
    exact ⟨bk, vs ++ [(br, bk)], ⟨by simp; omega, hn, by omega, by omega⟩, rfl, by simp [t2]⟩
  rw [rg_len] at h1
  simp only at h1 h2 h3
  clear hq
  have m3 := fm v13 3 (by omega)
  simp
  by_cases hc0 : 0 < c
  · by_cases h13 : v13.fmod 3 = 0
    · obtain ⟨us, ⟨a, z⟩, rfl⟩ : ∃ us x, vs = us ++ [x] := by
        rcases List.eq_nil_or_concat vs with h | ⟨us, x, h⟩
        · rw [h] at h1; simp at h1; omega
        · exact ⟨us, x, by rw [h]; simp⟩
      have hul : c - 1 = (us.length : Int) := by simp at h1; omega
      have e1 : atI (us.map t2 ++ [t2 (a, z)]) (us.length : Int) = some (t2 (a, z)) := atI_nat (by rw [List.getElem?_append_right (by simp)]; simp)
      have e2 : ixN (us.length + 1) (us.length : Int) = some us.length := by unfold ixN; rw [if_pos (by omega), if_pos (by omega), Int.toNat_natCast]
      have e3 : (us.map t2 ++ [t2 (a, z)]).set us.length (.node false .tup [.int a, .non]) = us.map t2 ++ [.node false .tup [.int a, .non]] := by
        rw [List.set_append_right _ _ (by simp)]; simp
      refine ⟨us.map so ++ [(a, none)], by simp at h1 ⊢; omega, h2.open, ?_⟩
      generalize (us.length : Int) = ul at *
      simp [hc0, h13, e13, hul, e1, dstore, e2, e3, putE, kd]
      exact ⟨fun _ _ _ => rfl, rfl⟩
    · refine ⟨vs.map so, by simp; omega, h2.chain, ?_⟩
      simp [hc0, h13, e13]
      exact fun _ _ _ => rfl
  · refine ⟨vs.map so, by simp; omega, h2.chain, ?_⟩
    simp [hc0]
    exact fun _ _ _ => rfl
end Py.K89

set_option linter.all false
set_option maxRecDepth 100000
namespace Py.K89
open PySem L2
theorem same_pl {d : D} (h : Pl 2 d) : phi__law_same [d, d] = .ok (.bl true) := v_same_pl (rec := rec__law_same) (fun _ => rfl) h
theorem same_int (a : Int) : phi__law_same [.int a, .int a] = .ok (.bl true) := same_pl (.int a)
theorem same_bl (b : Bool) : phi__law_same [.bl b, .bl b] = .ok (.bl true) := same_pl (.bl b)
theorem same_oI (a : Option Int) : phi__law_same [oI a, oI a] = .ok (.bl true) := by cases a with | none => exact same_pl .non | some i => exact same_pl (.int i)
theorem same_bls {xs : List Bool} (h : xs.length ≤ 100000) : phi__law_same [.node false .lst (xs.map D.bl), .node false .lst (xs.map D.bl)] = .ok (.bl true) :=
  same_pl (.lst (by simpa using h) (PlL.map (fun a => .bl a) xs))
theorem ne_T (o o' : Bool) (R : List P) : gNe (.node o .lst (R.map t2)) (.node o' .lst (R.map t2)) = some (.bl false) := by
  rw [gNe_py R R (toPy_lst toPy_t2 _ _) (toPy_lst toPy_t2 _ _)]; simp
theorem is_most {T : List P} (hT : TOk T) {m : Int} (hm : 0 ≤ m) : ∃ r : Int, phi_most_for [.node false .lst (T.map t2), .int m] = .ok (.int r) ∧ phi__law_is_most [.node false .lst (T.map t2), .int m, .int r] = .ok (.bl true) := by
  obtain ⟨r, h0, h1, h2, h3⟩ := v_most_for hT m hm
  exact ⟨r, h3, v_is_most hT h0 h1 h2⟩
theorem small_v {lo : Int} (h0 : 0 ≤ lo) {V : List Vi} (hC : Chain lo V) : ∀ v ∈ V, Sm 200 1 (PyE.py v) := fun v hv => by
  obtain ⟨q1, q2, q3⟩ := hC.low v hv
  obtain ⟨a, z⟩ := v
  have h1 : Sm 34 0 (PyE.py a) := Sm.int (by omega) (by simp only at q2; omega)
  have h2 : Sm 34 0 (PyE.py z) := by
    cases z with
    | none => exact Sm.non.imp (by omega) (by omega)
    | some e =>
      have := q3 e rfl
      exact Sm.int (by simp only at this q1; omega) (by omega)
  refine (Sm.tup (k := 2) (m := 34) (n := 0) (ps := [PyE.py a, PyE.py z]) (fun p hp => ?_) (by simp)).imp (by omega) (by omega)
  rcases List.mem_cons.mp hp with rfl | hp
  · exact h1
  · rcases List.mem_cons.mp hp with rfl | hp
    · exact h2
    · cases hp
theorem repr_of {cl : List Int} (hc : cl.length ≤ 400) (hcb : ∀ x ∈ cl, 0 ≤ x ∧ x < 10000) {lo : Int} (h0 : 0 ≤ lo) {V : List Vi} (hV : V.length ≤ 12) (hC : Chain lo V) : ∃ z : Str, gRepr [.node true .lst [.node false .lst (cl.map .int), .node false .lst (V.map tv)]] = some (.str z) := by
  have e1 : toPy (.node false .lst (cl.map D.int)) = some (.list (cl.map PyData.int)) := by rw [toPy, toPyL_ints]; rfl
  have e2 : toPy (.node false .lst (V.map tv)) = some (PyE.py V) := toPy_lst toPy_tv _ _
  have e : toPy (.node true .lst [.node false .lst (cl.map D.int), .node false .lst (V.map tv)]) = some (.list [.list (cl.map PyData.int), PyE.py V]) := by
    rw [toPy, toPyL, e1, toPyL, e2, toPyL]; rfl
  refine ⟨_, gRepr_of e (m := 2 * (20000 + 1)) (n := 3) (Sm.lst (k := 2) (m := 20000) (n := 2) (fun p hp => ?_) (by simp)) (by omega) (by omega)⟩
  rcases List.mem_cons.mp hp with rfl | hp
  · refine (Sm.lst (k := 400) (m := 34) (n := 0) (fun p hp => ?_) (by simpa using hc)).imp (by omega) (by omega)
    obtain ⟨x, hx, rfl⟩ := List.mem_map.mp hp
    have := hcb x hx
    exact Sm.int this.1 (by omega)
  · rcases List.mem_cons.mp hp with rfl | hp
    · refine (Sm.lst (k := 12) (m := 200) (n := 1) (fun p hp => ?_) (by simpa using hV)).imp (by omega) (by omega)
      obtain ⟨x, hx, rfl⟩ := List.mem_map.mp hp
      exact small_v h0 hC x hx
    · cases hp
end Py.K89

set_option linter.all false
set_option maxRecDepth 100000
namespace Py.K89
open PySem L2
theorem cellv (ns : List Int) (k : Nat) (x : Int) (h : x = k) : phi__law_cell [.node false .lst (ns.map .int), .int x] = .ok (.int (ns.getD k 0)) := by subst h; exact Py.v_cell ns k
def endsOf (cl : List Int) (V : List Vi) (b days : Int) : List Int := (rgf b (20001 - b).toNat).filter fun d => decide (days ≤ F cl V b (d - b).toNat)
theorem filter_head {α : Type} (P : α → Bool) : ∀ {l : List α} {i : Nat} {x : α}, l[i]? = some x → P x = true → (∀ j y, j < i → l[j]? = some y → P y = false) → (l.filter P).head? = some x
  | [], _, _, h, _, _ => by simp at h
  | y :: l, 0, x, h, hx, _ => by
    simp at h
    subst h
    simp [hx]
  | y :: l, i + 1, x, h, hx, hj => by
    have h0 := hj 0 y (Nat.zero_lt_succ _) (by simp)
    have ih := filter_head P (l := l) (i := i) (x := x) (by simpa using h) hx fun j z hj2 hz => hj (j + 1) z (by omega) (by simpa using hz)
    simp [h0, ih]
theorem ends_some {cl : List Int} {V : List Vi} {b days : Int} {m : Nat} (hm : b + m < 20001) (h1 : days ≤ F cl V b m) (h2 : ∀ j, j < m → F cl V b j < days) : (endsOf cl V b days).head? = some (b + m) := by
  unfold endsOf
  refine filter_head _ (i := m) (rgf_get (by omega)) ?_ fun j y hj hy => ?_
  · have : (b + (m : Int) - b).toNat = m := by omega
    rw [this]
    exact decide_eq_true h1
  · rw [rgf_get (by omega)] at hy
    cases hy
    have : (b + (j : Int) - b).toNat = j := by omega
    rw [this]
    have := h2 j hj
    exact decide_eq_false (by omega)
theorem ends_none {cl : List Int} {V : List Vi} {b days : Int} (h : ∀ n : Nat, F cl V b n < days) : (endsOf cl V b days).head? = none := by
  unfold endsOf
  have : (rgf b (20001 - b).toNat).filter (fun d => decide (days ≤ F cl V b (d - b).toNat)) = [] := by
    rw [List.filter_eq_nil_iff]
    intro d _
    have := h (d - b).toNat
    simp
    omega
  rw [this]
  rfl
theorem F_open {cl : List Int} {V : List Vi} {b a : Int} {N : Nat} (hl : V.getLast? = some (a, none)) (hN : a = b + N) : ∀ j : Nat, F cl V b (N + j) = F cl V b N
  | 0 => rfl
  | j + 1 => by
    have ih := F_open hl hN j (cl := cl)
    have hs : shut cl V (b + ((N + j : Nat) : Int)) = true := by
      unfold shut
      rw [Bool.or_eq_true]
      right
      rw [List.any_eq_true]
      refine ⟨(a, none), List.mem_of_getLast? hl, ?_⟩
      unfold covers
      simp
      omega
    show F cl V b (N + j + 1) = _
    rw [F, hs, ih]
    simp
theorem chain_closed : ∀ {lo : Int} {V : List Vi}, Chain lo V → (∀ a, V.getLast? ≠ some (a, none)) → ∀ v ∈ V, ∃ e, v.2 = some e ∧ e ≤ 9999
  | _, [], _, _, v, hv => by cases hv
  | lo, (a, none) :: vs, h, hl, v, hv => by
    obtain ⟨_, _, rfl⟩ := h
    exact (hl a rfl).elim
  | lo, (a, some e) :: vs, h, hl, v, hv => by
    obtain ⟨h1, h2, h3, h4⟩ := h
    rcases List.mem_cons.mp hv with rfl | hv
    · exact ⟨e, rfl, h3⟩
    · refine chain_closed h4 (fun a' => ?_) v hv
      have := hl a'
      cases vs with
      | nil => cases hv
      | cons w ws => simpa using this
theorem F_tail {cl : List Int} (hcb : ∀ x ∈ cl, 0 ≤ x ∧ x < 10000) {V : List Vi} {b : Int} (hV : ∀ v ∈ V, ∃ e, v.2 = some e ∧ e ≤ 9999) {n : Nat} (hn : 10000 ≤ b + n) : ∀ j : Nat, F cl V b (n + j) = F cl V b n + j
  | 0 => by simp
  | j + 1 => by
    have ih := F_tail hcb hV hn j
    have hs : shut cl V (b + ((n + j : Nat) : Int)) = false := by
      unfold shut
      rw [Bool.or_eq_false_iff]
      constructor
      · refine decide_eq_false fun h => ?_
        have := hcb _ h
        omega
      · rw [List.any_eq_false]
        intro v hv
        obtain ⟨e, he, h9⟩ := hV v hv
        unfold covers
        rw [he]
        simp
        intro _
        omega
    show F cl V b (n + j + 1) = _
    rw [F, hs, ih]
    simp
    omega
theorem F_nn (cl : List Int) (V : List Vi) (b : Int) (n : Nat) : 0 ≤ F cl V b n := F_mono cl V b (Nat.zero_le n)
/-- what end_of tells is the first of the ends; it is None just if an open visit has the rest -/
theorem end_due {cl : List Int} (hc : cl.length ≤ 400) (hn : cl.Nodup) (hcb : ∀ x ∈ cl, 0 ≤ x ∧ x < 10000) {V : List Vi} (hV : V.length ≤ 12) {days b : Int} (hb : 0 ≤ b ∧ b ≤ 9999) (hd : days ≤ 400) (hC : Chain b V) :
    phi_end_of [.node false .lst (cl.map .int), .int days, .int b, .node false .lst (V.map tv)] = .ok (oI (endsOf cl V b days).head?) ∧
    ((∃ a, V.getLast? = some (a, none) ∧ ((endsOf cl V b days).head?.isNone = decide (F cl V b (a - b).toNat < days))) ∨ ((∀ a, V.getLast? ≠ some (a, none)) ∧ (endsOf cl V b days).head?.isNone = false)) := by
  by_cases ho : ∃ a, V.getLast? = some (a, none)
  · obtain ⟨a, hl⟩ := ho
    have hab := (hC.low _ (List.mem_of_getLast? hl)).1
    have hab2 := (hC.low _ (List.mem_of_getLast? hl)).2.1
    simp only at hab hab2
    have hN : highOf V = b + ((a - b).toNat : Nat) := by unfold highOf; rw [hl]; simp only; omega
    obtain ⟨e1, e2⟩ := v_end hc hn (V := V) (by omega) (days := days) hb.1 hC (a - b).toNat hN
    by_cases hlt : F cl V b (a - b).toNat < days
    · have hnone := ends_none (cl := cl) (V := V) (b := b) (days := days) fun n => by
        clear e1 e2
        by_cases h : n ≤ (a - b).toNat
        · have := F_mono cl V b h; omega
        · have := F_open (cl := cl) (b := b) (N := (a - b).toNat) hl (by omega) (n - (a - b).toNat)
          have e : (a - b).toNat + (n - (a - b).toNat) = n := by omega
          rw [e] at this
          omega
      refine ⟨by rw [e1 hlt, hnone]; rfl, .inl ⟨a, hl, ?_⟩⟩
      rw [hnone, decide_eq_true hlt]
      rfl
    · have hle : days ≤ F cl V b (a - b).toNat := by clear e1 e2; omega
      obtain ⟨m, h1, h2, h3, h4⟩ := e2 hle
      clear e1 e2
      have hsome := ends_some (cl := cl) (V := V) (b := b) (days := days) (m := m) (by omega) h2 h3
      refine ⟨by rw [h4, hsome]; rfl, .inl ⟨a, hl, ?_⟩⟩
      rw [hsome, decide_eq_false hlt]
      rfl
  · have hno : ∀ a, V.getLast? ≠ some (a, none) := fun a h => ho ⟨a, h⟩
    have hN : highOf V = b + ((10400 - b).toNat : Nat) := by
      unfold highOf
      split
      · rename_i a h
        exact (hno a h).elim
      · omega
    have ht := F_tail (cl := cl) hcb (b := b) (chain_closed hC hno) (n := (10000 - b).toNat) (by omega) 400
    have e : (10000 - b).toNat + 400 = (10400 - b).toNat := by omega
    rw [e] at ht
    have hnn := F_nn cl V b (10000 - b).toNat
    have hle : days ≤ F cl V b (10400 - b).toNat := by omega
    obtain ⟨e1, e2⟩ := v_end hc hn (V := V) (by omega) (days := days) hb.1 hC (10400 - b).toNat hN
    obtain ⟨m, h1, h2, h3, h4⟩ := e2 hle
    clear e1 e2
    have hsome := ends_some (cl := cl) (V := V) (b := b) (days := days) (m := m) (by omega) h2 h3
    refine ⟨by rw [h4, hsome]; rfl, .inr ⟨hno, ?_⟩⟩
    rw [hsome]
    rfl
end Py.K89

set_option linter.all false
set_option maxRecDepth 100000
namespace Py.K89
open PySem L2
@[simp] theorem gNe_bl (a b : Bool) : gNe (.bl a) (.bl b) = some (.bl (decide (a ≠ b))) := gNe_py a b rfl rfl
theorem days_le {bg dy r : Int} (hb : 0 ≤ bg ∧ bg ≤ 9999) (hd : 0 ≤ dy ∧ dy ≤ 400) (hr : 0 ≤ r ∧ r < 60) {V : List Vi} (hV : Chain bg V) {d : Int} (h : d ∈ [bg, bg + 1, bg + dy, bg + dy + r, 9999, 10000, 20000] ++ V.map (fun v => v.1) ++ (V.filter fun v => v.2.isSome).map fun v => v.2.getD 0) : d ≤ 20000 := by
  rcases List.mem_append.mp h with h | h
  · rcases List.mem_append.mp h with h | h
    · simp at h; omega
    · obtain ⟨v, hv, rfl⟩ := List.mem_map.mp h
      have := (hV.low v hv).2.1
      omega
  · obtain ⟨v, hv, rfl⟩ := List.mem_map.mp h
    obtain ⟨hv, hs⟩ := List.mem_filter.mp hv
    obtain ⟨a, z⟩ := v
    cases z with
    | none => cases hs
    | some e =>
      have := ((hV.low _ hv).2.2 e rfl).2
      show e ≤ 20000
      omega
theorem due_of (E : List Int) (h : E.length ≤ 20001) : ∃ rest, gAdd (.node true .lst (cutD (E.map D.int) (some 0) (some 1))) (.node true .lst [.non]) = some (.node true .lst (oI E.head? :: rest)) := by
  have e : cutD (E.map D.int) (some 0) (some 1) = (E.map D.int).take 1 := cutD_to (by omega)
  rw [e, gAdd_lst (by simp; omega)]
  cases E with
  | nil => exact ⟨[], rfl⟩
  | cons x xs => exact ⟨[.non], rfl⟩
theorem atI_len {α : Type} {xs : List α} {x : α} {n : Int} (h : xs.getLast? = some x) (hn : n = (xs.length : Int) - 1) : atI xs n = some x := by
  have hl : xs ≠ [] := fun z => by rw [z] at h; cases h
  have hp := List.length_pos_iff.mpr hl
  obtain ⟨k, hk⟩ : ∃ k : Nat, xs.length = k + 1 := ⟨xs.length - 1, by omega⟩
  have : n = (k : Int) := by omega
  subst this
  refine atI_nat ?_
  rw [← h, List.getLast?_eq_getElem?, hk]
  rfl
theorem law_holds (ns : List Int) (hns : ns.length ≤ 63) : phi_law [.node false .lst (ns.map .int)] = .ok (.bl true) := by
  unfold phi_law F_law run
  have hin2 : in62 2 = true := in62_of (by omega) (by omega)
  simp [start]
  generalize hq : oFor _ _ _ _ _ = o
  have := for_same hq (rg 2) D.int [] (by simp [hin2]; exact rngI0 2) fun t ht => by
    clear hq
    rw [mem_rg] at ht
    obtain ⟨L, hL, hb, hnum⟩ := v_numbers (ns.getD t.toNat 0) 70 5040 (by decide) (by decide) (by decide) (by decide)
    have hnum : phi__law_numbers [.int (ns.getD t.toNat 0), .int 70, .int 5040] = .ok (.node true .lst (L.map .int)) := hnum
    have hL : L.length = 70 := hL
    obtain ⟨M, hM, hmb, hnum2⟩ := v_numbers (ns.getD (2 + t).toNat 0) 6 1000000001 (by decide) (by decide) (by decide) (by decide)
    have hnum2 : phi__law_numbers [.int (ns.getD (2 + t).toNat 0), .int 6, .int 1000000001] = .ok (.node true .lst (M.map .int)) := hnum2
    have hM : M.length = 6 := hM
    have hc1 := cellv ns t.toNat t (by omega)
    have hc2 := cellv ns (2 + t).toNat (2 + t) (by omega)
    obtain ⟨T, hT, htar⟩ := v_tariff hL hb
    generalize ns.getD t.toNat 0 = c1 at *
    generalize ns.getD (2 + t).toNat 0 = c2 at *
    have ixm : ∀ i : Int, 0 ≤ i → i < 6 → ∃ v, atI (M.map D.int) i = some (.int v) ∧ 0 ≤ v ∧ v < 1000000001 := fun i h0 h1 => by
      refine ⟨_, atI_int h0 (by omega), ?_⟩
      have hi : i.toNat < M.length := by omega
      rw [List.getD_eq_getElem?_getD, List.getElem?_eq_getElem hi]
      exact hmb _ (List.getElem_mem hi)
    obtain ⟨g0, eg0, _⟩ := ixm 0 (by omega) (by omega)
    obtain ⟨g1, eg1, _⟩ := ixm 1 (by omega) (by omega)
    obtain ⟨g2, eg2, bg2, _⟩ := ixm 2 (by omega) (by omega)
    obtain ⟨g3, eg3, bg3, _⟩ := ixm 3 (by omega) (by omega)
    obtain ⟨v14, e14, b14, b14'⟩ := ixd hL hb 14 (by omega) (by omega)
    have hTl := hT.1
    simp [hc1, hnum, htar, hc2, hnum2, eg0, eg1, e14]
    generalize hq : oFor _ _ _ _ _ = o
    obtain ⟨cs, hcs, rfl⟩ := for_set hq 6 T t2 [3] (fun b : List Int => sl (.node true .lst (b.map .int))) (fun k b => b.length ≤ 7 + 3 * k) [0, 1, 2, 1000000000, g0, g1, v14] (by simp) (by simp) (by simp) fun k x b hx hk hb2 => by
      clear hq
      have ga : gAdd (.node false .lst (b.map D.int)) (.node true .lst [.int (x.1 - 1), .int x.1, .int (x.1 + 1)]) = some (.node true .lst ((b ++ [x.1 - 1, x.1, x.1 + 1]).map D.int)) := by
        rw [gAdd_lst (by simp; omega)]; simp
      generalize hb3 : b ++ [x.1 - 1, x.1, x.1 + 1] = b3 at *
      have hl3 : b3.length ≤ 7 + 3 * (k + 1) := by rw [← hb3]; simp; omega
      simp [ga]
      exact ⟨b3, hl3, rfl⟩
    clear hq
    simp
    generalize hq : oFor _ _ _ _ _ = o
    have := for_same hq cs D.int [6] (by simp) fun c hc => by
      clear hq
      have ep := v_law_price hT c
      have ep2 := v_price_of hT c
      have hp0 := price_nn hT c T.length (Nat.le_refl _)
      generalize price T c T.length = p at *
      simp [ep, ep2, same_int]
      generalize hq : oFor _ _ _ _ _ = o
      have := for_same hq [p, p + 1, max 0 (p - 1)] D.int [] (by simp) fun m hm => by
        clear hq
        have hm0 : 0 ≤ m := by simp at hm; omega
        obtain ⟨r, er, eis⟩ := is_most hT hm0
        simp [er, eis]
      subst this
      simp
    subst this
    clear hq
    simp
    generalize hq : oFor _ _ _ _ _ = o
    have := for_same hq [0, 1, g2, g3 * 9999, 100000000000000000000] D.int [] (by simp [eg2, eg3, cMul_r (z := g3) (w := 9999) (by decide) (by decide)]) fun m hm => by
      clear hq
      have hm0 : 0 ≤ m := by simp at hm; omega
      obtain ⟨r, er, eis⟩ := is_most hT hm0
      simp [er, eis]
    subst this
    clear hq
    simp
    generalize hq : oFor _ _ _ _ _ = o
    have := for_same hq (rg 2) D.int [] (by simp [hin2]; exact rngI0 2) fun k hk => by
      clear hq
      rw [mem_rg] at hk
      obtain ⟨w15, e15, b15, b15'⟩ := ixd hL hb (15 + k) (by omega) (by omega)
      obtain ⟨w17, e17, b17, b17'⟩ := ixd hL hb (17 + k) (by omega) (by omega)
      obtain ⟨w19, e19, b19, b19'⟩ := ixd hL hb (19 + k) (by omega) (by omega)
      obtain ⟨w21, e21, b21, b21'⟩ := ixd hL hb (21 + k) (by omega) (by omega)
      obtain ⟨w27, e27, b27, b27'⟩ := ixd hL hb (27 + k) (by omega) (by omega)
      obtain ⟨w29, e29, b29, b29'⟩ := ixd hL hb (29 - k) (by omega) (by omega)
      obtain ⟨w60, e60, b60, b60'⟩ := ixd hL hb 60 (by omega) (by omega)
      have m1 := fm w15 300 (by omega)
      have m2 := fm w15 100 (by omega)
      have m3 := fm (w15 * 2) 10000 (by omega)
      have m4 := fm w19 401 (by omega)
      have m5 := fm w19 20 (by omega)
      have m6 := fm w29 13 (by omega)
      have m7 := fm w60 60 (by omega)
      have c2' : cMul w15 2 = true := cMul_r (by decide) (by decide)
      have c15 : cMul 15 k = true := cMul_l (by decide) (by decide)
      obtain ⟨bg, ebg, hbg⟩ := ix5 (a := 0) (b := w15.fmod 300) (c := 9999) (d := 9900 + w15.fmod 100) (e := (w15 * 2).fmod 10000) (fm w17 5 (by omega))
      obtain ⟨dy, edy, hdy⟩ := ix5 (a := 0) (b := 1) (c := 400) (d := w19.fmod 401) (e := w19.fmod 20) (fm w21 5 (by omega))
      obtain ⟨tp, etp, htp⟩ := ix3 (a := 40) (b := 300) (c := 9999) (fm w27 3 (by omega))
      have hbg0 : 0 ≤ bg ∧ bg ≤ 9999 := by omega
      have hdy0 : 0 ≤ dy ∧ dy ≤ 400 := by omega
      have s1 : cutD (L.map D.int) (some (23 + k)) none = (L.drop (23 + k).toNat).map D.int := by rw [cutD_from (by omega), List.map_drop]
      have s2 : cutD (L.map D.int) (some (30 + 15 * k)) none = (L.drop (30 + 15 * k).toNat).map D.int := by rw [cutD_from (by omega), List.map_drop]
      obtain ⟨cl, hc1, hc2, hc3, hcal⟩ := v_calendar (L := L.drop (23 + k).toNat) (by rw [List.length_drop]; omega) (fun x hx => hb x (List.mem_of_mem_drop hx)) htp
      obtain ⟨V, hV1, hV2, hvis⟩ := v_visits (L := L.drop (30 + 15 * k).toNat) (by rw [List.length_drop]; omega) (fun x hx => hb x (List.mem_of_mem_drop hx)) hbg0 (c := w29.fmod 13) (by omega)
      obtain ⟨z, hz⟩ := repr_of hc1 hc3 hbg0.1 hV1 hV2
      obtain ⟨ks, xs, hfz, hns2, hfd, hcnt⟩ := v_counts hc1 (fun x hx => (hc3 x hx).2) hV1 hbg0 hV2
      generalize L.drop (23 + k).toNat = L1 at *
      generalize L.drop (30 + 15 * k).toNat = L2' at *
      simp [e15, e17, e19, e21, e27, e29, e60, c2', c15, ebg, edy, etp, s1, s2, hcal, hvis, hz, hcnt, hfz, hns2]
      generalize hr : w60.fmod 60 = r at *
      have hhold : ∀ n : Nat, phi_holds_on [.node false .lst (cl.map .int), .int dy, .int bg, .node false .lst (V.map tv), .int (bg + n)] = .ok (.bl (decide (F cl V bg n < dy))) := fun n => by rw [v_holds hc1 (by omega), C_eq hc2 hV2]
      generalize hq : oFor _ _ _ _ _ = o
      have := for_same hq ([bg, bg + 1, bg + dy, bg + dy + r, 9999, 10000, 20000] ++ V.map (fun v => v.1) ++ (V.filter fun v => v.2.isSome).map fun v => v.2.getD 0) D.int [] (by
          simp
          generalize hq1 : eLc _ _ _ tT _ _ = o1
          have := eLc_all hq1 V tv (fun v => D.int v.1) [16] (by simp) (by omega) (fun _ => rfl) fun v hv => ⟨_, rfl, [], by simp⟩
          subst this
          generalize hq2 : eLc _ _ _ _ _ _ = o2
          have := eLc_D hq2 V tv (fun v => v.2.isSome) (fun v => oI v.2) [16] (by simp) (by omega) (fun _ => noShr_oI _) fun v hv => by
            exact ⟨_, rfl, by simp, fun _ => ⟨[], by simp⟩⟩
          subst this
          have ga : ∀ a b c d e f g : D, gAdd (.node true .lst [a, b, c, d, e, f, g]) (.node true .lst (V.map fun v => D.int v.1)) = some (.node true .lst ([a, b, c, d, e, f, g] ++ V.map fun v => D.int v.1)) := fun a b c d e f g => gAdd_lst (by simp; omega)
          have hfl := List.length_filter_le (fun v : Vi => v.2.isSome) V
          have ga2 : ∀ a b c d e f g : D, gAdd (.node true .lst (a :: b :: c :: d :: e :: f :: g :: V.map fun v => D.int v.1)) (.node true .lst ((V.filter fun v => v.2.isSome).map fun v => D.int (v.2.getD 0))) = some (.node true .lst ([a, b, c, d, e, f, g] ++ (V.map fun v => D.int v.1) ++ (V.filter fun v => v.2.isSome).map fun v => D.int (v.2.getD 0))) := fun a b c d e f g => gAdd_lst (by simp; omega)
          have hoi : ((V.filter fun v => v.2.isSome).map fun v => oI v.2) = (V.filter fun v => v.2.isSome).map fun v => D.int (v.2.getD 0) := List.map_congr_left fun v hv => by
            have := (List.mem_filter.mp hv).2
            obtain ⟨a, z⟩ := v
            cases z with
            | none => cases this
            | some e => rfl
          simp [gAdd_lst, ga, ga2, hoi, Function.comp_def]) fun d hd => by
        clear hq
        have h20 := days_le hbg0 hdy0 m7 hV2 hd
        by_cases hge : bg ≤ d
        · have hdn : d = bg + ((d - bg).toNat : Nat) := by clear hhold hfd; omega
          have e1 := hhold (d - bg).toNat
          have e2 := hfd (d - bg).toNat (by rw [← hdn]; clear hhold hfd; omega)
          rw [← hdn] at e1 e2
          clear hdn
          generalize (d - bg).toNat = n at *
          skip
          simp [hge, e1, e2, same_bl, hfz]
        · simp [hge]
      subst this
      clear hq
      simp
      generalize hq : eLc _ _ (gNm 20) _ _ _ = o
      have := eLc_D hq (rgf bg (20001 - bg).toNat) D.int (fun d => decide (dy ≤ F cl V bg (d - bg).toNat)) D.int [] (by simp [in62_of (c := bg) (by omega) (by omega), in62_of (c := 20001) (by omega) (by omega), rngI_rgf]) (by simp; omega) (fun _ => rfl) fun d hd => by
        rw [mem_rgf] at hd
        have hdn : d = bg + ((d - bg).toNat : Nat) := by clear hhold hfd; omega
        have e2 := hfd (d - bg).toNat (by rw [← hdn]; clear hhold hfd; omega)
        rw [← hdn] at e2
        clear hdn
        generalize (d - bg).toNat = n at *
        exact ⟨_, by simp; rfl, by simp [e2, hfz], fun _ => ⟨[], by simp⟩⟩
      change o = .ok (.node true .lst ((endsOf cl V bg dy).map D.int), []) at this
      subst this
      clear hq
      obtain ⟨hEnd, hcase⟩ := end_due hc1 hc2 hc3 hV1 (days := dy) hbg0 hdy0.2 hV2
      have hEl : (endsOf cl V bg dy).length ≤ 20001 := by
        unfold endsOf
        refine Nat.le_trans (List.length_filter_le _ _) ?_
        simp
        omega
      generalize endsOf cl V bg dy = E at *
      obtain ⟨rest, hdue⟩ := due_of E hEl
      have hfree := v_free hc1 (V := V) (by omega) dy bg
      have hfnd : ∀ v ∈ V, dfind ks xs (Sum.inl v.1) = some (.int (F cl V bg (v.1 - bg).toNat)) := fun v hv => by
        have h1 := (hV2.low v hv).1
        have h2 := (hV2.low v hv).2.1
        have hdn : v.1 = bg + ((v.1 - bg).toNat : Nat) := by clear hhold hfd hcase; omega
        have e2 := hfd (v.1 - bg).toNat (by rw [← hdn]; clear hhold hfd hcase; omega)
        rw [← hdn] at e2
        exact e2
      obtain ⟨Bs, hBs⟩ : ∃ Bs, Bs = V.map fun v => decide (C cl V bg v.1 < dy) := ⟨_, rfl⟩
      rw [← hBs] at hfree
      have hBl : Bs.length ≤ 100000 := by rw [hBs, List.length_map]; omega
      have hBs2 : V.map (fun v => D.bl (decide (F cl V bg (v.1 - bg).toNat < dy))) = Bs.map D.bl := by
        rw [hBs, List.map_map]
        refine List.map_congr_left fun v hv => ?_
        have h1 := (hV2.low v hv).1
        have hdn : v.1 = bg + ((v.1 - bg).toNat : Nat) := by clear hhold hfd hcase; omega
        have := C_eq hc2 hV2 (v.1 - bg).toNat
        rw [← hdn] at this
        show _ = D.bl (decide (C cl V bg v.1 < dy))
        rw [this]
      clear hBs
      rcases hcase with ⟨a, hl, hd⟩ | ⟨hno, hd⟩
      · have hml := hfnd _ (List.mem_of_getLast? hl)
        simp only at hml
        have hlen : 0 < V.length := by cases V with | nil => cases hl | cons _ _ => simp
        have hat : atI (V.map tv) ((V.length : Int) - 1) = some (tv (a, none)) := atI_len (by rw [List.getLast?_map, hl]; rfl) (by simp)
        simp [hdue, hEnd, same_oI, hlen, hat, hml, hfz, hd, hfree]
        generalize hq : eLc _ _ _ tT _ _ = o1
        have := eLc_all hq V tv (fun v => D.bl (decide (F cl V bg (v.1 - bg).toNat < dy))) [16] (by simp) (by omega) (fun _ => rfl) fun v hv => ⟨_, by simp; rfl, [], by simp [hfnd v hv, hfz]⟩
        rw [hBs2] at this
        subst this
        clear hq
        simp [same_bls hBl, hz]
      · by_cases hem : V.length = 0
        · have hlen : ¬ (0 : Int) < V.length := by omega
          simp [hdue, hEnd, same_oI, hem, hlen, hd, hfree]
          generalize hq : eLc _ _ _ tT _ _ = o1
          have := eLc_all hq V tv (fun v => D.bl (decide (F cl V bg (v.1 - bg).toNat < dy))) [16] (by simp) (by omega) (fun _ => rfl) fun v hv => ⟨_, by simp; rfl, [], by simp [hfnd v hv, hfz]⟩
          rw [hBs2] at this
          subst this
          clear hq
          simp [same_bls hBl, hz]
        · have hlen : 0 < V.length := by omega
          obtain ⟨a, e, hl⟩ : ∃ a e, V.getLast? = some (a, some e) := by
            cases hl : V.getLast? with
            | none => rw [List.getLast?_eq_none_iff] at hl; rw [hl] at hem; exact (hem rfl).elim
            | some w =>
              obtain ⟨a, z⟩ := w
              cases z with
              | none => exact (hno a hl).elim
              | some e => exact ⟨a, e, rfl⟩
          have hat : atI (V.map tv) ((V.length : Int) - 1) = some (tv (a, some e)) := atI_len (by rw [List.getLast?_map, hl]; rfl) (by simp)
          simp [hdue, hEnd, same_oI, hlen, hat, hd, hfree]
          generalize hq : eLc _ _ _ tT _ _ = o1
          have := eLc_all hq V tv (fun v => D.bl (decide (F cl V bg (v.1 - bg).toNat < dy))) [16] (by simp) (by omega) (fun _ => rfl) fun v hv => ⟨_, by simp; rfl, [], by simp [hfnd v hv, hfz]⟩
          rw [hBs2] at this
          subst this
          clear hq
          simp [same_bls hBl, hz]

    subst this
    clear hq
    simp [ne_T]
  subst this
  simp
end Py.K89

open PySem PySem.W PyProof.Rows
set_option maxHeartbeats 0 in
theorem PySem.Challenge.cw_piecesturned_k89_whole_tariffs_and_guara_holds : PySem.Challenge.rw_piecesturned_k89_whole_tariffs_and_guara.Holds := by
  w_on; o_law; k_head; (case hw => w_witness2)
  k_fill
  refine Py.walk_g (l := PySem.Challenge.rw_piecesturned_k89_whole_tariffs_and_guara) (n := 63) (k := 6) (x := "script") (sp := fun w => Py.spLaw _) rfl (by decide) rfl ⟨rfl, by decide, by decide⟩ (fun w h Y => PySem.W.kIn_of Y) ?F (fun _ _ a ns hl _ hS => ⟨a, ns, rfl, hS, hl, fun _ => rfl⟩)
  case F =>
    intro w mg fa h KX G hmg
    refine' Py.K89.all_mk Py.K89.law_holds KX G hmg ?a0 ?l0 ?c0 ?k0 ?a1 ?l1 ?c1 ?k1 ?a2 ?l2 ?c2 ?k2 ?a3 ?l3 ?c3 ?k3 ?a4 ?l4 ?c4 ?k4 ?a5 ?l5 ?c5 ?k5 ?a6 ?l6 ?c6 ?k6 ?a7 ?l7 ?c7 ?k7 ?a8 ?l8 ?c8 ?k8 ?a9 ?l9 ?c9 ?k9 ?a10 ?l10 ?c10 ?k10 ?a11 ?l11 ?c11 ?k11 ?a12 ?l12 ?c12 ?k12 ?a13 ?l13 ?c13 ?k13 ?a14 ?l14 ?c14 ?k14 ?a15 ?l15 ?c15 ?k15 ?a16 ?l16 ?c16 ?k16 ?a17 ?l17 ?c17 ?k17 ?z_bool ?z_enumerate ?z_int ?z_isinstance ?z_len ?z_list ?z_max ?z_min ?z_range ?z_repr ?z_set ?z_sorted ?z_str ?z_sum ?z_tuple ?c_BEYOND ?c_MOST_THINGS
    (case a0 => k_is); (case l0 => k_is); (case c0 => k_is); (case k0 => k_is); (case a1 => k_is); (case l1 => k_is); (case c1 => k_is); (case k1 => k_is); (case a2 => k_is); (case l2 => k_is); (case c2 => k_is); (case k2 => k_is); (case a3 => k_is); (case l3 => k_is); (case c3 => k_is); (case k3 => k_is); (case a4 => k_is); (case l4 => k_is); (case c4 => k_is); (case k4 => k_is); (case a5 => k_is); (case l5 => k_is); (case c5 => k_is); (case k5 => k_is); (case a6 => k_is); (case l6 => k_is); (case c6 => k_is); (case k6 => k_is); (case a7 => k_is); (case l7 => k_is); (case c7 => k_is); (case k7 => k_is); (case a8 => k_is); (case l8 => k_is); (case c8 => k_is); (case k8 => k_is); (case a9 => k_is); (case l9 => k_is); (case c9 => k_is); (case k9 => k_is); (case a10 => k_is); (case l10 => k_is); (case c10 => k_is); (case k10 => k_is); (case a11 => k_is); (case l11 => k_is); (case c11 => k_is); (case k11 => k_is); (case a12 => k_is); (case l12 => k_is); (case c12 => k_is); (case k12 => k_is); (case a13 => k_is); (case l13 => k_is); (case c13 => k_is); (case k13 => k_is); (case a14 => k_is); (case l14 => k_is); (case c14 => k_is); (case k14 => k_is); (case a15 => k_is); (case l15 => k_is); (case c15 => k_is); (case k15 => k_is); (case a16 => k_is); (case l16 => k_is); (case c16 => k_is); (case k16 => k_is); (case a17 => k_is); (case l17 => k_is); (case c17 => k_is); (case k17 => k_is); (case z_bool => k_is); (case z_enumerate => k_is); (case z_int => k_is); (case z_isinstance => k_is); (case z_len => k_is); (case z_list => k_is); (case z_max => k_is); (case z_min => k_is); (case z_range => k_is); (case z_repr => k_is); (case z_set => k_is); (case z_sorted => k_is); (case z_str => k_is); (case z_sum => k_is); (case z_tuple => k_is); (case c_BEYOND => k_is); (case c_MOST_THINGS => k_is)
