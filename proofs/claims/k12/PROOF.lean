import PyProof.Rows.All
import Wide.All
import OpenK.AllK
import Wide.FinOn
import HandS.ForMost
import HandS.ForExc
import HandS.CallSlots
import HandS.Walk
import HandS.Flow
import HandS.TupAny
import HandS.TupMul
import HandS.Style
import HandS.DictComp
import KE.KEqDict
import KE.GoesNew
import HandS.SortInts
import HandS.SortRule
import HandS.Text
import HandS.Sort
import HandS.SetFor
import HandS.Strs
import HandS.IsInst
import KE.KTupSum
import HandS.GenList
import HandS.Keys
import PySem.Challenge.RW_lapsplits_k12_whole_wider_bounds_and_sho
set_option Elab.async false
set_option linter.all false
set_option maxRecDepth 100000
set_option maxHeartbeats 2000000
namespace PL
open PySem PySem.Spec PyProof.Rows L2
inductive D where
  | non | bl (b : Bool) | int (i : Int) | str (s : List Nat) | tup (ds : List D) | lst (ds : List D)
  | dct (es : List (Int × D)) | scr (ns : List Int) | ins (c : Nat) (ds : List D)
inductive Res (α : Type) where
  | ok (a : α) | exc (c : Nat) | bad
def Res.bind {α β : Type} : Res α → (α → Res β) → Res β
  | .ok a, f => f a
  | .exc c, _ => .exc c
  | .bad, _ => .bad
@[simp] theorem bind_ok {α β : Type} (a : α) (f : α → Res β) : (Res.ok a).bind f = f a := id rfl
@[simp] theorem bind_exc {α β : Type} (c : Nat) (f : α → Res β) : (Res.exc c : Res α).bind f = .exc c := rfl
@[simp] theorem bind_bad {α β : Type} (f : α → Res β) : (Res.bad : Res α).bind f = .bad := rfl
structure Par where
  K : PySem.W.Frag
  ca : Nat → Addr
  fn : Nat → List Str
  ex : Nat → Addr
def dkv (es : List (Int × D)) (vs : List V) : List (Key × V) := (es.map fun e => (Sum.inl e.1 : Key)).zip vs
mutual
inductive Rep (p : Par) (G : Hp) : V → D → Prop
  | non : Rep p G .non .non
  | bl (b : Bool) : Rep p G (.bl b) (.bl b)
  | int (i : Int) : Rep p G (.int i) (.int i)
  | str (s : List Nat) : Rep p G (.str ⟨s.toArray⟩) (.str s)
  | tup {a : Addr} {xs : List V} {ds : List D} : G a = some (.tup xs) → Reps p G xs ds → Rep p G (.ref a) (.tup ds)
  | lst {a : Addr} {xs : List V} {ds : List D} : G a = some (.lst xs) → Reps p G xs ds → Rep p G (.ref a) (.lst ds)
  | dct {a : Addr} {od : Obj} {vs : List V} {es : List (Int × D)} : G a = some (.frz od (.dK (dkv es vs))) → Reps p G vs (es.map (·.2)) → Rep p G (.ref a) (.dct es)
  | scr {a : Addr} {ns : List Int} : SqL p.K G a (ns.map V.int) → Rep p G (.ref a) (.scr ns)
  | ins {a dx : Addr} {c : Nat} {vs : List V} {ds : List D} : G a = some (.ins (p.ca c) dx ((p.fn c).zip vs)) → vs.length = (p.fn c).length → Reps p G vs ds → Rep p G (.ref a) (.ins c ds)
inductive Reps (p : Par) (G : Hp) : List V → List D → Prop
  | nil : Reps p G [] []
  | cons {v : V} {vs : List V} {d : D} {ds : List D} : Rep p G v d → Reps p G vs ds → Reps p G (v :: vs) (d :: ds)
end
section
variable {p : Par} {G G' : Hp}
mutual
theorem Rep.mono (s : Same G G') : ∀ {v : V} {d : D}, Rep p G v d → Rep p G' v d
  | _, _, .non => .non
  | _, _, .bl b => .bl b
  | _, _, .int i => .int i
  | _, _, .str z => .str z
  | _, _, .tup h r => .tup (s _ _ h) (Reps.mono s r)
  | _, _, .lst h r => .lst (s _ _ h) (Reps.mono s r)
  | _, _, .dct h r => .dct (s _ _ h) (Reps.mono s r)
  | _, _, .scr h => .scr (s.seq h)
  | _, _, .ins h l r => .ins (s _ _ h) l (Reps.mono s r)
theorem Reps.mono (s : Same G G') : ∀ {vs : List V} {ds : List D}, Reps p G vs ds → Reps p G' vs ds
  | _, _, .nil => .nil
  | _, _, .cons a b => .cons (Rep.mono s a) (Reps.mono s b)
end
theorem Reps.length : ∀ {vs : List V} {ds : List D}, Reps p G vs ds → vs.length = ds.length
  | _, _, .nil => rfl
  | _, _, .cons _ b => congrArg (· + 1) (Reps.length b)
theorem Reps.get : ∀ {vs : List V} {ds : List D} {i : Nat} {d : D}, Reps p G vs ds → ds[i]? = some d → ∃ v, vs[i]? = some v ∧ Rep p G v d
  | _, _, _, _, .nil, e => by simp at e
  | _, _, 0, _, .cons r _, e => by simp at e; subst e; exact ⟨_, rfl, r⟩
  | _, _, i + 1, d, .cons _ t, e => by
    obtain ⟨u, h1, h2⟩ := Reps.get (i := i) (d := d) t (by simpa using e)
    exact ⟨u, by simpa using h1, h2⟩
theorem Reps.get' : ∀ {vs : List V} {ds : List D} {i : Nat} {v : V}, Reps p G vs ds → vs[i]? = some v → ∃ d, ds[i]? = some d ∧ Rep p G v d
  | _, _, _, _, .nil, e => by simp at e
  | _, _, 0, _, .cons r _, e => by simp at e; subst e; exact ⟨_, rfl, r⟩
  | _, _, i + 1, v, .cons _ t, e => by
    obtain ⟨u, h1, h2⟩ := Reps.get' (i := i) (v := v) t (by simpa using e)
    exact ⟨u, by simpa using h1, h2⟩
theorem Reps.append : ∀ {xs ys : List V} {ds es : List D}, Reps p G xs ds → Reps p G ys es → Reps p G (xs ++ ys) (ds ++ es)
  | _, _, _, _, .nil, s => s
  | _, _, _, _, .cons r t, s => .cons r (Reps.append t s)
theorem Reps.take : ∀ {xs : List V} {ds : List D} (n : Nat), Reps p G xs ds → Reps p G (xs.take n) (ds.take n)
  | _, _, 0, _ => .nil
  | _, _, _ + 1, .nil => .nil
  | _, _, n + 1, .cons r t => .cons r (Reps.take n t)
theorem Reps.drop : ∀ {xs : List V} {ds : List D} (n : Nat), Reps p G xs ds → Reps p G (xs.drop n) (ds.drop n)
  | _, _, 0, r => r
  | _, _, _ + 1, .nil => .nil
  | _, _, n + 1, .cons _ t => Reps.drop n t
theorem Reps.set {x : V} {d : D} (r : Rep p G x d) : ∀ {xs : List V} {ds : List D} (i : Nat), Reps p G xs ds → Reps p G (xs.set i x) (ds.set i d)
  | _, _, _, .nil => .nil
  | _, _, 0, .cons _ t => .cons r t
  | _, _, i + 1, .cons q t => .cons q (Reps.set r i t)
theorem Reps.reverse {xs : List V} {ds : List D} (h : Reps p G xs ds) : Reps p G xs.reverse ds.reverse := by
  induction xs generalizing ds with
  | nil => cases h; exact .nil
  | cons x xs ih =>
    cases h with
    | cons r t =>
      rw [List.reverse_cons, List.reverse_cons]
      exact (ih t).append (.cons r .nil)
theorem Reps.ints : ∀ {ns : List Int} {vs : List V}, Reps p G vs (ns.map D.int) → vs = ns.map V.int
  | [], _, .nil => rfl
  | n :: ns, _, .cons r t => by cases r; rw [Reps.ints t]; rfl
theorem Reps.of_ints : ∀ (ns : List Int), Reps p G (ns.map V.int) (ns.map D.int)
  | [] => .nil
  | _ :: ns => .cons (.int _) (Reps.of_ints ns)
end
structure Grow (G H G' H' : Hp) : Prop where
  same : Same H H'
  sub : Same G G'
  new : ∀ b, H b ≠ none → G' b = G b
  below : Same G' H'
section
variable {p : Par} {G G1 G2 H H1 H2 : Hp} {a : Addr} {o : HO}
theorem Grow.refl (h : Same G H) : Grow G H G H := ⟨.refl H, .refl G, fun _ _ => rfl, h⟩
theorem Grow.trans (x : Grow G H G1 H1) (y : Grow G1 H1 G2 H2) : Grow G H G2 H2 :=
  ⟨x.same.trans y.same, x.sub.trans y.sub, fun b h => by
    refine (y.new b fun e => h ?_).trans (x.new b h)
    exact x.same.free e, y.below⟩
theorem same_upd (h : H a = none) : Same H (upd H a o) := fun b x e => by
  rw [upd_ne (ne_of_none e h)]
  exact e
theorem free_G (b : Same G H) (h : H a = none) : G a = none := b.free h
theorem same_upd2 (s : Same G H) : Same (upd G a o) (upd H a o) := fun b x e => by
  by_cases hb : b = a
  · subst hb; rw [upd_same] at e ⊢; exact e
  · rw [upd_ne hb] at e ⊢; exact s _ _ e
theorem Grow.alloc (b : Same G H) (h : H a = none) : Grow G H (upd G a o) (upd H a o) :=
  ⟨same_upd h, same_upd (free_G b h), fun c hc => upd_ne fun e => hc (by rw [e]; exact h), same_upd2 b⟩
theorem Grow.allocO (b : Same G H) (h : H a = none) : Grow G H G (upd H a o) :=
  ⟨same_upd h, .refl G, fun _ _ => rfl, b.trans (same_upd h)⟩
end
abbrev Env := List (Option D)
structure Gh where
  ρ : Env
  G : Hp
  H0 : Hp
  G0 : Hp
def Own (p : Par) (G H : Hp) (a : Addr) (d : D) : Prop :=
  (∃ xs ds, d = .lst ds ∧ H a = some (.lst xs) ∧ Reps p G xs ds) ∨ (∃ es vs, d = .dct es ∧ H a = some (.dK (dkv es vs)) ∧ Reps p G vs (es.map (·.2)))
def Slot (p : Par) (own : Bool) (Z : Gh) (H : Hp) (v : V) (d : D) : Prop :=
  if own = true then ∃ a, v = .ref a ∧ Z.G a = none ∧ Z.H0 a = none ∧ Own p Z.G H a d else Rep p Z.G v d
structure Rel (p : Par) (O : List Nat) (Z : Gh) (σ : L2.St) (H : Hp) : Prop where
  below : Same Z.G H
  frame : Same Z.H0 H
  fixed : ∀ b, Z.H0 b ≠ none → Z.G b = Z.G0 b
  sub : Same Z.G0 Z.G
  len : σ.length = Z.ρ.length
  slots : ∀ i d, Z.ρ[i]? = some (some d) → ∃ v, σ[i]? = some (some v) ∧ Slot p (O.contains i) Z H v d
  apart : ∀ i j a d e, O.contains i = true → O.contains j = true → Z.ρ[i]? = some (some d) → Z.ρ[j]? = some (some e) → σ[i]? = some (some (.ref a)) → σ[j]? = some (some (.ref a)) → i = j
abbrev Gh.up (Z : Gh) (G' : Hp) : Gh := { Z with G := G' }
section
variable {p : Par} {O : List Nat} {Z : Gh} {σ : L2.St} {G' H H' : Hp}
theorem Own.grow {G G' : Hp} {a : Addr} {d : D} (h : Own p G H a d) (s : Same H H') (sg : Same G G') : Own p G' H' a d := by
  rcases h with ⟨xs, ds, e, h, r⟩ | ⟨es, vs, e, h, r⟩
  · exact .inl ⟨xs, ds, e, s _ _ h, r.mono sg⟩
  · exact .inr ⟨es, vs, e, s _ _ h, r.mono sg⟩
theorem Own.there {G : Hp} {a : Addr} {d : D} (h : Own p G H a d) : H a ≠ none := by
  rcases h with ⟨xs, ds, e, h, r⟩ | ⟨es, vs, e, h, r⟩ <;> rw [h] <;> intro z <;> cases z
theorem Rel.grow (r : Rel p O Z σ H) (g : Grow Z.G H G' H') : Rel p O (Z.up G') σ H' where
  below := g.below
  frame := r.frame.trans g.same
  fixed := fun b hb => by
    refine (g.new b fun e => hb ?_).trans (r.fixed b hb)
    exact r.frame.free e
  sub := r.sub.trans g.sub
  len := r.len
  slots := fun i d e => by
    obtain ⟨v, h1, h2⟩ := r.slots i d e
    refine ⟨v, h1, ?_⟩
    unfold Slot at h2 ⊢
    split
    · rename_i ho
      rw [if_pos ho] at h2
      obtain ⟨a, h3, h4, h5, h6⟩ := h2
      exact ⟨a, h3, (g.new a h6.there).trans h4, h5, h6.grow g.same g.sub⟩
    · rename_i ho
      rw [if_neg ho] at h2
      exact h2.mono g.sub
  apart := r.apart
end
def post {α : Type} (p : Par) (W : WX) (σ : L2.St) (G H : Hp) (r : Res α) (C : α → Hp → Hp → Prop) : Prop :=
  match r with
  | .ok a => ∀ G' H', Grow G H G' H' → C a G' H'
  | .exc c => ∀ H', Same H H' → W (.ref (p.ex c)) none σ H'
  | .bad => False
section
variable {α β : Type} {p : Par} {W : WX} {σ : L2.St} {G H G1 H1 : Hp} {r : Res α} {k : α → Res β} {C C' : α → Hp → Hp → Prop} {Cb : β → Hp → Hp → Prop}
theorem post_grow (g : Grow G H G1 H1) (h : post p W σ G H r C) : post p W σ G1 H1 r C := by
  cases r with
  | ok a => exact fun G' H' g' => h G' H' (g.trans g')
  | exc c => exact fun H' s => h H' (g.same.trans s)
  | bad => exact h
theorem post_imp (h : post p W σ G H r C) (i : ∀ a G' H', Grow G H G' H' → C a G' H' → C' a G' H') : post p W σ G H r C' := by
  cases r with
  | ok a => exact fun G' H' g' => i a G' H' g' (h G' H' g')
  | exc c => exact h
  | bad => exact h
theorem post_bind (h : post p W σ G H (r.bind k) Cb) : post p W σ G H r (fun a G' H' => post p W σ G' H' (k a) Cb) := by
  cases r with
  | ok a => exact fun G' H' g' => post_grow g' h
  | exc c => exact h
  | bad => exact h
theorem post_ok {a : α} (s : Same G H) (h : post p W σ G H (.ok a) C) : C a G H := h G H (.refl s)
end
def rdE (p : Par) (W : WX) (O : List Nat) (f : Env → Res D) : TE := fun σ H Q => ∃ Z, Rel p O Z σ H ∧ post p W σ Z.G H (f Z.ρ) fun d G' H' => ∀ v, Rep p G' v d → Q v H'
def BRep (p : Par) (G H : Hp) (v : V) (d : D) : Prop := Rep p G v d ∨ ∃ a, v = .ref a ∧ Own p G H a d
def rdB (p : Par) (W : WX) (O : List Nat) (f : Env → Res D) : TE := fun σ H Q => ∃ Z, Rel p O Z σ H ∧ post p W σ Z.G H (f Z.ρ) fun d G' H' => ∀ v, BRep p G' H' v d → Q v H'
def rdF (p : Par) (W : WX) (O : List Nat) (f : Env → Res D) : TE := fun σ H Q => ∃ Z, Rel p O Z σ H ∧ post p W σ Z.G H (f Z.ρ) fun d G' H' => ∀ a H'', Grow G' H' G' H'' → H' a = none → Own p G' H'' a d → Q (.ref a) H''
def rdT (p : Par) (W : WX) (O : List Nat) (f : Env → Res Bool) : TT := fun σ H Q => ∃ Z, Rel p O Z σ H ∧ post p W σ Z.G H (f Z.ρ) fun b _ H' => Q b H'
def rdA (p : Par) (W : WX) (O : List Nat) (f : Env → Res (List D)) : TA := fun σ H Q => ∃ Z, Rel p O Z σ H ∧ post p W σ Z.G H (f Z.ρ) fun ds G' H' => ∀ vs, Reps p G' vs ds → Q vs H'
def rdAB (p : Par) (W : WX) (O : List Nat) (f : Env → Res (List D)) : TA := fun σ H Q => ∃ Z, Rel p O Z σ H ∧ post p W σ Z.G H (f Z.ρ) fun ds G' H' => ∀ vs, Paired (BRep p G' H') vs ds → Q vs H'
theorem pe_w {X : Cx} {e : Expr} {t t' : TE} (h : PE X e t) (w : ∀ σ H Q, t' σ H Q → t σ H Q) : PE X e t' := ⟨fun pins s σ H Q I q => h.run pins s σ H Q I (w σ H Q q)⟩
theorem pt_w {X : Cx} {e : Expr} {t t' : TT} (h : PT X e t) (w : ∀ σ H Q, t' σ H Q → t σ H Q) : PT X e t' := ⟨fun pins s σ H Q I q => h.run pins s σ H Q I (w σ H Q q)⟩
theorem pw_w {X : Cx} {e : Expr} {t t' : TT} (h : PW X e t) (w : ∀ σ H Q, t' σ H Q → t σ H Q) : PW X e t' := ⟨fun wh pins s σ H Q I q => h.run wh pins s σ H Q I (w σ H Q q)⟩
theorem pa_w {X : Cx} {es : List Expr} {t t' : TA} (h : PA X es t) (w : ∀ σ H Q, t' σ H Q → t σ H Q) : PA X es t' := ⟨fun pos pins s σ H Q I q => h.run pos pins s σ H Q I (w σ H Q q)⟩
theorem ps_w {X : Cx} {st : Stmt} {t t' : TS} (h : PS X st t) (w : ∀ Dd σ H, t' Dd σ H → t Dd σ H) : PS X st t' := ⟨fun pins s σ H Dd I q => h.run pins s σ H Dd I (w Dd σ H q)⟩
theorem pss_w {X : Cx} {st : List Stmt} {t t' : TS} (h : PSs X st t) (w : ∀ Dd σ H, t' Dd σ H → t Dd σ H) : PSs X st t' := ⟨fun pins s σ H Dd I q => h.run pins s σ H Dd I (w Dd σ H q)⟩
theorem BRep.grow {p : Par} {G G' H H' : Hp} {v : V} {d : D} (h : BRep p G H v d) (g : Grow G H G' H') : BRep p G' H' v d := by
  rcases h with h | ⟨a, e, h⟩
  · exact .inl (h.mono g.sub)
  · exact .inr ⟨a, e, h.grow g.same g.sub⟩
def eVar (i : Nat) : Env → Res D := fun ρ => match ρ[i]? with
  | some (some d) => .ok d
  | _ => .bad
def eCst (d : D) : Env → Res D := fun _ => .ok d
def eUn (f : D → Res D) (a : Env → Res D) : Env → Res D := fun ρ => (a ρ).bind f
def eBin (f : D → D → Res D) (a b : Env → Res D) : Env → Res D := fun ρ => (a ρ).bind fun x => (b ρ).bind fun y => f x y
def eIf (t : Env → Res Bool) (a b : Env → Res D) : Env → Res D := fun ρ => (t ρ).bind fun c => if c = true then a ρ else b ρ
def eTst (t : Env → Res Bool) : Env → Res D := fun ρ => (t ρ).bind fun b => .ok (.bl b)
def blD : D → Res Bool
  | .bl b => .ok b
  | _ => .bad
def tVal (a : Env → Res D) : Env → Res Bool := fun ρ => (a ρ).bind blD
def tCmp (f : D → D → Res Bool) (a b : Env → Res D) : Env → Res Bool := fun ρ => (a ρ).bind fun x => (b ρ).bind fun y => f x y
def tChn (f g : D → D → Res Bool) (a b c : Env → Res D) : Env → Res Bool := fun ρ => (a ρ).bind fun x => (b ρ).bind fun y => (f x y).bind fun k => if k = true then (c ρ).bind fun z => g y z else .ok false
def tNot (t : Env → Res Bool) : Env → Res Bool := fun ρ => (t ρ).bind fun b => .ok (!b)
def tAnd (t u : Env → Res Bool) : Env → Res Bool := fun ρ => (t ρ).bind fun b => if b = true then u ρ else .ok false
def tOr (t u : Env → Res Bool) : Env → Res Bool := fun ρ => (t ρ).bind fun b => if b = true then .ok true else u ρ
def aNil : Env → Res (List D) := fun _ => .ok []
def aCons (a : Env → Res D) (b : Env → Res (List D)) : Env → Res (List D) := fun ρ => (a ρ).bind fun x => (b ρ).bind fun xs => .ok (x :: xs)
def eArgs (f : List D → Res D) (a : Env → Res (List D)) : Env → Res D := fun ρ => (a ρ).bind f
section
variable {X : Cx} {p : Par} {W : WX} {O : List Nat} {pos : Pos} {e e1 e2 e3 : Expr} {es : List Expr} {fa fb fc : Env → Res D} {ft fu : Env → Res Bool} {fs : Env → Res (List D)}
theorem r_b (h : PE X e (rdE p W O fa)) : PE X e (rdB p W O fa) := pe_w h fun σ H Q ⟨Z, r, q⟩ => ⟨Z, r, post_imp q fun d G' H' _ c v rv => c v (.inl rv)⟩
theorem r_f (h : PE X e (rdF p W O fa)) : PE X e (rdE p W O fa) := by
  refine ⟨fun pins s σ H Q I h1 => ?_⟩
  obtain ⟨Z, r, q⟩ := h1
  have h2 : rdF p W O fa σ H (fun v H' => ∃ a, v = .ref a ∧ ((∃ xs, H' a = some (.lst xs) ∧ Q v H') ∨ (∃ kvs, H' a = some (.dK kvs) ∧ ∀ od, Q v (upd H' a (.frz od (.dK kvs)))))) := by
    refine ⟨Z, r, ?_⟩
    revert q
    cases fa Z.ρ with
    | exc c => exact fun q => q
    | bad => exact fun q => q
    | ok d =>
      intro q G' H' g a H'' g2 hn ho
      refine ⟨a, rfl, ?_⟩
      rcases ho with ⟨xs, ds, e, ha, rr⟩ | ⟨es', vs, e, ha, rr⟩
      · refine .inl ⟨xs, ha, ?_⟩
        have gz : Grow G' H' (upd G' a (.lst xs)) H'' := by
          refine ⟨g2.same, same_upd (free_G g.below hn), fun c hc => upd_ne fun e => hc (by rw [e]; exact hn), fun b o hb => ?_⟩
          by_cases hba : b = a
          · subst hba; rw [upd_same] at hb; cases hb; exact ha
          · rw [upd_ne hba] at hb; exact g2.below _ _ hb
        subst e
        exact q _ _ (g.trans gz) _ (.lst upd_same (rr.mono gz.sub))
      · refine .inr ⟨_, ha, fun od => ?_⟩
        have gz : Grow G' H' (upd G' a (.frz od (.dK (dkv es' vs)))) (upd H'' a (.frz od (.dK (dkv es' vs)))) := by
          refine ⟨fun b o hb => ?_, same_upd (free_G g.below hn), fun c hc => upd_ne fun e => hc (by rw [e]; exact hn), same_upd2 g2.below⟩
          rw [upd_ne (ne_of_none hb hn)]
          exact g2.same _ _ hb
        subst e
        exact q _ _ (g.trans gz) _ (.dct upd_same (rr.mono gz.sub))
  refine thn (h.run pins s σ H _ I h2) fun u s1 ⟨x, H1, I1, r1, a, e, q1⟩ => ?_
  rcases q1 with ⟨xs, ha, q1⟩ | ⟨kvs, ha, q1⟩
  · exact ⟨x, H1, I1, r1, q1⟩
  · obtain ⟨od, I2⟩ := I1.lock ha trivial
    exact ⟨x, _, I2, r1, q1 od⟩
theorem r_var {i : Nat} {x : Str} (hN : X.N[i]? = some x) (hv : Vis X.env.scope x) (ho : O.contains i = false) (hd : (x == ("__debug__" : Str)) = false := by decide) (hcd : (x == ("__classdict__" : Str)) = false := by decide) : PE X (.Name x pos) (rdE p W O (eVar i)) :=
  pe_w (pe_var hN hv hd hcd) fun σ H Q ⟨Z, r, q⟩ => by
    unfold eVar at q
    split at q
    · rename_i d e
      obtain ⟨v, h1, h2⟩ := r.slots i d e
      unfold Slot at h2
      rw [ho, if_neg Bool.false_ne_true] at h2
      exact ⟨v, h1, post_ok r.below q v h2⟩
    · exact q.elim
theorem r_varB {i : Nat} {x : Str} (hN : X.N[i]? = some x) (hv : Vis X.env.scope x) (hd : (x == ("__debug__" : Str)) = false := by decide) (hcd : (x == ("__classdict__" : Str)) = false := by decide) : PE X (.Name x pos) (rdB p W O (eVar i)) :=
  pe_w (pe_var hN hv hd hcd) fun σ H Q ⟨Z, r, q⟩ => by
    unfold eVar at q
    split at q
    · rename_i d e
      obtain ⟨v, h1, h2⟩ := r.slots i d e
      unfold Slot at h2
      refine ⟨v, h1, post_ok r.below q v ?_⟩
      split at h2
      · obtain ⟨a, e, _, _, h⟩ := h2
        exact .inr ⟨a, e, h⟩
      · exact .inl h2
    · exact q.elim
theorem r_int {i : Int} {j : Nat} : PE X (.Constant (.int i) j pos) (rdE p W O (eCst (.int i))) := pe_w pe_int fun σ H Q ⟨Z, r, q⟩ => post_ok r.below q _ (.int i)
theorem r_bl {b : Bool} {j : Nat} : PE X (.Constant (.bool b) j pos) (rdE p W O (eCst (.bl b))) := pe_w pe_bl fun σ H Q ⟨Z, r, q⟩ => post_ok r.below q _ (.bl b)
theorem r_non {j : Nat} : PE X (.Constant .none j pos) (rdE p W O (eCst .non)) := pe_w pe_non fun σ H Q ⟨Z, r, q⟩ => post_ok r.below q _ .non
theorem r_str {x : Str} {z : List Nat} {j : Nat} (hx : x.cps.toList = z) : PE X (.Constant (.str x) j pos) (rdE p W O (eCst (.str z))) := pe_w pe_str fun σ H Q ⟨Z, r, q⟩ => by
  have e : x = ⟨z.toArray⟩ := by rw [← hx]
  rw [e]
  exact post_ok r.below q _ (.str z)
def OpOk (p : Par) (r : R2) (f : D → D → Res D) : Prop := ∀ (W : WX) (σ : L2.St) (G H : Hp) (Q : VK) (x y : V) (dx dy : D), Same G H → BRep p G H x dx → BRep p G H y dy → post p W σ G H (f dx dy) (fun d G' H' => ∀ v, Rep p G' v d → Q v H') → r x y H Q
def OpOkF (p : Par) (r : R2) (f : D → D → Res D) : Prop := ∀ (W : WX) (σ : L2.St) (G H : Hp) (Q : VK) (x y : V) (dx dy : D), Same G H → BRep p G H x dx → BRep p G H y dy → post p W σ G H (f dx dy) (fun d G' H' => ∀ a H'', Grow G' H' G' H'' → H' a = none → Own p G' H'' a d → Q (.ref a) H'') → r x y H Q
def OpOkB (p : Par) (r : R2) (f : D → D → Res Bool) : Prop := ∀ (W : WX) (σ : L2.St) (G H : Hp) (Q : VK) (x y : V) (dx dy : D), Same G H → BRep p G H x dx → BRep p G H y dy → post p W σ G H (f dx dy) (fun b G' H' => Q (.bl b) H') → r x y H Q
theorem rd_two {σ : L2.St} {H : Hp} {f : D → D → Res D} {C : D → Hp → Hp → Prop} {R : V → V → Hp → Prop} {Z : Gh} (r : Rel p O Z σ H) (q : post p W σ Z.G H ((fa Z.ρ).bind fun x => (fb Z.ρ).bind fun y => f x y) C)
    (h : ∀ x y dx dy G' H', Same G' H' → BRep p G' H' x dx → BRep p G' H' y dy → post p W σ G' H' (f dx dy) C → R x y H') : rdB p W O fa σ H fun x H1 => rdB p W O fb σ H1 fun y H2 => R x y H2 := by
  refine ⟨Z, r, post_imp (post_bind q) fun dx G1 H1 g1 q1 x rx => ⟨Z.up G1, r.grow g1, post_imp (post_bind q1) fun dy G2 H2 g2 q2 y ry => ?_⟩⟩
  exact h x y dx dy G2 H2 g2.below (rx.grow g2) ry q2
theorem r_bin {op : Operator} {r : R2} {f : D → D → Res D} (ho : OpR X (binaryOp op) r) (hf : OpOk p r f) (ha : PE X e1 (rdB p W O fa)) (hb : PE X e2 (rdB p W O fb)) : PE X (.BinOp e1 op e2 pos) (rdE p W O (eBin f fa fb)) :=
  pe_w (pe_op ho ha hb) fun σ H Q ⟨Z, r, q⟩ => rd_two r q fun x y dx dy G' H' s rx ry q2 => hf W σ G' H' Q x y dx dy s rx ry q2
theorem r_binF {op : Operator} {r : R2} {f : D → D → Res D} (ho : OpR X (binaryOp op) r) (hf : OpOkF p r f) (ha : PE X e1 (rdB p W O fa)) (hb : PE X e2 (rdB p W O fb)) : PE X (.BinOp e1 op e2 pos) (rdF p W O (eBin f fa fb)) :=
  pe_w (pe_op ho ha hb) fun σ H Q ⟨Z, r, q⟩ => rd_two r q fun x y dx dy G' H' s rx ry q2 => hf W σ G' H' Q x y dx dy s rx ry q2
end
end PL
set_option Elab.async false
set_option linter.all false
set_option maxRecDepth 100000
set_option maxHeartbeats 2000000
namespace PL
open PySem PySem.Spec PyProof.Rows L2
def LIM : Nat := 16000000
def small64 (i : Int) : Bool := decide (i.natAbs < 18446744073709551616)
def addD : D → D → Res D
  | .int i, .int j => .ok (.int (i + j))
  | .str s, .str t => if s.length + t.length ≤ LIM then .ok (.str (s ++ t)) else .bad
  | .lst s, .lst t => if s.length + t.length ≤ LIM then .ok (.lst (s ++ t)) else .bad
  | .tup s, .tup t => if s.length + t.length ≤ LIM then .ok (.tup (s ++ t)) else .bad
  | _, _ => .bad
def addL : D → D → Res D
  | .lst s, .lst t => if s.length + t.length ≤ LIM then .ok (.lst (s ++ t)) else .bad
  | _, _ => .bad
def subD : D → D → Res D
  | .int i, .int j => .ok (.int (i - j))
  | _, _ => .bad
def mulD : D → D → Res D
  | .int i, .int j => if small64 i || small64 j then .ok (.int (i * j)) else .bad
  | _, _ => .bad
def repL : D → D → Res D
  | .lst s, .int k => if k.natAbs < 4000000000000000000 ∧ s.length * k.toNat ≤ LIM then .ok (.lst (List.replicate k.toNat s).flatten) else .bad
  | _, _ => .bad
def divD : D → D → Res D
  | .int i, .int j => if 0 < j ∧ j.natAbs < 1073741824 then .ok (.int (i / j)) else .bad
  | _, _ => .bad
def modD : D → D → Res D
  | .int i, .int j => if 0 < j then .ok (.int (i % j)) else .bad
  | _, _ => .bad
def powD : D → D → Res D
  | .int i, .int j => if 0 ≤ j ∧ j.natAbs ≤ 1000000 ∧ i.natAbs < 18446744073709551616 then .ok (.int (i ^ j.toNat)) else .bad
  | _, _ => .bad
def negD : D → Res D
  | .int i => .ok (.int (-i))
  | _ => .bad
theorem lim_line {n : Nat} (h : n ≤ LIM) : n ≤ sizeLine := by rw [sizeLine_eq]; unfold LIM at h; omega
theorem lim_line' {n : Nat} (h : n ≤ LIM) : n < sizeLine := by rw [sizeLine_eq]; unfold LIM at h; omega
theorem small64_ok {i : Int} (h : small64 i = true) : -(2 ^ 64) < i ∧ i < 2 ^ 64 := by
  have h' := of_decide_eq_true (p := i.natAbs < 18446744073709551616) h
  constructor <;> omega
section
variable {p : Par} {G H : Hp} {v : V} {d : D}
theorem BRep.int_inv {i : Int} (h : BRep p G H v (.int i)) : v = .int i := by
  rcases h with h | ⟨a, _, ⟨_, _, e, _⟩ | ⟨_, _, e, _⟩⟩
  · cases h; rfl
  · cases e
  · cases e
theorem BRep.bl_inv {b : Bool} (h : BRep p G H v (.bl b)) : v = .bl b := by
  rcases h with h | ⟨a, _, ⟨_, _, e, _⟩ | ⟨_, _, e, _⟩⟩
  · cases h; rfl
  · cases e
  · cases e
theorem BRep.non_inv (h : BRep p G H v .non) : v = .non := by
  rcases h with h | ⟨a, _, ⟨_, _, e, _⟩ | ⟨_, _, e, _⟩⟩
  · cases h; rfl
  · cases e
  · cases e
theorem BRep.str_inv {s : List Nat} (h : BRep p G H v (.str s)) : v = .str ⟨s.toArray⟩ := by
  rcases h with h | ⟨a, _, ⟨_, _, e, _⟩ | ⟨_, _, e, _⟩⟩
  · cases h; rfl
  · cases e
  · cases e
theorem BRep.lst_inv {ds : List D} (b : Same G H) (h : BRep p G H v (.lst ds)) : ∃ a xs, v = .ref a ∧ H a = some (.lst xs) ∧ Reps p G xs ds := by
  rcases h with h | ⟨a, e, ⟨_, _, e2, h, r⟩ | ⟨_, _, e2, _⟩⟩
  · cases h with
    | lst h r => exact ⟨_, _, rfl, b _ _ h, r⟩
  · cases e2; exact ⟨a, _, e, h, r⟩
  · cases e2
theorem BRep.tup_inv {ds : List D} (b : Same G H) (h : BRep p G H v (.tup ds)) : ∃ a xs, v = .ref a ∧ G a = some (.tup xs) ∧ H a = some (.tup xs) ∧ Reps p G xs ds := by
  rcases h with h | ⟨a, e, ⟨_, _, e2, h, r⟩ | ⟨_, _, e2, _⟩⟩
  · cases h with
    | tup h r => exact ⟨_, _, rfl, h, b _ _ h, r⟩
  · cases e2
  · cases e2
theorem BRep.dct_inv {es : List (Int × D)} (b : Same G H) (h : BRep p G H v (.dct es)) : ∃ a vs, v = .ref a ∧ Rd H a (.dK (dkv es vs)) ∧ Reps p G vs (es.map (·.2)) := by
  rcases h with h | ⟨a, e, ⟨_, _, e2, h, r⟩ | ⟨_, _, e2, h, r⟩⟩
  · cases h with
    | dct h r => exact ⟨_, _, rfl, .inr ⟨_, b _ _ h⟩, r⟩
  · cases e2
  · cases e2; exact ⟨a, _, e, .inl h, r⟩
theorem BRep.scr_inv {ns : List Int} (b : Same G H) (h : BRep p G H v (.scr ns)) : ∃ a, v = .ref a ∧ SqL p.K H a (ns.map V.int) := by
  rcases h with h | ⟨a, e, ⟨_, _, e2, h, r⟩ | ⟨_, _, e2, h, r⟩⟩
  · cases h with
    | scr h => exact ⟨_, rfl, b.seq h⟩
  · cases e2
  · cases e2
theorem BRep.flat (h : BRep p G H v d) (hn : ∀ ds, d ≠ .lst ds) (hd : ∀ es, d ≠ .dct es) : Rep p G v d := by
  rcases h with h | ⟨a, e, ⟨_, _, e2, h, r⟩ | ⟨_, _, e2, h, r⟩⟩
  · exact h
  · exact absurd e2 (hn _)
  · exact absurd e2 (hd _)
theorem ok_add : OpOk p (fun x y H Q => (∃ i j, x = .int i ∧ y = .int j ∧ Q (.int (i + j)) H) ∨ (∃ i j, x = .str i ∧ y = .str j ∧ i.length + j.length ≤ sizeLine ∧ Q (.str (i ++ j)) H) ∨ rCat x y H Q ∨ rCatA p.K x y H Q) addD := by
  intro W σ G H Q x y dx dy b rx ry q
  unfold addD at q
  split at q
  · exact .inl ⟨_, _, rx.int_inv, ry.int_inv, post_ok b q _ (.int _)⟩
  · rename_i s t
    split at q
    · rename_i hl
      refine .inr (.inl ⟨_, _, rx.str_inv, ry.str_inv, ?_, ?_⟩)
      · simpa [Str.length] using lim_line hl
      · have := post_ok b q _ (.str (s ++ t))
        have e : (⟨(s ++ t).toArray⟩ : Str) = (⟨s.toArray⟩ : Str) ++ ⟨t.toArray⟩ := congrArg Str.mk (by simp)
        rwa [e] at this
    · exact q.elim
  · split at q
    · rename_i s t hl
      obtain ⟨a, xs, rfl, ha, r1⟩ := rx.lst_inv b
      obtain ⟨a2, ys, rfl, hb, r2⟩ := ry.lst_inv b
      refine .inr (.inr (.inl ⟨a, a2, xs, ys, rfl, rfl, ha, hb, by rw [r1.length, r2.length]; exact lim_line hl, fun z hz => ?_⟩))
      exact q _ _ (Grow.alloc b hz) _ (.lst upd_same ((r1.append r2).mono (same_upd (free_G b hz))))
    · exact q.elim
  · split at q
    · rename_i s t hl
      obtain ⟨a, xs, rfl, hg, ha, r1⟩ := rx.tup_inv b
      obtain ⟨a2, ys, rfl, hg2, hb, r2⟩ := ry.tup_inv b
      refine .inr (.inr (.inr ⟨a, a2, xs, ys, rfl, rfl, .of ha, .of hb, by rw [r1.length, r2.length]; exact lim_line hl, fun e => ?_, fun _ e => ?_, fun _ _ z hz => ?_⟩))
      · subst e
        cases r1
        exact post_ok b q _ (.tup hg2 r2)
      · subst e
        cases r2
        rw [List.append_nil] at q
        exact post_ok b q _ (.tup hg r1)
      · exact q _ _ (Grow.alloc b hz) _ (.tup upd_same ((r1.append r2).mono (same_upd (free_G b hz))))
    · exact q.elim
  · exact q.elim
theorem ok_addL : OpOkF p rCat addL := by
  intro W σ G H Q x y dx dy b rx ry q
  unfold addL at q
  split at q
  · split at q
    · rename_i s t hl
      obtain ⟨a, xs, rfl, ha, r1⟩ := rx.lst_inv b
      obtain ⟨a2, ys, rfl, hb, r2⟩ := ry.lst_inv b
      refine ⟨a, a2, xs, ys, rfl, rfl, ha, hb, by rw [r1.length, r2.length]; exact lim_line hl, fun z hz => ?_⟩
      exact q _ _ (.refl b) z _ (Grow.allocO b hz) hz (.inl ⟨_, _, rfl, upd_same, r1.append r2⟩)
    · exact q.elim
  · exact q.elim
theorem Reps.rep {xs : List V} {ds : List D} (h : Reps p G xs ds) : ∀ k : Nat, Reps p G (List.replicate k xs).flatten (List.replicate k ds).flatten
  | 0 => .nil
  | k + 1 => by
    rw [List.replicate_succ, List.replicate_succ, List.flatten_cons, List.flatten_cons]
    exact h.append (Reps.rep h k)
theorem ok_repL : OpOkF p rRep repL := by
  intro W σ G H Q x y dx dy b rx ry q
  unfold repL at q
  split at q
  · split at q
    · rename_i s k hl
      obtain ⟨a, xs, rfl, ha, r1⟩ := rx.lst_inv b
      obtain rfl := ry.int_inv
      refine ⟨a, k, xs, rfl, rfl, ha, by omega, by omega, by rw [r1.length]; exact lim_line hl.2, fun z hz => ?_⟩
      exact q _ _ (.refl b) z _ (Grow.allocO b hz) hz (.inl ⟨_, _, rfl, upd_same, r1.rep _⟩)
    · exact q.elim
  · exact q.elim
theorem ok_sub : OpOk p (rI0 fun i j => .int (i - j)) subD := by
  intro W σ G H Q x y dx dy b rx ry q
  unfold subD at q
  split at q
  · exact ⟨_, _, rx.int_inv, ry.int_inv, post_ok b q _ (.int _)⟩
  · exact q.elim
theorem ok_mul : OpOk p (rI CMul fun i j => .int (i * j)) mulD := by
  intro W σ G H Q x y dx dy b rx ry q
  unfold mulD at q
  split at q
  · split at q
    · rename_i h
      refine ⟨_, _, rx.int_inv, ry.int_inv, ?_, post_ok b q _ (.int _)⟩
      rcases Bool.or_eq_true _ _ ▸ h with h | h
      · exact .inl (small64_ok h)
      · exact .inr (small64_ok h)
    · exact q.elim
  · exact q.elim
theorem ok_div : OpOk p (rI CDiv fun i j => .int (i / j)) divD := by
  intro W σ G H Q x y dx dy b rx ry q
  unfold divD at q
  split at q
  · split at q
    · rename_i h
      exact ⟨_, _, rx.int_inv, ry.int_inv, ⟨h.1, by omega⟩, post_ok b q _ (.int _)⟩
    · exact q.elim
  · exact q.elim
theorem ok_mod : OpOk p (rI (fun _ j => 0 < j) fun i j => .int (i % j)) modD := by
  intro W σ G H Q x y dx dy b rx ry q
  unfold modD at q
  split at q
  · split at q
    · rename_i h
      exact ⟨_, _, rx.int_inv, ry.int_inv, h, post_ok b q _ (.int _)⟩
    · exact q.elim
  · exact q.elim
theorem ok_pow : OpOk p (rI CPow fun i j => .int (i ^ j.toNat)) powD := by
  intro W σ G H Q x y dx dy b rx ry q
  unfold powD at q
  split at q
  · split at q
    · rename_i h
      exact ⟨_, _, rx.int_inv, ry.int_inv, ⟨h.1, by omega, h.2.2⟩, post_ok b q _ (.int _)⟩
    · exact q.elim
  · exact q.elim
end
section
variable {X : Cx} {p : Par} {W : WX} {O : List Nat} {pos : Pos} {e e1 e2 e3 : Expr} {es : List Expr} {fa fb fc : Env → Res D} {ft fu : Env → Res Bool} {fs : Env → Res (List D)}
theorem r_add (hK : X.K = p.K) (ha : PE X e1 (rdB p W O fa)) (hb : PE X e2 (rdB p W O fb)) : PE X (.BinOp e1 .Add e2 pos) (rdE p W O (eBin addD fa fb)) := by
  refine r_bin (.or op_add (.or op_add_str (.or op_cat op_catA))) ?_ ha hb
  rw [hK]
  exact ok_add
theorem r_addL (ha : PE X e1 (rdB p W O fa)) (hb : PE X e2 (rdB p W O fb)) : PE X (.BinOp e1 .Add e2 pos) (rdF p W O (eBin addL fa fb)) := r_binF op_cat ok_addL ha hb
theorem r_repL (ha : PE X e1 (rdB p W O fa)) (hb : PE X e2 (rdB p W O fb)) : PE X (.BinOp e1 .Mult e2 pos) (rdF p W O (eBin repL fa fb)) := r_binF op_rep ok_repL ha hb
theorem r_sub (ha : PE X e1 (rdB p W O fa)) (hb : PE X e2 (rdB p W O fb)) : PE X (.BinOp e1 .Sub e2 pos) (rdE p W O (eBin subD fa fb)) := r_bin op_sub ok_sub ha hb
theorem r_mul (ha : PE X e1 (rdB p W O fa)) (hb : PE X e2 (rdB p W O fb)) : PE X (.BinOp e1 .Mult e2 pos) (rdE p W O (eBin mulD fa fb)) := r_bin op_mul ok_mul ha hb
theorem r_div (ha : PE X e1 (rdB p W O fa)) (hb : PE X e2 (rdB p W O fb)) : PE X (.BinOp e1 .FloorDiv e2 pos) (rdE p W O (eBin divD fa fb)) := r_bin op_fdiv ok_div ha hb
theorem r_mod (ha : PE X e1 (rdB p W O fa)) (hb : PE X e2 (rdB p W O fb)) : PE X (.BinOp e1 .Mod e2 pos) (rdE p W O (eBin modD fa fb)) := r_bin op_mod ok_mod ha hb
theorem r_pow (ha : PE X e1 (rdB p W O fa)) (hb : PE X e2 (rdB p W O fb)) : PE X (.BinOp e1 .Pow e2 pos) (rdE p W O (eBin powD fa fb)) := r_bin op_pow ok_pow ha hb
theorem r_neg (ha : PE X e1 (rdB p W O fa)) : PE X (.UnaryOp .USub e1 pos) (rdE p W O (eUn negD fa)) :=
  pe_w (pe_un un_neg ha) fun σ H Q ⟨Z, r, q⟩ => ⟨Z, r, post_imp (post_bind q) fun dx G1 H1 g1 q1 x rx => by
    unfold negD at q1
    split at q1
    · exact ⟨_, rx.int_inv, post_ok g1.below q1 _ (.int _)⟩
    · exact q1.elim⟩
theorem r_tst (h : PE X e (rdE p W O fa)) (he : ∀ whole, isTrue e X.env whole = (do let v ← whole; standAt e.pos; holding [v] (truthy v)) := by intro _; rfl) : PT X e (rdT p W O (tVal fa)) :=
  pt_w (pt_val h he) fun σ H Q ⟨Z, r, q⟩ => ⟨Z, r, post_imp (post_bind q) fun dx G1 H1 g1 q1 x rx => by
    unfold blD at q1
    split at q1
    · cases rx; exact ⟨_, rfl, post_ok g1.below q1⟩
    · exact q1.elim⟩
theorem r_tnot (h : PT X e (rdT p W O ft)) : PT X (.UnaryOp .Not e pos) (rdT p W O (tNot ft)) :=
  pt_w (pt_not h) fun σ H Q ⟨Z, r, q⟩ => ⟨Z, r, post_imp (post_bind q) fun b G1 H1 g1 q1 => post_ok g1.below q1⟩
theorem r_and1 (h : PT X e (rdT p W O ft)) : PW X (.BoolOp .And [e] pos) (rdT p W O ft) := pw_and1 h
theorem r_or1 (h : PT X e (rdT p W O ft)) : PW X (.BoolOp .Or [e] pos) (rdT p W O ft) := pw_or1 h
theorem r_and (h : PT X e (rdT p W O ft)) (hb : PW X (.BoolOp .And (e2 :: es) pos) (rdT p W O fu)) : PW X (.BoolOp .And (e :: e2 :: es) pos) (rdT p W O (tAnd ft fu)) :=
  pw_w (pw_and h hb) fun σ H Q ⟨Z, r, q⟩ => ⟨Z, r, post_imp (post_bind q) fun b G1 H1 g1 q1 => by
    cases b with
    | true =>
      rw [if_pos rfl] at q1 ⊢
      exact ⟨Z.up G1, r.grow g1, q1⟩
    | false =>
      rw [if_neg Bool.false_ne_true] at q1 ⊢
      exact post_ok g1.below q1⟩
theorem r_or (h : PT X e (rdT p W O ft)) (hb : PW X (.BoolOp .Or (e2 :: es) pos) (rdT p W O fu)) : PW X (.BoolOp .Or (e :: e2 :: es) pos) (rdT p W O (tOr ft fu)) :=
  pw_w (pw_or h hb) fun σ H Q ⟨Z, r, q⟩ => ⟨Z, r, post_imp (post_bind q) fun b G1 H1 g1 q1 => by
    cases b with
    | true =>
      rw [if_pos rfl] at q1 ⊢
      exact post_ok g1.below q1
    | false =>
      rw [if_neg Bool.false_ne_true] at q1 ⊢
      exact ⟨Z.up G1, r.grow g1, q1⟩⟩
def notD : D → Res D
  | .bl b => .ok (.bl (!b))
  | _ => .bad
def eAnd (a b : Env → Res D) : Env → Res D := fun ρ => (a ρ).bind fun x => (blD x).bind fun k => if k = true then b ρ else .ok (.bl false)
def eOr (a b : Env → Res D) : Env → Res D := fun ρ => (a ρ).bind fun x => (blD x).bind fun k => if k = true then .ok (.bl true) else b ρ
theorem r_vnot (h : PE X e (rdE p W O fa)) : PE X (.UnaryOp .Not e pos) (rdE p W O (eUn notD fa)) :=
  pe_w (pe_not h) fun σ H Q ⟨Z, r, q⟩ => ⟨Z, r, post_imp (post_bind q) fun dx G1 H1 g1 q1 x rx => by
    unfold notD at q1
    split at q1
    · cases rx; exact ⟨_, rfl, post_ok g1.below q1 _ (.bl _)⟩
    · exact q1.elim⟩
theorem r_vone {op : BoolOp} (h : PE X e (rdE p W O fa)) : PE X (.BoolOp op [e] pos) (rdE p W O fa) := pe_one h
theorem r_vand (h : PE X e (rdE p W O fa)) (hb : PE X (.BoolOp .And (e2 :: es) pos) (rdE p W O fb)) : PE X (.BoolOp .And (e :: e2 :: es) pos) (rdE p W O (eAnd fa fb)) :=
  pe_w (pe_and h hb) fun σ H Q ⟨Z, r, q⟩ => ⟨Z, r, post_imp (post_bind q) fun dx G1 H1 g1 q1 x rx => by
    cases dx with
    | bl b =>
      cases rx
      refine ⟨b, rfl, ?_⟩
      cases b with
      | true => exact iteT ⟨Z.up G1, r.grow g1, q1⟩
      | false => exact iteF (post_ok g1.below q1 _ (.bl false))
    | _ => exact q1.elim⟩
theorem r_vor (h : PE X e (rdE p W O fa)) (hb : PE X (.BoolOp .Or (e2 :: es) pos) (rdE p W O fb)) : PE X (.BoolOp .Or (e :: e2 :: es) pos) (rdE p W O (eOr fa fb)) :=
  pe_w (pe_or h hb) fun σ H Q ⟨Z, r, q⟩ => ⟨Z, r, post_imp (post_bind q) fun dx G1 H1 g1 q1 x rx => by
    cases dx with
    | bl b =>
      cases rx
      refine ⟨b, rfl, ?_⟩
      cases b with
      | true => exact iteT (post_ok g1.below q1 _ (.bl true))
      | false => exact iteF ⟨Z.up G1, r.grow g1, q1⟩
    | _ => exact q1.elim⟩
theorem r_if {c a b : Expr} (hc : PT X c (rdT p W O ft)) (ha : PE X a (rdE p W O fa)) (hb : PE X b (rdE p W O fb)) : PE X (.IfExp c a b pos) (rdE p W O (eIf ft fa fb)) :=
  pe_w (pe_ifExp hc ha hb) fun σ H Q ⟨Z, r, q⟩ => ⟨Z, r, post_imp (post_bind q) fun b G1 H1 g1 q1 => by
    cases b with
    | true =>
      rw [if_pos rfl] at q1 ⊢
      exact ⟨Z.up G1, r.grow g1, q1⟩
    | false =>
      rw [if_neg Bool.false_ne_true] at q1 ⊢
      exact ⟨Z.up G1, r.grow g1, q1⟩⟩
theorem rd_twoB {σ : L2.St} {H : Hp} {f : D → D → Res Bool} {C : Bool → Hp → Hp → Prop} {R : V → V → Hp → Prop} {Z : Gh} (r : Rel p O Z σ H) (q : post p W σ Z.G H ((fa Z.ρ).bind fun x => (fb Z.ρ).bind fun y => f x y) C)
    (h : ∀ x y dx dy G' H', Same G' H' → BRep p G' H' x dx → BRep p G' H' y dy → post p W σ G' H' (f dx dy) C → R x y H') : rdB p W O fa σ H fun x H1 => rdB p W O fb σ H1 fun y H2 => R x y H2 := by
  refine ⟨Z, r, post_imp (post_bind q) fun dx G1 H1 g1 q1 x rx => ⟨Z.up G1, r.grow g1, post_imp (post_bind q1) fun dy G2 H2 g2 q2 y ry => ?_⟩⟩
  exact h x y dx dy G2 H2 g2.below (rx.grow g2) ry q2
theorem r_cmpT {op : CmpOp} {r : R2} {f : D → D → Res Bool} (ho : OpR X (compareOp op) r) (hf : OpOkB p r f) (ha : PE X e1 (rdB p W O fa)) (hb : PE X e2 (rdB p W O fb)) (hm : behindInMarks op e2 = false) :
    PT X (.Compare e1 [op] [e2] pos) (rdT p W O (tCmp f fa fb)) :=
  pt_w (pt_cmpR ho ha hb hm) fun σ H Q ⟨Z, r, q⟩ => rd_twoB r q fun x y dx dy G' H' s rx ry q2 => hf W σ G' H' _ x y dx dy s rx ry (post_imp q2 fun b G2 H2 g2 q3 => ⟨b, rfl, q3⟩)
theorem r_cmpV {op : CmpOp} {r : R2} {f : D → D → Res Bool} (ho : OpR X (compareOp op) r) (hf : OpOkB p r f) (ha : PE X e1 (rdB p W O fa)) (hb : PE X e2 (rdB p W O fb)) (hm : behindInMarks op e2 = false) :
    PE X (.Compare e1 [op] [e2] pos) (rdE p W O (eTst (tCmp f fa fb))) :=
  pe_w (pe_cmpR ho ha hb hm) fun σ H Q ⟨Z, r, q⟩ => by
    have q' : post p W σ Z.G H ((fa Z.ρ).bind fun x => (fb Z.ρ).bind fun y => f x y) (fun b G' H' => Q (.bl b) H') :=
      post_imp (post_bind (r := tCmp f fa fb Z.ρ) q) fun b G1 H1 g1 q1 => post_ok g1.below q1 _ (.bl b)
    exact rd_twoB r q' fun x y dx dy G' H' s rx ry q2 => hf W σ G' H' _ x y dx dy s rx ry q2
theorem rd_chn {σ : L2.St} {H : Hp} {f g : D → D → Res Bool} {r r' : R2} {Q : VK} {Z : Gh} (hf : OpOkB p r f) (hg : OpOkB p r' g) (rr : Rel p O Z σ H) (q : post p W σ Z.G H (tChn f g fa fb fc Z.ρ) (fun b _ H' => Q (.bl b) H')) :
    tChain r r' (rdB p W O fa) (rdB p W O fb) (rdB p W O fc) σ H Q := by
  refine ⟨Z, rr, post_imp (post_bind q) fun dx G1 H1 g1 q1 x rx => ⟨Z.up G1, rr.grow g1, post_imp (post_bind q1) fun dy G2 H2 g2 q2 y ry => ?_⟩⟩
  refine hf W σ G2 H2 _ x y dx dy g2.below (rx.grow g2) ry (post_imp (post_bind q2) fun k G3 H3 g3 q3 => ⟨k, rfl, ?_⟩)
  cases k with
  | true =>
    rw [if_pos rfl] at q3 ⊢
    refine ⟨(Z.up G2).up G3, ((rr.grow g1).grow g2).grow g3, post_imp (post_bind q3) fun dz G4 H4 g4 q4 z rz => ?_⟩
    exact hg W σ G4 H4 _ y z dy dz g4.below ((ry.grow g3).grow g4) rz q4
  | false =>
    rw [if_neg Bool.false_ne_true] at q3 ⊢
    exact post_ok g3.below q3
theorem r_chnT {op op' : CmpOp} {r r' : R2} {f g : D → D → Res Bool} (ho : OpR X (compareOp op) r) (ho' : OpR X (compareOp op') r') (hf : OpOkB p r f) (hg : OpOkB p r' g) (ha : PE X e1 (rdB p W O fa)) (hb : PE X e2 (rdB p W O fb)) (hc : PE X e3 (rdB p W O fc))
    (hm : lastMarks [op, op'] [e2, e3] = false := by with_unfolding_all rfl) : PT X (.Compare e1 [op, op'] [e2, e3] pos) (rdT p W O (tChn f g fa fb fc)) :=
  pt_w (pt_chain ho ho' ha hb hc hm) fun σ H Q ⟨Z, r, q⟩ => rd_chn hf hg r (Q := fun x H' => ∃ k, x = .bl k ∧ Q k H') (post_imp q fun b G' H' g q => ⟨b, rfl, q⟩)
theorem r_chnV {op op' : CmpOp} {r r' : R2} {f g : D → D → Res Bool} (ho : OpR X (compareOp op) r) (ho' : OpR X (compareOp op') r') (hf : OpOkB p r f) (hg : OpOkB p r' g) (ha : PE X e1 (rdB p W O fa)) (hb : PE X e2 (rdB p W O fb)) (hc : PE X e3 (rdB p W O fc))
    (hm : lastMarks [op, op'] [e2, e3] = false := by with_unfolding_all rfl) : PE X (.Compare e1 [op, op'] [e2, e3] pos) (rdE p W O (eTst (tChn f g fa fb fc))) :=
  pe_w (pe_chain ho ho' ha hb hc hm) fun σ H Q ⟨Z, r, q⟩ => rd_chn hf hg r (post_imp (post_bind (r := tChn f g fa fb fc Z.ρ) q) fun b G1 H1 g1 q1 => post_ok g1.below q1 _ (.bl b))
end
def ltD : D → D → Res Bool
  | .int i, .int j => .ok (decide (i < j))
  | _, _ => .bad
def leD : D → D → Res Bool
  | .int i, .int j => .ok (decide (i ≤ j))
  | _, _ => .bad
def gtD : D → D → Res Bool
  | .int i, .int j => .ok (decide (j < i))
  | .str s, .str t => .ok (decide (t < s))
  | _, _ => .bad
def geD : D → D → Res Bool
  | .int i, .int j => .ok (decide (j ≤ i))
  | _, _ => .bad
theorem ok_lt {p : Par} : OpOkB p (rI0 fun i j => .bl (decide (i < j))) ltD := by
  intro W σ G H Q x y dx dy b rx ry q
  unfold ltD at q
  split at q
  · exact ⟨_, _, rx.int_inv, ry.int_inv, post_ok b q⟩
  · exact q.elim
theorem ok_le {p : Par} : OpOkB p (rI0 fun i j => .bl (decide (i ≤ j))) leD := by
  intro W σ G H Q x y dx dy b rx ry q
  unfold leD at q
  split at q
  · exact ⟨_, _, rx.int_inv, ry.int_inv, post_ok b q⟩
  · exact q.elim
theorem ok_ge {p : Par} : OpOkB p (rI0 fun i j => .bl (decide (j ≤ i))) geD := by
  intro W σ G H Q x y dx dy b rx ry q
  unfold geD at q
  split at q
  · exact ⟨_, _, rx.int_inv, ry.int_inv, post_ok b q⟩
  · exact q.elim
end PL
set_option Elab.async false
set_option linter.all false
set_option maxRecDepth 100000
set_option maxHeartbeats 2000000
namespace PL
open PySem PySem.Spec PyProof.Rows L2
mutual
def toPD : D → PyData
  | .non => .none
  | .bl b => .bool b
  | .int i => .int i
  | .str s => .str ⟨s.toArray⟩
  | .tup ds => .tuple (toPDs ds)
  | .lst ds => .list (toPDs ds)
  | .dct _ => .none
  | .scr _ => .none
  | .ins _ _ => .none
def toPDs : List D → List PyData
  | [] => []
  | d :: ds => toPD d :: toPDs ds
end
mutual
def okD : D → Bool
  | .non => true
  | .bl _ => true
  | .int _ => true
  | .str s => s.all (· < 0x110000)
  | .tup ds => okDs ds
  | .lst ds => okDs ds
  | .dct _ => false
  | .scr _ => false
  | .ins _ _ => false
def okDs : List D → Bool
  | [] => true
  | d :: ds => okD d && okDs ds
end
mutual
def dep : D → Nat
  | .tup ds => depA ds + 1
  | .lst ds => depA ds + 1
  | .non => 0
  | .bl _ => 0
  | .int _ => 0
  | .str _ => 0
  | .dct _ => 0
  | .scr _ => 0
  | .ins _ _ => 0
def depA : List D → Nat
  | [] => 0
  | d :: ds => max (dep d) (depA ds)
end
mutual
def eqv : D → D → Bool
  | .non, .non => true
  | .bl a, .bl b => a == b
  | .bl a, .int j => (if a then 1 else 0) == j
  | .int i, .bl b => i == (if b then 1 else 0)
  | .int i, .int j => i == j
  | .str x, .str y => x == y
  | .lst xs, .lst ys => eqvA xs ys
  | .tup xs, .tup ys => eqvA xs ys
  | _, _ => false
def eqvA : List D → List D → Bool
  | [], [] => true
  | x :: xs, y :: ys => eqv x y && eqvA xs ys
  | _, _ => false
end
def shp (d : D) : Bool := okD d && decide (dep d ≤ 64)
mutual
theorem canLay_ok : ∀ d : D, okD d = true → (toPD d).canLay0 = true
  | .non, _ => rfl
  | .bl _, _ => rfl
  | .int _, _ => rfl
  | .str s, h => by
    have h' : s.all (· < 0x110000) = true := h
    show PyData.strOk ⟨s.toArray⟩ = true
    simpa [PyData.strOk] using h'
  | .tup ds, h => canLays_ok ds h
  | .lst ds, h => canLays_ok ds h
  | .dct _, h => by cases h
  | .scr _, h => by cases h
  | .ins _ _, h => by cases h
theorem canLays_ok : ∀ ds : List D, okDs ds = true → PyData.canLayAll0 (toPDs ds) = true
  | [], _ => rfl
  | d :: ds, h => by
    have h' : (okD d && okDs ds) = true := h
    rw [Bool.and_eq_true] at h'
    show ((toPD d).canLay0 && PyData.canLayAll0 (toPDs ds)) = true
    rw [canLay_ok d h'.1, canLays_ok ds h'.2]
    rfl
end
mutual
theorem dep_ok : ∀ d : D, okD d = true → (toPD d).depth = dep d
  | .non, _ => rfl
  | .bl _, _ => rfl
  | .int _, _ => rfl
  | .str s, h => rfl
  | .tup ds, h => congrArg (· + 1) (depA_ok ds h)
  | .lst ds, h => congrArg (· + 1) (depA_ok ds h)
  | .dct _, h => by cases h
  | .scr _, h => by cases h
  | .ins _ _, h => by cases h
theorem depA_ok : ∀ ds : List D, okDs ds = true → PyData.depthAll (toPDs ds) = depA ds
  | [], _ => rfl
  | d :: ds, h => by
    have h' : (okD d && okDs ds) = true := h
    rw [Bool.and_eq_true] at h'
    show max (toPD d).depth (PyData.depthAll (toPDs ds)) = max (dep d) (depA ds)
    rw [dep_ok d h'.1, depA_ok ds h'.2]
end
theorem shp_ok {d : D} (h : shp d = true) : SeqAt.shaped (toPD d) = true := by
  unfold shp at h
  rw [Bool.and_eq_true, decide_eq_true_eq] at h
  unfold SeqAt.shaped
  rw [canLay_ok d h.1, dep_ok d h.1, decide_eq_true h.2]
  rfl
theorem str_beq (x y : List Nat) : ((⟨x.toArray⟩ : Str) == ⟨y.toArray⟩) = (x == y) := by
  rw [Bool.eq_iff_iff]
  simp
mutual
theorem eqv_ok : ∀ d e : D, okD d = true → okD e = true → PyData.eqv (toPD d) (toPD e) = eqv d e := by
  intro d e hd he
  match d, e with
  | .non, .non => rfl
  | .bl a, .bl b => rfl
  | .bl a, .int j => rfl
  | .int i, .bl b => rfl
  | .int i, .int j => rfl
  | .str x, .str y => exact str_beq x y
  | .lst xs, .lst ys => exact eqvA_ok xs ys hd he
  | .tup xs, .tup ys => exact eqvA_ok xs ys hd he
  | .dct _, _ => cases hd
  | .scr _, _ => cases hd
  | .ins _ _, _ => cases hd
  | .non, .dct _ => cases he
  | .non, .scr _ => cases he
  | .non, .ins _ _ => cases he
  | .bl _, .dct _ => cases he
  | .bl _, .scr _ => cases he
  | .bl _, .ins _ _ => cases he
  | .int _, .dct _ => cases he
  | .int _, .scr _ => cases he
  | .int _, .ins _ _ => cases he
  | .str _, .dct _ => cases he
  | .str _, .scr _ => cases he
  | .str _, .ins _ _ => cases he
  | .lst _, .dct _ => cases he
  | .lst _, .scr _ => cases he
  | .lst _, .ins _ _ => cases he
  | .tup _, .dct _ => cases he
  | .tup _, .scr _ => cases he
  | .tup _, .ins _ _ => cases he
  | .non, .bl _ => rfl
  | .non, .int _ => rfl
  | .non, .str _ => rfl
  | .non, .lst _ => rfl
  | .non, .tup _ => rfl
  | .bl _, .non => rfl
  | .bl _, .str _ => rfl
  | .bl _, .lst _ => rfl
  | .bl _, .tup _ => rfl
  | .int _, .non => rfl
  | .int _, .str _ => rfl
  | .int _, .lst _ => rfl
  | .int _, .tup _ => rfl
  | .str _, .non => rfl
  | .str _, .bl _ => rfl
  | .str _, .int _ => rfl
  | .str _, .lst _ => rfl
  | .str _, .tup _ => rfl
  | .lst _, .non => rfl
  | .lst _, .bl _ => rfl
  | .lst _, .int _ => rfl
  | .lst _, .str _ => rfl
  | .lst _, .tup _ => rfl
  | .tup _, .non => rfl
  | .tup _, .bl _ => rfl
  | .tup _, .int _ => rfl
  | .tup _, .str _ => rfl
  | .tup _, .lst _ => rfl
theorem eqvA_ok : ∀ ds es : List D, okDs ds = true → okDs es = true → PyData.eqvAll (toPDs ds) (toPDs es) = eqvA ds es
  | [], [], _, _ => rfl
  | x :: xs, y :: ys, hd, he => by
    have hd' : (okD x && okDs xs) = true := hd
    have he' : (okD y && okDs ys) = true := he
    rw [Bool.and_eq_true] at hd' he'
    show (PyData.eqv (toPD x) (toPD y) && PyData.eqvAll (toPDs xs) (toPDs ys)) = (eqv x y && eqvA xs ys)
    rw [eqv_ok x y hd'.1 he'.1, eqvA_ok xs ys hd'.2 he'.2]
  | [], _ :: _, _, _ => rfl
  | _ :: _, [], _, _ => rfl
end
section
variable {p : Par} {G H : Hp}
mutual
theorem dp_of (b : Same G H) : ∀ (d : D) (v : V), okD d = true → Rep p G v d → Dp p.K H v (toPD d)
  | .non, _, _, r => by cases r; exact .non
  | .bl _, _, _, r => by cases r; exact .bl _
  | .int _, _, _, r => by cases r; exact .int _
  | .str _, _, _, r => by cases r; exact .str _
  | .tup ds, _, h, r => by
    cases r with
    | tup g rs => exact .tup (.of (b _ _ g)) (dps_of b ds _ h rs)
  | .lst ds, _, h, r => by
    cases r with
    | lst g rs => exact .lst (.of (b _ _ g)) (dps_of b ds _ h rs)
  | .dct _, _, h, _ => by cases h
  | .scr _, _, h, _ => by cases h
  | .ins _ _, _, h, _ => by cases h
theorem dps_of (b : Same G H) : ∀ (ds : List D) (vs : List V), okDs ds = true → Reps p G vs ds → DpAll p.K H vs (toPDs ds)
  | [], _, _, r => by cases r; exact .nil
  | d :: ds, _, h, r => by
    have h' : (okD d && okDs ds) = true := h
    rw [Bool.and_eq_true] at h'
    cases r with
    | cons r1 r2 => exact .cons (dp_of b d _ h'.1 r1) (dps_of b ds _ h'.2 r2)
end
theorem dp_brep {d : D} {v : V} (b : Same G H) (h : okD d = true) (r : BRep p G H v d) : Dp p.K H v (toPD d) := by
  cases d with
  | lst ds =>
    obtain ⟨a, xs, rfl, ha, rs⟩ := r.lst_inv b
    exact .lst (.of ha) (dps_of b ds _ h rs)
  | dct es => cases h
  | _ => exact dp_of b _ _ h (r.flat (fun _ z => nomatch z) (fun _ z => nomatch z))
def eqD (x y : D) : Res Bool := if shp x = true ∧ shp y = true then .ok (eqv x y) else .bad
def neD (x y : D) : Res Bool := if shp x = true ∧ shp y = true then .ok (!eqv x y) else .bad
theorem shp_okD {d : D} (h : shp d = true) : okD d = true := by
  unfold shp at h
  rw [Bool.and_eq_true] at h
  exact h.1
theorem ok_eq : OpOkB p (rEqD p.K) eqD := by
  intro W σ G H Q x y dx dy b rx ry q
  unfold eqD at q
  split at q
  · rename_i h
    refine ⟨_, _, dp_brep b (shp_okD h.1) rx, dp_brep b (shp_okD h.2) ry, shp_ok h.1, shp_ok h.2, ?_⟩
    rw [eqv_ok _ _ (shp_okD h.1) (shp_okD h.2)]
    exact post_ok b q
  · exact q.elim
theorem ok_ne : OpOkB p (rNeD p.K) neD := by
  intro W σ G H Q x y dx dy b rx ry q
  unfold neD at q
  split at q
  · rename_i h
    refine ⟨_, _, dp_brep b (shp_okD h.1) rx, dp_brep b (shp_okD h.2) ry, shp_ok h.1, shp_ok h.2, ?_⟩
    rw [eqv_ok _ _ (shp_okD h.1) (shp_okD h.2)]
    exact post_ok b q
  · exact q.elim
end
def isND : D → D → Res Bool
  | .non, .non => .ok true
  | _, .non => .ok false
  | _, _ => .bad
def isNotND : D → D → Res Bool
  | .non, .non => .ok false
  | _, .non => .ok true
  | _, _ => .bad
def isBD : D → D → Res Bool
  | .bl a, .bl b => .ok (decide (a = b))
  | _, _ => .bad
def isNotBD : D → D → Res Bool
  | .bl a, .bl b => .ok (!decide (a = b))
  | _, _ => .bad
theorem not_non {p : Par} {G H : Hp} {v : V} {d : D} (h : BRep p G H v d) (hd : d ≠ .non) : v ≠ .non := by
  rintro rfl
  rcases h with h | ⟨a, e, _⟩
  · cases h; exact hd rfl
  · cases e
theorem ok_isN {p : Par} : OpOkB p (fun x y H Q => y = .non ∧ Q (.bl (decide (x = .non))) H) isND := by
  intro W σ G H Q x y dx dy b rx ry q
  unfold isND at q
  split at q
  · obtain rfl := rx.non_inv
    obtain rfl := ry.non_inv
    exact ⟨rfl, post_ok b q⟩
  · rename_i hd
    obtain rfl := ry.non_inv
    have e : decide (x = V.non) = false := decide_eq_false (not_non rx fun e => hd e)
    exact ⟨rfl, by rw [e]; exact post_ok b q⟩
  · exact q.elim
theorem ok_isNotN {p : Par} : OpOkB p (fun x y H Q => y = .non ∧ Q (.bl (!decide (x = .non))) H) isNotND := by
  intro W σ G H Q x y dx dy b rx ry q
  unfold isNotND at q
  split at q
  · obtain rfl := rx.non_inv
    obtain rfl := ry.non_inv
    exact ⟨rfl, post_ok b q⟩
  · rename_i hd
    obtain rfl := ry.non_inv
    have e : decide (x = V.non) = false := decide_eq_false (not_non rx fun e => hd e)
    exact ⟨rfl, by rw [e]; exact post_ok b q⟩
  · exact q.elim
theorem ok_isB {p : Par} : OpOkB p rIsB isBD := by
  intro W σ G H Q x y dx dy b rx ry q
  unfold isBD at q
  split at q
  · exact ⟨_, _, rx.bl_inv, ry.bl_inv, post_ok b q⟩
  · exact q.elim
theorem ok_isNotB {p : Par} : OpOkB p rNotB isNotBD := by
  intro W σ G H Q x y dx dy b rx ry q
  unfold isNotBD at q
  split at q
  · exact ⟨_, _, rx.bl_inv, ry.bl_inv, post_ok b q⟩
  · exact q.elim
theorem ok_gt {p : Par} : OpOkB p (fun x y H Q => rI0 (fun i j => .bl (decide (j < i))) x y H Q ∨ ∃ i j, x = .str i ∧ y = .str j ∧ Q (.bl (decide (j.cps.toList < i.cps.toList))) H) gtD := by
  intro W σ G H Q x y dx dy b rx ry q
  unfold gtD at q
  split at q
  · exact .inl ⟨_, _, rx.int_inv, ry.int_inv, post_ok b q⟩
  · exact .inr ⟨_, _, rx.str_inv, ry.str_inv, post_ok b q⟩
  · exact q.elim
def flt : D → Bool
  | .non => true
  | .bl _ => true
  | .int _ => true
  | .str _ => true
  | _ => false
def inD : D → D → Res Bool
  | x, .lst ds => if flt x = true ∧ ds.all flt = true then .ok (ds.any fun y => eqv y x) else .bad
  | x, .tup ds => if flt x = true ∧ ds.all flt = true then .ok (ds.any fun y => eqv y x) else .bad
  | .str [c], .str z => .ok (z.contains c)
  | .int k, .dct es => .ok (es.any fun e => e.1 == k)
  | _, _ => .bad
def notInD (x y : D) : Res Bool := (inD x y).bind fun b => .ok (!b)
section
variable {p : Par} {G H : Hp}
theorem flt_V {v : V} {d : D} (r : Rep p G v d) (h : flt d = true) : flatV v = true := by
  cases r <;> first | rfl | cases h
theorem flt_eq {v w : V} {d e : D} (r : Rep p G v d) (s : Rep p G w e) (h : flt d = true) (h' : flt e = true) : eqV v w = eqv d e := by
  cases r <;> first | (cases h; done) | (cases s <;> first | (cases h'; done) | rfl | exact str_beq _ _)
theorem flt_all : ∀ {vs : List V} {ds : List D}, Reps p G vs ds → ds.all flt = true → vs.all flatV = true
  | _, _, .nil, _ => rfl
  | _, _, .cons r t, h => by
    rw [List.all_cons, Bool.and_eq_true] at h ⊢
    exact ⟨flt_V r h.1, flt_all t h.2⟩
theorem flt_any {x : V} {dx : D} (rx : Rep p G x dx) (hx : flt dx = true) : ∀ {vs : List V} {ds : List D}, Reps p G vs ds → ds.all flt = true → inV x vs = ds.any fun y => eqv y dx
  | _, _, .nil, _ => rfl
  | _, _, .cons r t, h => by
    rw [List.all_cons, Bool.and_eq_true] at h
    have ih := flt_any rx hx t h.2
    unfold inV at ih ⊢
    rw [List.any_cons, List.any_cons, ih, flt_eq r rx h.1 hx]
theorem valV_any : ∀ (es : List (Int × D)) (vs : List V) (k : Int), vs.length = es.length → (valV (dkv es vs) (Sum.inl k)).isSome = es.any fun e => e.1 == k
  | [], [], _, _ => rfl
  | (i, d) :: es, v :: vs, k, h => by
    have ih := valV_any es vs k (by simpa using h)
    show (valV ((Sum.inl i, v) :: dkv es vs) (Sum.inl k)).isSome = ((i == k) || es.any fun e => e.1 == k)
    by_cases e : i = k
    · subst e
      rw [valV_pos rfl]
      simp
    · rw [valV_neg (fun z => e (Sum.inl.inj z)), ih]
      simp [e]
  | [], _ :: _, _, h => by simp at h
  | _ :: _, [], _, h => by simp at h
def rInAll (K : PySem.W.Frag) (neg : Bool) : R2 := fun x y H Q => rIn K neg x y H Q ∨ (∃ (c : Nat) (z : Str), x = .str ⟨#[c]⟩ ∧ y = .str z ∧ Q (.bl (if neg then !decide (c ∈ z.cps.toList) else decide (c ∈ z.cps.toList))) H) ∨ ∃ a o, y = .ref a ∧ DGet H a x o ∧ Q (.bl (if neg then !o.isSome else o.isSome)) H
theorem ok_in' (neg : Bool) : OpOkB p (rInAll p.K neg) (fun x y => (inD x y).bind fun b => .ok (if neg then !b else b)) := by
  intro W σ G H Q x y dx dy b rx ry q
  replace q := post_bind q
  unfold inD at q
  have flatx : flt dx = true → Rep p G x dx := fun h => rx.flat (fun ds z => by rw [z] at h; cases h) (fun ds z => by rw [z] at h; cases h)
  split at q
  · split at q
    · rename_i ds h
      obtain ⟨a, xs, rfl, ha, rs⟩ := ry.lst_inv b
      refine .inl ⟨a, xs, rfl, .inl (.of ha), flt_V (flatx h.1) h.1, flt_all rs h.2, ?_⟩
      rw [flt_any (flatx h.1) h.1 rs h.2]
      exact post_ok b (post_ok b q)
    · exact q.elim
  · split at q
    · rename_i ds h
      obtain ⟨a, xs, rfl, hg, ha, rs⟩ := ry.tup_inv b
      refine .inl ⟨a, xs, rfl, .inr (.of ha), flt_V (flatx h.1) h.1, flt_all rs h.2, ?_⟩
      rw [flt_any (flatx h.1) h.1 rs h.2]
      exact post_ok b (post_ok b q)
    · exact q.elim
  · rename_i c z
    refine .inr (.inl ⟨c, ⟨z.toArray⟩, rx.str_inv, ry.str_inv, ?_⟩)
    have e : decide (c ∈ (⟨z.toArray⟩ : Str).cps.toList) = z.contains c := by
      rw [Bool.eq_iff_iff]; simp
    rw [e]
    exact post_ok b (post_ok b q)
  · rename_i k es
    obtain ⟨a, vs, rfl, hr, rs⟩ := ry.dct_inv b
    obtain rfl := rx.int_inv
    refine .inr (.inr ⟨a, _, rfl, .inl ⟨_, Sum.inl k, hr, rfl, rfl⟩, ?_⟩)
    rw [valV_any es vs k (by rw [rs.length, List.length_map])]
    exact post_ok b (post_ok b q)
  · exact q.elim
end
section
variable {X : Cx}
theorem op_inAll (hu : X.A.units + 1 < cLine) : OpR X (compareOp .In) (rInAll X.K false) := by
  refine .or op_in_seq (.or ?_ ?_)
  · intro pins s σ H x y v u Q I rx ry ⟨c, z, e1, e2, q⟩
    exact op_in_sign pins s σ H x y v u Q I rx ry ⟨c, z, e1, e2, q⟩
  · intro pins s σ H x y v u Q I rx ry ⟨a, o, e1, g, q⟩
    subst e1
    cases ry
    exact d_in hu I g rx fun s' I' => ⟨.bl _, H, I', rfl, q⟩
theorem op_notInAll (hu : X.A.units + 1 < cLine) : OpR X (compareOp .NotIn) (rInAll X.K true) := by
  refine .or op_notIn_seq (.or ?_ ?_)
  · intro pins s σ H x y v u Q I rx ry ⟨c, z, e1, e2, q⟩
    exact op_notIn_sign pins s σ H x y v u Q I rx ry ⟨c, z, e1, e2, q⟩
  · intro pins s σ H x y v u Q I rx ry ⟨a, o, e1, g, q⟩
    subst e1
    cases ry
    exact d_notIn hu I g rx fun s' I' => ⟨.bl _, H, I', rfl, q⟩
end
def ixD (n : Nat) (i : Int) : Option Nat := ixN n i
def getD' (ds : List D) (i : Int) : Res D := match ixN ds.length i with
  | some j => (match ds[j]? with | some d => .ok d | none => .bad)
  | none => .bad
def look (es : List (Int × D)) (k : Int) : Option D := (es.find? fun e => e.1 == k).map (·.2)
def idxD : D → D → Res D
  | .lst ds, .int i => getD' ds i
  | .tup ds, .int i => getD' ds i
  | .scr ns, .int i => (match ixN ns.length i with
      | some j => (match ns[j]? with | some n => .ok (.int n) | none => .bad)
      | none => .bad)
  | .str s, .int i => if s.length ≤ LIM then (match ixN s.length i with
      | some j => (match s[j]? with | some c => .ok (.str [c]) | none => .bad)
      | none => .bad) else .bad
  | .dct es, .int k => (match look es k with
      | some d => .ok d
      | none => .bad)
  | _, _ => .bad
section
variable {X : Cx}
def rIxD : R2 := fun x y H Q => ∃ a v, x = .ref a ∧ DGet H a y (some v) ∧ Q v H
theorem ix_dict (hu : X.A.units + 1 < cLine) : IxR X rIxD := by
  intro value slice pins s σ H x y v u Q I rx ry h hs
  obtain ⟨a, w, rfl, g, q⟩ := h
  cases rx
  have hT := dict_typeIs I g
  unfold subscriptTail
  refine wpAny_bind ?_
  rw [getitemInPython_of_ne hT.not_modules]
  refine wpAny_bind (wpAny_specialOf hT PySem.F.slot_dict_getitem.lookup ?_)
  have fin : wpAny (model X.prog X.w) X.A (subscripted slice false (.ref a) u) (fun r s₃ => wpAny (model X.prog X.w) X.A (letTemporaryGo value (.ref a) r >>= fun _ => pure r) (EP X pins σ Q) X.xe s₃) X.xe s := by
    rw [hs]
    exact wpAny_operating (d_getItem hu I g ry fun w' s' I' rw' => wpAny_bind (wpAny_letTemporaryGo (wpAny_pure ⟨w, H, I', rw', q⟩)))
  first
    | exact wpAny_pure (wpAny_bind fin)
    | exact wpAny_bind (wpAny_pure (wpAny_bind fin))
    | exact wpAny_bind fin
end
section
variable {p : Par} {G H : Hp}
theorem valV_look : ∀ (es : List (Int × D)) (vs : List V) (k : Int), Reps p G vs (es.map (·.2)) → (∀ d, look es k = some d → ∃ v, valV (dkv es vs) (Sum.inl k) = some v ∧ Rep p G v d) ∧ (look es k = none → valV (dkv es vs) (Sum.inl k) = none)
  | [], _, _, .nil => ⟨fun d h => by simp [look] at h, fun _ => rfl⟩
  | (i, d) :: es, v :: vs, k, .cons r t => by
    have ih := valV_look es vs k t
    show (∀ d', look ((i, d) :: es) k = some d' → ∃ v', valV ((Sum.inl i, v) :: dkv es vs) (Sum.inl k) = some v' ∧ Rep p G v' d') ∧ (look ((i, d) :: es) k = none → valV ((Sum.inl i, v) :: dkv es vs) (Sum.inl k) = none)
    by_cases e : i = k
    · subst e
      rw [valV_pos rfl]
      simp [look]
      exact r
    · rw [valV_neg (fun z => e (Sum.inl.inj z))]
      have e2 : look ((i, d) :: es) k = look es k := by simp [look, e]
      rw [e2]
      exact ih
theorem at_get {vs : List V} {ds : List D} (rs : Reps p G vs ds) {i : Int} {d : D} (h : getD' ds i = .ok d) : ∃ v, atI vs i = some v ∧ Rep p G v d := by
  unfold getD' at h
  split at h
  · rename_i j hj
    split at h
    · rename_i d' hd
      cases h
      obtain ⟨v, h1, h2⟩ := rs.get hd
      refine ⟨v, ?_, h2⟩
      unfold atI
      rw [rs.length, hj]
      exact h1
    · cases h
  · cases h
theorem getD'_noexc {ds : List D} {i : Int} {c : Nat} : getD' ds i ≠ .exc c := by
  unfold getD'
  intro h
  split at h
  · split at h <;> cases h
  · cases h
theorem ok_idx : OpOk p (fun x y H Q => (rIxL p.K x y H Q ∨ rIxT p.K x y H Q ∨ rIxS x y H Q) ∨ rIxD x y H Q) idxD := by
  intro W σ G H Q x y dx dy b rx ry q
  unfold idxD at q
  split at q
  · rename_i ds i
    obtain ⟨a, xs, rfl, ha, rs⟩ := rx.lst_inv b
    obtain rfl := ry.int_inv
    revert q
    cases hg : getD' ds i with
    | ok d =>
      intro q
      obtain ⟨v, h1, h2⟩ := at_get rs hg
      exact .inl (.inl ⟨a, xs, i, v, rfl, rfl, .of ha, h1, post_ok b q _ h2⟩)
    | exc c => exact absurd hg getD'_noexc
    | bad => exact fun q => q.elim
  · rename_i ds i
    obtain ⟨a, xs, rfl, hg, ha, rs⟩ := rx.tup_inv b
    obtain rfl := ry.int_inv
    revert q
    cases hg : getD' ds i with
    | ok d =>
      intro q
      obtain ⟨v, h1, h2⟩ := at_get rs hg
      exact .inl (.inr (.inl ⟨a, xs, i, v, rfl, rfl, .of ha, h1, post_ok b q _ h2⟩))
    | exc c => exact absurd hg getD'_noexc
    | bad => exact fun q => q.elim
  · rename_i ns i
    obtain ⟨a, rfl, ha⟩ := rx.scr_inv b
    obtain rfl := ry.int_inv
    split at q
    · rename_i j hj
      split at q
      · rename_i n hn
        refine .inl (.inl ⟨a, _, i, .int n, rfl, rfl, ha, ?_, post_ok b q _ (.int n)⟩)
        unfold atI
        rw [List.length_map, hj]
        show (ns.map V.int)[j]? = _
        rw [List.getElem?_map, hn]
        rfl
      · exact q.elim
    · exact q.elim
  · rename_i s i
    obtain rfl := rx.str_inv
    obtain rfl := ry.int_inv
    split at q
    · rename_i hl
      split at q
      · rename_i j hj
        split at q
        · rename_i c hc
          refine .inl (.inr (.inr ⟨_, i, c, rfl, rfl, ?_, ?_, ?_⟩))
          · simpa [Str.length] using lim_line hl
          · show atI s i = some c
            unfold atI
            rw [hj]
            exact hc
          · exact post_ok b q _ (.str [c])
        · exact q.elim
      · exact q.elim
    · exact q.elim
  · rename_i es k
    obtain ⟨a, vs, rfl, hr, rs⟩ := rx.dct_inv b
    obtain rfl := ry.int_inv
    split at q
    · rename_i d hd
      obtain ⟨v, h1, h2⟩ := (valV_look es vs k rs).1 d hd
      exact .inr ⟨a, v, rfl, .inl ⟨_, Sum.inl k, hr, rfl, h1.symm⟩, post_ok b q _ h2⟩
    · exact q.elim
  · exact q.elim
end
section
variable {X : Cx} {p : Par} {W : WX} {O : List Nat} {pos : Pos} {e e1 e2 e3 : Expr} {es : List Expr} {fa fb fc : Env → Res D} {ft fu : Env → Res Bool} {fs : Env → Res (List D)}
theorem op_ltI : OpR X (compareOp .Lt) (rI0 fun i j => .bl (decide (i < j))) := op_lt
theorem op_gtA : OpR X (compareOp .Gt) (fun x y H Q => rI0 (fun i j => .bl (decide (j < i))) x y H Q ∨ ∃ i j, x = .str i ∧ y = .str j ∧ Q (.bl (decide (j.cps.toList < i.cps.toList))) H) := .or op_gt op_gt_str
theorem op_eqK (hK : X.K = p.K) (hu : X.A.units + 64 < cLine) : OpR X (compareOp .Eq) (rEqD p.K) := by rw [← hK]; exact op_eqD hu
theorem op_neK (hK : X.K = p.K) (hu : X.A.units + 64 < cLine) : OpR X (compareOp .NotEq) (rNeD p.K) := by rw [← hK]; exact op_neD hu
theorem op_inK (hK : X.K = p.K) (hu : X.A.units + 64 < cLine) : OpR X (compareOp .In) (rInAll p.K false) := by rw [← hK]; exact op_inAll (by omega)
theorem op_notInK (hK : X.K = p.K) (hu : X.A.units + 64 < cLine) : OpR X (compareOp .NotIn) (rInAll p.K true) := by rw [← hK]; exact op_notInAll (by omega)
theorem ok_in : OpOkB p (rInAll p.K false) inD := by
  have h := ok_in' (p := p) false
  intro W σ G H Q x y dx dy b rx ry q
  refine h W σ G H Q x y dx dy b rx ry ?_
  show post p W σ G H ((inD dx dy).bind fun b => .ok (if false = true then !b else b)) _
  cases hi : inD dx dy with
  | ok a => rw [hi] at q; exact q
  | exc c => rw [hi] at q; exact q
  | bad => rw [hi] at q; exact q
theorem ok_notIn : OpOkB p (rInAll p.K true) notInD := ok_in' true
theorem r_idx (hK : X.K = p.K) (hu : X.A.units + 64 < cLine) (ha : PE X e1 (rdB p W O fa)) (hb : PE X e2 (rdB p W O fb)) (hs : PlainIx e2 := by exact fun _ _ => rfl) : PE X (.Subscript e1 e2 pos) (rdE p W O (eBin idxD fa fb)) := by
  have hr : IxR X (fun x y H Q => (rIxL p.K x y H Q ∨ rIxT p.K x y H Q ∨ rIxS x y H Q) ∨ rIxD x y H Q) := by
    rw [← hK]
    exact .or ix_seq (ix_dict (by omega))
  exact pe_w (pe_ix hr ha hb hs) fun σ H Q ⟨Z, r, q⟩ => rd_two r q fun x y dx dy G' H' s rx ry q2 => ok_idx W σ G' H' Q x y dx dy s rx ry q2
end
end PL
set_option Elab.async false
set_option linter.all false
set_option maxRecDepth 100000
set_option maxHeartbeats 2000000
namespace PL
open PySem PySem.Spec PyProof.Rows L2
section
variable {X : Cx} {p : Par} {W : WX} {O : List Nat} {pos : Pos} {e e1 e2 e3 : Expr} {es : List Expr} {fa fb fc : Env → Res D} {ft fu : Env → Res Bool} {fs : Env → Res (List D)}
theorem ra_nil : PA X [] (rdA p W O aNil) := pa_w pa_nil fun σ H Q ⟨Z, r, q⟩ => post_ok r.below q [] .nil
theorem ra_cons (ha : PE X e (rdE p W O fa)) (hr : PA X es (rdA p W O fs)) (hs : starEach (e :: es) X.env = (false, eval e X.env) :: starEach es X.env := by rfl) : PA X (e :: es) (rdA p W O (aCons fa fs)) :=
  pa_w (pa_cons ha hr hs) fun σ H Q ⟨Z, r, q⟩ => ⟨Z, r, post_imp (post_bind q) fun dx G1 H1 g1 q1 x rx => ⟨Z.up G1, r.grow g1, post_imp (post_bind q1) fun ds G2 H2 g2 q2 vs rs => post_ok g2.below q2 _ (.cons (rx.mono g2.sub) rs)⟩⟩
theorem rab_nil : PA X [] (rdAB p W O aNil) := pa_w pa_nil fun σ H Q ⟨Z, r, q⟩ => post_ok r.below q [] .nil
theorem rab_cons (ha : PE X e (rdB p W O fa)) (hr : PA X es (rdAB p W O fs)) (hs : starEach (e :: es) X.env = (false, eval e X.env) :: starEach es X.env := by rfl) : PA X (e :: es) (rdAB p W O (aCons fa fs)) :=
  pa_w (pa_cons ha hr hs) fun σ H Q ⟨Z, r, q⟩ => ⟨Z, r, post_imp (post_bind q) fun dx G1 H1 g1 q1 x rx => ⟨Z.up G1, r.grow g1, post_imp (post_bind q1) fun ds G2 H2 g2 q2 vs rs => post_ok g2.below q2 _ (.cons (rx.grow g2) rs)⟩⟩
def tupD (ds : List D) : Res D := if ds.length ≤ LIM then .ok (.tup ds) else .bad
def lstD (ds : List D) : Res D := if ds.length ≤ LIM then .ok (.lst ds) else .bad
theorem r_tup {k : Nat} (ha : PA X es (rdA p W O fs)) : PE X (.Tuple es k pos) (rdE p W O (eArgs tupD fs)) :=
  pe_w (pe_tup ha) fun σ H Q ⟨Z, r, q⟩ => ⟨Z, r, post_imp (post_bind q) fun ds G1 H1 g1 q1 xs rs => by
    unfold tupD at q1
    split at q1
    · rename_i hl
      exact ⟨by rw [rs.length]; exact lim_line hl, fun z hz => q1 _ _ (Grow.alloc g1.below hz) _ (.tup upd_same (rs.mono (same_upd (free_G g1.below hz))))⟩
    · exact q1.elim⟩
theorem r_lst (ha : PA X es (rdA p W O fs)) : PE X (.List es pos) (rdF p W O (eArgs lstD fs)) :=
  pe_w (pe_lst ha) fun σ H Q ⟨Z, r, q⟩ => ⟨Z, r, post_imp (post_bind q) fun ds G1 H1 g1 q1 xs rs => by
    unfold lstD at q1
    split at q1
    · rename_i hl
      exact ⟨by rw [rs.length]; exact lim_line hl, fun z hz => q1 _ _ (.refl g1.below) z _ (Grow.allocO g1.below hz) hz (.inl ⟨_, _, rfl, upd_same, rs⟩)⟩
    · exact q1.elim⟩
theorem r_dct0 : PE X (.Dict [] [] pos) (rdF p W O (eCst (.dct []))) :=
  pe_w pe_dnewK fun σ H Q ⟨Z, r, q⟩ => fun z hz => q _ _ (.refl r.below) z _ (Grow.allocO r.below hz) hz (.inr ⟨[], [], rfl, upd_same, .nil⟩)
def rdN (p : Par) (O : List Nat) (f : Env → Res D) : TE := fun σ H Q => ∃ Z, Rel p O Z σ H ∧ ∃ n, f Z.ρ = .ok (.int n) ∧ Q (.int n) H
theorem r_nint {i : Int} {j : Nat} : PE X (.Constant (.int i) j pos) (rdN p O (eCst (.int i))) := pe_w pe_int fun σ H Q ⟨Z, r, n, e, q⟩ => by
  cases e; exact q
theorem r_nvar {i : Nat} {x : Str} (hN : X.N[i]? = some x) (hv : Vis X.env.scope x) (hd : (x == ("__debug__" : Str)) = false := by decide) (hcd : (x == ("__classdict__" : Str)) = false := by decide) : PE X (.Name x pos) (rdN p O (eVar i)) :=
  pe_w (pe_var hN hv hd hcd) fun σ H Q ⟨Z, r, n, e, q⟩ => by
    unfold eVar at e
    split at e
    · rename_i d h
      cases e
      obtain ⟨v, h1, h2⟩ := r.slots i _ h
      unfold Slot at h2
      split at h2
      · obtain ⟨a, e, _, _, ⟨_, _, e2, _⟩ | ⟨_, _, e2, _⟩⟩ := h2 <;> cases e2
      · cases h2; exact ⟨_, h1, q⟩
    · cases e
def eDct1 (k : Int) (b : Env → Res D) : Env → Res D := fun ρ => match b ρ with
  | .ok (.int n) => .ok (.dct [(k, .int n)])
  | _ => .bad
theorem r_dct1 {k : Int} {j : Nat} {pos' : Pos} (hv : PE X e2 (rdN p O fb)) : PE X (.Dict [some (.Constant (.int k) j pos')] [e2] pos) (rdF p W O (eDct1 k fb)) :=
  pe_w (pe_disp (pps_cons pe_int hv pps_nil) (by rfl) (by rfl) (fun z => by cases z) (by show (1 : Nat) ≤ 15; decide)) fun σ H Q ⟨Z, r, q⟩ => by
    intro z hz
    unfold eDct1 at q
    split at q
    · rename_i n hn
      have r' : Rel p O Z σ (upd H z (.dK [])) := r.grow (Grow.allocO (o := .dK []) r.below hz)
      refine ⟨Z, r', n, hn, ?_⟩
      refine ⟨upd_same, [(Sum.inl k, .int n)], rfl, (by show (1 : Nat) ≤ 15; decide), ?_⟩
      rw [upd_upd]
      exact q _ _ (.refl r.below) z _ (Grow.allocO r.below hz) hz (.inr ⟨[(k, .int n)], [.int n], rfl, upd_same, .cons (.int n) .nil⟩)
    · exact q.elim
def spD (p : Par) (f : List D → Res D) : Sp := fun vs H Q E => ∃ G ds, Same G H ∧ Reps p G vs ds ∧ post p (fun cls d _ H' => E cls d H') [] G H (f ds) (fun d G' H' => ∀ v, Rep p G' v d → Q v H')
theorem r_call {k : Nat} {f : Addr} {fd : FuncData} {ps : List Str} {x : Str} {pos' : Pos} {g : List D → Res D} (F : FnOk X.prog X.w X.K X.mg X.base (L2.CX X.prog X.w) k f fd ps (spD p g)) (hr : Room k X.A) (hg : Gl X x) (hm : X.mg x = some (.ref f)) (hk : PySem.W.keepIn X.K (.ref f) = true) (hb : L2.Binds X.K fd ps [])
    (tk : Takes X W) (ha : PA X (e :: es) (rdA p W O fs)) (hdb : (x == ("__debug__" : Str)) = false := by decide) (he : starEach (e :: es) X.env = (false, eval e X.env) :: starEach es X.env := by rfl) (hpl : (backTo pos (starEach es X.env)).any (·.1) = false := by rfl) :
    PE X (.Call (.Name x pos') (e :: es) [] pos) (rdE p W O (eArgs g fs)) :=
  pe_w (pe_callS (E := fun σ => WE W σ) F hr hg hm hk hb (fun σ => passAt tk σ) ha hdb he hpl) fun σ H Q ⟨Z, r, q⟩ => ⟨Z, r, post_imp (post_bind q) fun ds G1 H1 g1 q1 vs rs => ⟨G1, ds, g1.below, rs, by
    revert q1
    cases g ds with
    | ok d => exact fun q => q
    | exc c => exact fun q => q
    | bad => exact fun q => q⟩⟩
theorem r_call0 {k : Nat} {f : Addr} {fd : FuncData} {ps : List Str} {x : Str} {pos' : Pos} {g : List D → Res D} (F : FnOk X.prog X.w X.K X.mg X.base (L2.CX X.prog X.w) k f fd ps (spD p g)) (hr : Room k X.A) (hg : Gl X x) (hm : X.mg x = some (.ref f)) (hk : PySem.W.keepIn X.K (.ref f) = true) (hb : L2.Binds X.K fd ps [])
    (tk : Takes X W) (hdb : (x == ("__debug__" : Str)) = false := by decide) :
    PE X (.Call (.Name x pos') [] [] pos) (rdE p W O (eArgs g aNil)) := by
  refine ⟨fun pins s σ H Q I ⟨Z, r, q⟩ => ?_⟩
  refine wpAny_Call_Name_kw (ld_glob I hg hm ?_ hdb)
  refine PySem.W.callWith_K0 I.kIn hk (run_fnS (us := []) (E := fun σ => WE W σ) F hr hb (passAt tk σ) I .nil ⟨Z.G, [], r.below, .nil, ?_⟩)
  revert q
  show post p W σ Z.G H (g []) _ → _
  cases g [] with
  | ok d => exact fun q => q
  | exc c => exact fun q => q
  | bad => exact fun q => q
end
inductive Out where
  | next (ρ : Env) | ret (d : D) | exc (c : Nat) | bad
def Res.out (r : Res D) : Out := match r with
  | .ok d => .ret d
  | .exc c => .exc c
  | .bad => .bad
def Res.env (r : Res Env) : Out := match r with
  | .ok d => .next d
  | .exc c => .exc c
  | .bad => .bad
structure Fin (Z : Gh) (G' H' : Hp) : Prop where
  below : Same G' H'
  frame : Same Z.H0 H'
  fixed : ∀ b, Z.H0 b ≠ none → G' b = Z.G0 b
  sub : Same Z.G0 G'
theorem Rel.fin {p : Par} {O : List Nat} {Z : Gh} {σ : L2.St} {H : Hp} (r : Rel p O Z σ H) : Fin Z Z.G H := ⟨r.below, r.frame, r.fixed, r.sub⟩
def postS (p : Par) (W : WX) (O' : List Nat) (Z : Gh) (o : Out) (Dd : Ends) : Prop := match o with
  | .next ρ' => ∀ G' H' σ', Same Z.G G' → Rel p O' ⟨ρ', G', Z.H0, Z.G0⟩ σ' H' → Dd.nx σ' H'
  | .ret d => ∀ G' H' v, Same Z.G G' → Fin Z G' H' → Rep p G' v d → Dd.rt v H'
  | .exc c => ∀ H' σ', Same Z.H0 H' → W (.ref (p.ex c)) none σ' H'
  | .bad => False
theorem postS_mono {p : Par} {W : WX} {O' : List Nat} {Z : Gh} {o : Out} {Dd : Ends} {G' : Hp} {ρ' : Env} (s : Same Z.G G') (h : postS p W O' Z o Dd) : postS p W O' ⟨ρ', G', Z.H0, Z.G0⟩ o Dd := by
  cases o with
  | next ρ' => exact fun G' H' σ' s' r => h G' H' σ' (s.trans s') r
  | ret d => exact fun G' H' v s' f r => h G' H' v (s.trans s') ⟨f.below, f.frame, f.fixed, f.sub⟩ r
  | exc c => exact h
  | bad => exact h
def rdS (p : Par) (W : WX) (O O' : List Nat) (f : Env → Out) : TS := fun Dd σ H => ∃ Z, Rel p O Z σ H ∧ postS p W O' Z (f Z.ρ) Dd
def sNil : Env → Out := fun ρ => .next ρ
def sSeq (f g : Env → Out) : Env → Out := fun ρ => match f ρ with
  | .next ρ' => g ρ'
  | .ret d => .ret d
  | .exc c => .exc c
  | .bad => .bad
def sSet (i : Nat) (e : Env → Res D) : Env → Out := fun ρ => ((e ρ).bind fun d => .ok (ρ.set i (some d))).env
def sRet (e : Env → Res D) : Env → Out := fun ρ => (e ρ).out
def sIf (t : Env → Res Bool) (f g : Env → Out) : Env → Out := fun ρ => match t ρ with
  | .ok true => f ρ
  | .ok false => g ρ
  | .exc c => .exc c
  | .bad => .bad
def remO (i : Nat) (O : List Nat) : List Nat := O.filter fun j => j != i
def addO (i : Nat) (O : List Nat) : List Nat := i :: remO i O
theorem remO_self (i : Nat) (O : List Nat) : (remO i O).contains i = false := by
  unfold remO; simp
theorem remO_ne {i j : Nat} (O : List Nat) (h : j ≠ i) : (remO i O).contains j = O.contains j := by
  rw [Bool.eq_iff_iff]
  unfold remO
  simp [h]
theorem addO_self (i : Nat) (O : List Nat) : (addO i O).contains i = true := by
  unfold addO; simp
theorem addO_ne {i j : Nat} (O : List Nat) (h : j ≠ i) : (addO i O).contains j = O.contains j := by
  rw [Bool.eq_iff_iff]
  unfold addO remO
  simp [h]
section
variable {p : Par} {O : List Nat} {Z : Gh} {σ : L2.St} {H : Hp} {i : Nat} {v : V} {d : D}
theorem Rel.set (r : Rel p O Z σ H) (rv : Rep p Z.G v d) : Rel p (remO i O) { Z with ρ := Z.ρ.set i (some d) } (σ.set i (some v)) H where
  below := r.below
  frame := r.frame
  fixed := r.fixed
  sub := r.sub
  len := by simp [r.len]
  slots := fun j e h => by
    by_cases hj : i = j
    · subst hj
      have hlt : i < Z.ρ.length := by
        have := (List.getElem?_eq_some_iff.mp h).1
        simpa using this
      have h' : (Z.ρ.set i (some d))[i]? = some (some e) := h
      rw [List.getElem?_set_self hlt] at h'
      cases h'
      refine ⟨v, by rw [List.getElem?_set_self (by rw [r.len]; exact hlt)], ?_⟩
      unfold Slot
      rw [remO_self, if_neg Bool.false_ne_true]
      exact rv
    · have h' : (Z.ρ.set i (some d))[j]? = some (some e) := h
      rw [List.getElem?_set_ne hj] at h'
      obtain ⟨w, h1, h2⟩ := r.slots j e h'
      refine ⟨w, by rw [List.getElem?_set_ne hj]; exact h1, ?_⟩
      rw [remO_ne O (Ne.symm hj)]
      exact h2
  apart := fun j k a e f h1 h2 h3 h4 h5 h6 => by
    have hj : j ≠ i := by rintro rfl; rw [remO_self] at h1; cases h1
    have hk : k ≠ i := by rintro rfl; rw [remO_self] at h2; cases h2
    rw [remO_ne O hj] at h1
    rw [remO_ne O hk] at h2
    have h3' : (Z.ρ.set i (some d))[j]? = some (some e) := h3
    have h4' : (Z.ρ.set i (some d))[k]? = some (some f) := h4
    rw [List.getElem?_set_ne hj.symm] at h3' h5
    rw [List.getElem?_set_ne hk.symm] at h4' h6
    exact r.apart j k a e f h1 h2 h3' h4' h5 h6
theorem Rel.setO {a : Addr} (r : Rel p O Z σ H) (hG : Z.G a = none) (h0 : Z.H0 a = none) (ow : Own p Z.G H a d) (new : ∀ j e, O.contains j = true → j ≠ i → Z.ρ[j]? = some (some e) → σ[j]? ≠ some (some (.ref a))) :
    Rel p (addO i O) { Z with ρ := Z.ρ.set i (some d) } (σ.set i (some (.ref a))) H where
  below := r.below
  frame := r.frame
  fixed := r.fixed
  sub := r.sub
  len := by simp [r.len]
  slots := fun j e h => by
    by_cases hj : i = j
    · subst hj
      have hlt : i < Z.ρ.length := by
        have := (List.getElem?_eq_some_iff.mp h).1
        simpa using this
      have h' : (Z.ρ.set i (some d))[i]? = some (some e) := h
      rw [List.getElem?_set_self hlt] at h'
      cases h'
      refine ⟨_, by rw [List.getElem?_set_self (by rw [r.len]; exact hlt)], ?_⟩
      unfold Slot
      rw [addO_self, if_pos rfl]
      exact ⟨a, rfl, hG, h0, ow⟩
    · have h' : (Z.ρ.set i (some d))[j]? = some (some e) := h
      rw [List.getElem?_set_ne hj] at h'
      obtain ⟨w, h1, h2⟩ := r.slots j e h'
      refine ⟨w, by rw [List.getElem?_set_ne hj]; exact h1, ?_⟩
      rw [addO_ne O (Ne.symm hj)]
      exact h2
  apart := fun j k b e f h1 h2 h3 h4 h5 h6 => by
    have h3' : (Z.ρ.set i (some d))[j]? = some (some e) := h3
    have h4' : (Z.ρ.set i (some d))[k]? = some (some f) := h4
    by_cases hj : j = i
    · by_cases hk : k = i
      · rw [hj, hk]
      · exfalso
        subst hj
        have hlt : j < Z.ρ.length := by
          have := (List.getElem?_eq_some_iff.mp h3').1
          simpa using this
        rw [List.getElem?_set_self (by rw [r.len]; exact hlt)] at h5
        cases h5
        rw [addO_ne O hk] at h2
        rw [List.getElem?_set_ne (Ne.symm hk)] at h4' h6
        exact new k f h2 hk h4' h6
    · by_cases hk : k = i
      · exfalso
        subst hk
        have hlt : k < Z.ρ.length := by
          have := (List.getElem?_eq_some_iff.mp h4').1
          simpa using this
        rw [List.getElem?_set_self (by rw [r.len]; exact hlt)] at h6
        cases h6
        rw [addO_ne O hj] at h1
        rw [List.getElem?_set_ne (Ne.symm hj)] at h3' h5
        exact new j e h1 hj h3' h5
      · rw [addO_ne O hj] at h1
        rw [addO_ne O hk] at h2
        rw [List.getElem?_set_ne (Ne.symm hj)] at h3' h5
        rw [List.getElem?_set_ne (Ne.symm hk)] at h4' h6
        exact r.apart j k b e f h1 h2 h3' h4' h5 h6
theorem Rel.write {a : Addr} {o : HO} {d' : D} (r : Rel p O Z σ H) (ho : O.contains i = true) (hd : Z.ρ[i]? = some (some d)) (hs : σ[i]? = some (some (.ref a))) (ow : Own p Z.G (upd H a o) a d') :
    Rel p O { Z with ρ := Z.ρ.set i (some d') } σ (upd H a o) := by
  obtain ⟨v, h1, h2⟩ := r.slots i d hd
  unfold Slot at h2
  rw [if_pos ho] at h2
  obtain ⟨a', e', hG, h0, own'⟩ := h2
  rw [hs] at h1
  cases h1
  cases e'
  have hlt : i < Z.ρ.length := (List.getElem?_eq_some_iff.mp hd).1
  refine ⟨fun b x e => ?_, fun b x e => ?_, r.fixed, r.sub, by simp [r.len], fun j e h => ?_, fun j k b e f h1 h2 h3 h4 h5 h6 => ?_⟩
  · rw [upd_ne (ne_of_none e hG)]; exact r.below _ _ e
  · rw [upd_ne (ne_of_none e h0)]; exact r.frame _ _ e
  · by_cases hj : i = j
    · subst hj
      have h' : (Z.ρ.set i (some d'))[i]? = some (some e) := h
      rw [List.getElem?_set_self hlt] at h'
      cases h'
      refine ⟨_, hs, ?_⟩
      unfold Slot
      rw [if_pos ho]
      exact ⟨a, rfl, hG, h0, ow⟩
    · have h' : (Z.ρ.set i (some d'))[j]? = some (some e) := h
      rw [List.getElem?_set_ne hj] at h'
      obtain ⟨w, h1, h2⟩ := r.slots j e h'
      refine ⟨w, h1, ?_⟩
      unfold Slot at h2 ⊢
      split
      · rename_i hoj
        rw [if_pos hoj] at h2
        obtain ⟨b, e1, e2, e3, e4⟩ := h2
        have hne : b ≠ a := by
          rintro rfl
          subst e1
          exact hj (r.apart i j b d e ho hoj hd h' hs h1)
        refine ⟨b, e1, e2, e3, ?_⟩
        rcases e4 with ⟨xs, ds, q1, q2, q3⟩ | ⟨es, vs, q1, q2, q3⟩
        · exact .inl ⟨xs, ds, q1, by rw [upd_ne hne]; exact q2, q3⟩
        · exact .inr ⟨es, vs, q1, by rw [upd_ne hne]; exact q2, q3⟩
      · rename_i hoj
        rw [if_neg hoj] at h2
        exact h2
  · have back : ∀ (j : Nat) (e : D), (Z.ρ.set i (some d'))[j]? = some (some e) → ∃ e', Z.ρ[j]? = some (some e') := fun j e h => by
      by_cases hj : i = j
      · subst hj; exact ⟨d, hd⟩
      · rw [List.getElem?_set_ne hj] at h; exact ⟨e, h⟩
    obtain ⟨e1, h3'⟩ := back j e h3
    obtain ⟨f1, h4'⟩ := back k f h4
    exact r.apart j k b e1 f1 h1 h2 h3' h4' h5 h6
theorem Rel.freezeL {a : Addr} {ds : List D} {xs : List V} (r : Rel p O Z σ H) (ho : O.contains i = true) (hd : Z.ρ[i]? = some (some (.lst ds))) (hs : σ[i]? = some (some (.ref a))) (ha : H a = some (.lst xs)) (rs : Reps p Z.G xs ds) (hG : Z.G a = none) (h0 : Z.H0 a = none) :
    Rel p (remO i O) (Z.up (upd Z.G a (.lst xs))) σ H ∧ Same Z.G (upd Z.G a (.lst xs)) := by
  have sG : Same Z.G (upd Z.G a (.lst xs)) := same_upd hG
  refine ⟨⟨fun b x e => ?_, r.frame, fun b hb => ?_, r.sub.trans sG, r.len, fun j e h => ?_, fun j k b e f h1 h2 h3 h4 h5 h6 => ?_⟩, sG⟩
  · have e' : upd Z.G a (.lst xs) b = some x := e
    by_cases hb : b = a
    · subst hb; rw [upd_same] at e'; cases e'; exact ha
    · rw [upd_ne hb] at e'; exact r.below _ _ e'
  · show upd Z.G a (.lst xs) b = Z.G0 b
    rw [upd_ne (fun e => hb (by rw [e]; exact h0))]
    exact r.fixed b hb
  · obtain ⟨w, h1, h2⟩ := r.slots j e h
    refine ⟨w, h1, ?_⟩
    by_cases hj : j = i
    · subst hj
      have h' : Z.ρ[j]? = some (some e) := h
      rw [hd] at h'
      cases h'
      rw [hs] at h1
      cases h1
      unfold Slot
      rw [remO_self, if_neg Bool.false_ne_true]
      exact .lst upd_same (rs.mono sG)
    · rw [remO_ne O hj]
      unfold Slot at h2 ⊢
      split
      · rename_i hoj
        rw [if_pos hoj] at h2
        obtain ⟨b, e1, e2, e3, e4⟩ := h2
        have hne : b ≠ a := by
          rintro rfl
          subst e1
          exact hj (r.apart j i b e _ hoj ho h hd h1 hs)
        exact ⟨b, e1, (upd_ne hne).trans e2, e3, e4.grow (.refl H) sG⟩
      · rename_i hoj
        rw [if_neg hoj] at h2
        exact h2.mono sG
  · have hj : j ≠ i := by rintro rfl; rw [remO_self] at h1; cases h1
    have hk : k ≠ i := by rintro rfl; rw [remO_self] at h2; cases h2
    rw [remO_ne O hj] at h1
    rw [remO_ne O hk] at h2
    exact r.apart j k b e f h1 h2 h3 h4 h5 h6
theorem Rel.freezeD {a : Addr} {es : List (Int × D)} {vs : List V} {od : Obj} (r : Rel p O Z σ H) (ho : O.contains i = true) (hd : Z.ρ[i]? = some (some (.dct es))) (hs : σ[i]? = some (some (.ref a))) (ha : H a = some (.dK (dkv es vs))) (rs : Reps p Z.G vs (es.map (·.2))) (hG : Z.G a = none) (h0 : Z.H0 a = none) :
    Rel p (remO i O) (Z.up (upd Z.G a (.frz od (.dK (dkv es vs))))) σ (upd H a (.frz od (.dK (dkv es vs)))) ∧ Same Z.G (upd Z.G a (.frz od (.dK (dkv es vs)))) := by
  have sG : Same Z.G (upd Z.G a (.frz od (.dK (dkv es vs)))) := same_upd hG
  refine ⟨⟨same_upd2 r.below, fun b x e => ?_, fun b hb => ?_, r.sub.trans sG, r.len, fun j e h => ?_, fun j k b e f h1 h2 h3 h4 h5 h6 => ?_⟩, sG⟩
  · rw [upd_ne (ne_of_none e h0)]; exact r.frame _ _ e
  · show upd Z.G a (.frz od (.dK (dkv es vs))) b = Z.G0 b
    rw [upd_ne (fun e => hb (by rw [e]; exact h0))]
    exact r.fixed b hb
  · obtain ⟨w, h1, h2⟩ := r.slots j e h
    refine ⟨w, h1, ?_⟩
    by_cases hj : j = i
    · subst hj
      have h' : Z.ρ[j]? = some (some e) := h
      rw [hd] at h'
      cases h'
      rw [hs] at h1
      cases h1
      unfold Slot
      rw [remO_self, if_neg Bool.false_ne_true]
      exact .dct upd_same (rs.mono sG)
    · rw [remO_ne O hj]
      unfold Slot at h2 ⊢
      split
      · rename_i hoj
        rw [if_pos hoj] at h2
        obtain ⟨b, e1, e2, e3, e4⟩ := h2
        have hne : b ≠ a := by
          rintro rfl
          subst e1
          exact hj (r.apart j i b e _ hoj ho h hd h1 hs)
        refine ⟨b, e1, (upd_ne hne).trans e2, e3, ?_⟩
        rcases e4 with ⟨xs, ds, q1, q2, q3⟩ | ⟨es', vs', q1, q2, q3⟩
        · exact .inl ⟨xs, ds, q1, by rw [upd_ne hne]; exact q2, q3.mono sG⟩
        · exact .inr ⟨es', vs', q1, by rw [upd_ne hne]; exact q2, q3.mono sG⟩
      · rename_i hoj
        rw [if_neg hoj] at h2
        exact h2.mono sG
  · have hj : j ≠ i := by rintro rfl; rw [remO_self] at h1; cases h1
    have hk : k ≠ i := by rintro rfl; rw [remO_self] at h2; cases h2
    rw [remO_ne O hj] at h1
    rw [remO_ne O hk] at h2
    exact r.apart j k b e f h1 h2 h3 h4 h5 h6
theorem Rel.freeze0 (r : Rel p O Z σ H) (hd : ∀ d, Z.ρ[i]? ≠ some (some d)) : Rel p (remO i O) Z σ H :=
  ⟨r.below, r.frame, r.fixed, r.sub, r.len, fun j e h => by
    have hj : j ≠ i := by rintro rfl; exact hd e h
    rw [remO_ne O hj]
    exact r.slots j e h, fun j k b e f h1 h2 h3 h4 h5 h6 => by
    have hj : j ≠ i := by rintro rfl; exact hd e h3
    have hk : k ≠ i := by rintro rfl; exact hd f h4
    rw [remO_ne O hj] at h1
    rw [remO_ne O hk] at h2
    exact r.apart j k b e f h1 h2 h3 h4 h5 h6⟩
theorem Rel.freezeN (r : Rel p O Z σ H) (ho : O.contains i = false) : Rel p (remO i O) Z σ H :=
  ⟨r.below, r.frame, r.fixed, r.sub, r.len, fun j e h => by
    by_cases hj : j = i
    · subst hj
      have := r.slots j e h
      rw [ho] at this
      rw [remO_self]
      exact this
    · rw [remO_ne O hj]
      exact r.slots j e h, fun j k b e f h1 h2 h3 h4 h5 h6 => by
    have hj : j ≠ i := by rintro rfl; rw [remO_self] at h1; cases h1
    have hk : k ≠ i := by rintro rfl; rw [remO_self] at h2; cases h2
    rw [remO_ne O hj] at h1
    rw [remO_ne O hk] at h2
    exact r.apart j k b e f h1 h2 h3 h4 h5 h6⟩
end
end PL
set_option Elab.async false
set_option linter.all false
set_option maxRecDepth 100000
set_option maxHeartbeats 2000000
namespace PL
open PySem PySem.Spec PyProof.Rows L2
section
variable {X : Cx} {p : Par} {W : WX} {O O1 O2 : List Nat} {pos pos' : Pos} {st : Stmt} {rest : List Stmt} {e e1 e2 e3 : Expr} {es : List Expr} {fa fb fc : Env → Res D} {ft fu : Env → Res Bool} {fs : Env → Res (List D)} {f g : Env → Out}
theorem q_nil : PSs X [] (rdS p W O O sNil) := pss_w pss_nil fun Dd σ H ⟨Z, r, q⟩ => q Z.G H σ (.refl _) r
theorem q_cons (h : PS X st (rdS p W O O1 f)) (hr : PSs X rest (rdS p W O1 O2 g)) : PSs X (st :: rest) (rdS p W O O2 (sSeq f g)) :=
  pss_w (pss_cons h hr) fun Dd σ H ⟨Z, r, q⟩ => ⟨Z, r, by
    unfold sSeq at q
    revert q
    cases f Z.ρ with
    | next ρ' => exact fun q G' H' σ' s r' => ⟨_, r', postS_mono s q⟩
    | ret d => exact fun q => q
    | exc c => exact fun q => q
    | bad => exact fun q => q⟩
theorem q_one (h : PS X st (rdS p W O O1 f)) : PSs X [st] (rdS p W O O1 f) := pss_one h
theorem q_frz (i : Nat) (hr : PSs X rest (rdS p W (remO i O) O2 g)) : PSs X rest (rdS p W O O2 g) := by
  refine ⟨fun pins s σ H Dd I ⟨Z, r, q⟩ => ?_⟩
  cases ho : O.contains i with
  | false => exact hr.run pins s σ H Dd I ⟨Z, r.freezeN ho, q⟩
  | true =>
    by_cases hd : ∃ d, Z.ρ[i]? = some (some d)
    · obtain ⟨d, hd⟩ := hd
      obtain ⟨v, h1, h2⟩ := r.slots i d hd
      unfold Slot at h2
      rw [if_pos ho] at h2
      obtain ⟨a, rfl, hG, h0, ⟨xs, ds, rfl, ha, rs⟩ | ⟨es, vs, rfl, ha, rs⟩⟩ := h2
      · obtain ⟨r', s'⟩ := r.freezeL ho hd h1 ha rs hG h0
        exact hr.run pins s σ H Dd I ⟨_, r', postS_mono s' q⟩
      · obtain ⟨od, I'⟩ := I.lock ha trivial
        obtain ⟨r', s'⟩ := r.freezeD (od := od) ho hd h1 ha rs hG h0
        exact hr.run pins s σ _ Dd I' ⟨_, r', postS_mono s' q⟩
    · exact hr.run pins s σ H Dd I ⟨Z, r.freeze0 fun d h => hd ⟨d, h⟩, q⟩
theorem post_out {α : Type} {Z : Gh} {σ : L2.St} {H : Hp} {r : Res α} {k : α → Res Env} {Dd : Ends} (rel : Rel p O Z σ H) (q : postS p W O2 Z (r.bind k).env Dd) : post p W σ Z.G H r (fun a G' H' => postS p W O2 ⟨Z.ρ, G', Z.H0, Z.G0⟩ (k a).env Dd) := by
  cases r with
  | ok a => exact fun G' H' g => postS_mono g.sub q
  | exc c => exact fun H' s => q H' σ (rel.frame.trans s)
  | bad => exact q
theorem sSet_eq {i : Nat} {Z : Gh} {d : D} {Dd : Ends} : postS p W O2 Z (Res.env (.ok (Z.ρ.set i (some d)))) Dd = ∀ G' H' σ', Same Z.G G' → Rel p O2 ⟨Z.ρ.set i (some d), G', Z.H0, Z.G0⟩ σ' H' → Dd.nx σ' H' := rfl
theorem q_set {i : Nat} {x : Str} (hN : X.N.Nodup) (hi : X.N[i]? = some x) (hx : Loc X.env.scope x) (he : PE X e (rdE p W O fa)) (hs : swapsWith e (some (.Name x pos')) pos.line X.env = pure false := by rfl) (hf : X.fn x = true ∨ X.env.scope.names.lookup x = some .local := by first | exact .inl rfl | exact .inr rfl | assumption) :
    PS X (.Assign [.Name x pos'] e pos) (rdS p W O (remO i O) (sSet i fa)) :=
  ps_w (ps_set hN hi hx he hs hf) fun Dd σ H ⟨Z, r, q⟩ => ⟨Z, r, post_imp (post_out r q) fun d G' H' g q1 v rv => q1 G' H' _ (.refl _) ((r.grow g).set rv)⟩
theorem q_setF {i : Nat} {x : Str} (hN : X.N.Nodup) (hi : X.N[i]? = some x) (hx : Loc X.env.scope x) (he : PE X e (rdF p W O fa)) (hs : swapsWith e (some (.Name x pos')) pos.line X.env = pure false := by rfl) (hf : X.fn x = true ∨ X.env.scope.names.lookup x = some .local := by first | exact .inl rfl | exact .inr rfl | assumption) :
    PS X (.Assign [.Name x pos'] e pos) (rdS p W O (addO i O) (sSet i fa)) :=
  ps_w (ps_set hN hi hx he hs hf) fun Dd σ H ⟨Z, r, q⟩ => ⟨Z, r, post_imp (post_out r q) fun d G' H' g q1 a H'' g2 hn ow => by
    have r2 := (r.grow g).grow g2
    have r1 := r.grow g
    refine q1 G' H'' _ (.refl _) (r2.setO (free_G g.below hn) (r1.frame.free hn) ow fun j e ho hj hd hs' => ?_)
    obtain ⟨v, h1, h2⟩ := r1.slots j e hd
    rw [hs'] at h1
    cases h1
    unfold Slot at h2
    rw [if_pos ho] at h2
    obtain ⟨b, eb, _, _, ob⟩ := h2
    cases eb
    exact ob.there hn⟩
theorem q_ret (he : PE X e (rdE p W O fa)) : PS X (.Return (some e) pos) (rdS p W O O1 (sRet fa)) :=
  ps_w (ps_ret he) fun Dd σ H ⟨Z, r, q⟩ => ⟨Z, r, by
    unfold sRet at q
    revert q
    cases fa Z.ρ with
    | ok d => exact fun q G' H' g v rv => q G' H' v g.sub ⟨g.below, (r.grow g).frame, (r.grow g).fixed, (r.grow g).sub⟩ rv
    | exc c => exact fun q H' s => q H' σ (r.frame.trans s)
    | bad => exact fun q => q⟩
theorem q_if {c : Expr} {a b : List Stmt} (hc : PT X c (rdT p W O ft)) (ha : PSs X a (rdS p W O O1 f)) (hb : PSs X b (rdS p W O O1 g)) : PS X (.If c a b pos) (rdS p W O O1 (sIf ft f g)) :=
  ps_w (ps_if hc ha hb) fun Dd σ H ⟨Z, r, q⟩ => ⟨Z, r, by
    unfold sIf at q
    revert q
    cases ft Z.ρ with
    | ok d =>
      cases d with
      | true => exact fun q G' H' g => iteT ⟨Z.up G', r.grow g, postS_mono g.sub q⟩
      | false => exact fun q G' H' g => iteF ⟨Z.up G', r.grow g, postS_mono g.sub q⟩
    | exc c => exact fun q H' s => q H' σ (r.frame.trans s)
    | bad => exact fun q => q⟩
theorem q_pass : PS X (.Pass pos) (rdS p W O O sNil) := ps_w ps_pass fun Dd σ H ⟨Z, r, q⟩ => q Z.G H σ (.refl _) r
def lstOf : D → Res (List D)
  | .lst ds => .ok ds
  | _ => .bad
def dctOf : D → Res (List (Int × D))
  | .dct es => .ok es
  | _ => .bad
theorem eVar_exc {i c : Nat} {ρ : Env} : eVar i ρ ≠ .exc c := by
  unfold eVar
  split <;> exact fun h => nomatch h
theorem own_of {i : Nat} {d : D} {Z : Gh} {σ : L2.St} {H : Hp} (r : Rel p O Z σ H) (ho : O.contains i = true) (hd : eVar i Z.ρ = .ok d) : Z.ρ[i]? = some (some d) ∧ ∃ a, σ[i]? = some (some (.ref a)) ∧ Z.G a = none ∧ Z.H0 a = none ∧ Own p Z.G H a d := by
  unfold eVar at hd
  split at hd
  · rename_i d' h
    cases hd
    obtain ⟨v, h1, h2⟩ := r.slots i _ h
    unfold Slot at h2
    rw [if_pos ho] at h2
    obtain ⟨a, rfl, h3, h4, h5⟩ := h2
    exact ⟨h, a, h1, h3, h4, h5⟩
  · cases hd
theorem own_lst {i : Nat} {α : Type} {k : List D → Res α} {c : α → Res Env} {Dd : Ends} {Z : Gh} {σ : L2.St} {H : Hp} (r : Rel p O Z σ H) (ho : O.contains i = true) (q : postS p W O2 Z (((eVar i Z.ρ).bind fun d => (lstOf d).bind k).bind c).env Dd) :
    ∃ a xs ds, Z.ρ[i]? = some (some (.lst ds)) ∧ σ[i]? = some (some (.ref a)) ∧ Z.G a = none ∧ Z.H0 a = none ∧ H a = some (.lst xs) ∧ Reps p Z.G xs ds ∧ postS p W O2 Z ((k ds).bind c).env Dd := by
  cases hd : eVar i Z.ρ with
  | exc c => exact absurd hd eVar_exc
  | bad => rw [hd] at q; exact q.elim
  | ok d =>
    rw [hd] at q
    obtain ⟨h1, a, h2, h3, h4, ⟨xs, ds, rfl, ha, rs⟩ | ⟨es, vs, rfl, ha, rs⟩⟩ := own_of r ho hd
    · exact ⟨a, xs, ds, h1, h2, h3, h4, ha, rs, q⟩
    · exact q.elim
theorem own_dct {i : Nat} {α : Type} {k : List (Int × D) → Res α} {c : α → Res Env} {Dd : Ends} {Z : Gh} {σ : L2.St} {H : Hp} (r : Rel p O Z σ H) (ho : O.contains i = true) (q : postS p W O2 Z (((eVar i Z.ρ).bind fun d => (dctOf d).bind k).bind c).env Dd) :
    ∃ a vs es, Z.ρ[i]? = some (some (.dct es)) ∧ σ[i]? = some (some (.ref a)) ∧ Z.G a = none ∧ Z.H0 a = none ∧ H a = some (.dK (dkv es vs)) ∧ Reps p Z.G vs (es.map (·.2)) ∧ postS p W O2 Z ((k es).bind c).env Dd := by
  cases hd : eVar i Z.ρ with
  | exc c => exact absurd hd eVar_exc
  | bad => rw [hd] at q; exact q.elim
  | ok d =>
    rw [hd] at q
    obtain ⟨h1, a, h2, h3, h4, ⟨xs, ds, rfl, ha, rs⟩ | ⟨es, vs, rfl, ha, rs⟩⟩ := own_of r ho hd
    · exact q.elim
    · exact ⟨a, vs, es, h1, h2, h3, h4, ha, rs, q⟩
theorem Rel.same {Z : Gh} {σ : L2.St} {H G' H' : Hp} {i : Nat} {a : Addr} {d : D} {o : HO} (r : Rel p O Z σ H) (g : Grow Z.G H G' H') (ha : H a = some o) (hG : Z.G a = none) : H' a = some o ∧ G' a = none :=
  ⟨g.same _ _ ha, (g.new a (by rw [ha]; exact fun e => nomatch e)).trans hG⟩
def sApp (i : Nat) (e : Env → Res D) : Env → Out := fun ρ => (((eVar i ρ).bind fun d => (lstOf d).bind fun ds => (e ρ).bind fun x => if ds.length < LIM then .ok (D.lst (ds ++ [x])) else .bad).bind fun d => .ok (ρ.set i (some d))).env
theorem q_app {i : Nat} {x : Str} {ap p1 : Pos} (hi : X.N[i]? = some x) (hv : Vis X.env.scope x) (ho : O.contains i = true) (he : PE X e (rdE p W O fa))
    (hpe : PE X (.Call (.Attribute (.Name x p1) "append" ap) [e] [] pos') (tBM X.K "list" rAppend (tVar i) (tCons (rdE p W O fa) tNil)))
    (hsw : swapsWith (.Call (.Attribute (.Name x p1) "append" ap) [e] [] pos') none pos.line X.env = pure false := by rfl) :
    PS X (.Expr (.Call (.Attribute (.Name x p1) "append" ap) [e] [] pos') pos) (rdS p W O O (sApp i fa)) := by
  refine ps_w (ps_expr hpe hsw) fun Dd σ H ⟨Z, r, q⟩ => ?_
  unfold sApp at q
  obtain ⟨a, xs, ds, h1, h2, hG, h0, ha, rs, q⟩ := own_lst r ho q
  refine ⟨.ref a, h2, .inl ⟨rfl, _, .of ha⟩, Z, r, ?_⟩
  have q2 : postS p W O Z ((fa Z.ρ).bind fun x => (if ds.length < LIM then Res.ok (D.lst (ds ++ [x])) else .bad).bind fun d => .ok (Z.ρ.set i (some d))).env Dd := by
    revert q
    cases fa Z.ρ with
    | ok d => exact fun q => q
    | exc c => exact fun q => q
    | bad => exact fun q => q
  refine post_imp (post_out r q2) fun dx G' H' g q3 v rv => ?_
  split at q3
  · rename_i hl
    obtain ⟨ha', hG'⟩ := r.same (i := i) (d := dx) g ha hG
    refine ⟨a, xs, v, rfl, rfl, ha', by rw [rs.length]; exact lim_line' (Nat.le_of_lt hl), ?_⟩
    exact q3 G' _ σ (.refl _) ((r.grow g).write ho h1 h2 (.inl ⟨_, _, rfl, upd_same, (rs.mono g.sub).append (.cons rv .nil)⟩))
  · exact q3.elim
theorem app_pe {i : Nat} {x : Str} {ap p1 : Pos} {t : TE} (hx : PE X (.Name x p1) (tVar i)) (ht : PE X e t)
    (h : PE X (.Name x p1) (tVar i) → PE X e t → PE X (.Call (.Attribute (.Name x p1) "append" ap) [e] [] pos') (tBM X.K "list" rAppend (tVar i) (tCons t tNil)) := by
      exact fun a b => pe_bm PySem.F.plainAttrs_list PySem.F.slot_list_append PySem.F.type_list_append mt_append a (pa_cons b pa_nil)) :
    PE X (.Call (.Attribute (.Name x p1) "append" ap) [e] [] pos') (tBM X.K "list" rAppend (tVar i) (tCons t tNil)) := h hx ht
def lsetD (ds : List D) (x y : D) : Res D := match y with
  | .int j => (match ixN ds.length j with
    | some m => .ok (D.lst (ds.set m x))
    | none => .bad)
  | _ => .bad
def sLSet (i : Nat) (k e : Env → Res D) : Env → Out := fun ρ => ((e ρ).bind fun x => ((eVar i ρ).bind fun d => (lstOf d).bind fun ds => (k ρ).bind fun y => lsetD ds x y).bind fun d => .ok (ρ.set i (some d))).env
theorem bind_assoc {α β γ : Type} (r : Res α) (f : α → Res β) (g : β → Res γ) : (r.bind f).bind g = r.bind fun x => (f x).bind g := by
  cases r <;> rfl
theorem q_lset {i : Nat} {x : Str} {p1 p2 : Pos} (ho : O.contains i = true) (hps : PS X (.Assign [.Subscript (.Name x p1) e2 p2] e pos) (tAsg (rdE p W O fa) (gSub (tVar i) (rdE p W O fb) rSetL))) :
    PS X (.Assign [.Subscript (.Name x p1) e2 p2] e pos) (rdS p W O O (sLSet i fb fa)) := by
  refine ps_w hps fun Dd σ H ⟨Z, r, q⟩ => ?_
  unfold sLSet at q
  refine ⟨Z, r, post_imp (post_out r q) fun dx G1 H1 g1 q1 v rv => ?_⟩
  have r1 := r.grow g1
  obtain ⟨a, xs, ds, h1, h2, hG, h0, ha, rs, q1⟩ := own_lst r1 ho q1
  refine ⟨.ref a, h2, Z.up G1, r1, ?_⟩
  rw [bind_assoc] at q1
  refine post_imp (post_out r1 q1) fun dy G2 H2 g2 q3 w rw' => ?_
  unfold lsetD at q3
  split at q3
  · rename_i j
    split at q3
    · rename_i m hm
      obtain ⟨ha', hG'⟩ := r1.same (i := i) (d := dx) g2 ha hG
      cases rw'
      refine ⟨a, xs, j, m, rfl, rfl, ha', by rw [rs.length]; exact hm, ?_⟩
      exact q3 G2 _ σ (.refl _) ((r1.grow g2).write ho h1 h2 (.inl ⟨_, _, rfl, upd_same, (rs.mono g2.sub).set (rv.mono g2.sub) m⟩))
    · exact q3.elim
  · exact q3.elim
def putD (es : List (Int × D)) (k : Int) (d : D) : List (Int × D) :=
  if es.any (fun e => e.1 == k) = true then es.map fun e => if e.1 = k then (e.1, d) else e else es ++ [(k, d)]
theorem putD_rep {G : Hp} {k : Int} {v : V} {d : D} (rv : Rep p G v d) : ∀ (es : List (Int × D)) (vs : List V), Reps p G vs (es.map (·.2)) → ∃ ws, putK (dkv es vs) (Sum.inl k) v = dkv (putD es k d) ws ∧ Reps p G ws ((putD es k d).map (·.2)) := by
  intro es vs rs
  have hany := valV_any es vs k (by rw [rs.length, List.length_map])
  rw [← L2.valV_any (Sum.inl k) (dkv es vs)] at hany
  unfold putK putD
  rw [hany]
  split
  · rename_i h
    clear h hany
    induction es generalizing vs with
    | nil => cases rs; exact ⟨[], rfl, .nil⟩
    | cons e es ih =>
      cases rs with
      | cons r t =>
        obtain ⟨ws, h1, h2⟩ := ih _ t
        obtain ⟨i, d0⟩ := e
        by_cases hk : i = k
        · subst hk
          refine ⟨v :: ws, ?_, ?_⟩
          · show (if (Sum.inl i : Key) = Sum.inl i then (Sum.inl i, v) else _) :: _ = dkv ((if i = i then (i, d) else (i, d0)) :: _) (v :: ws)
            rw [if_pos rfl, if_pos rfl]
            exact congrArg _ h1
          · show Reps p G (v :: ws) ((if i = i then (i, d) else (i, d0)).2 :: _)
            rw [if_pos rfl]
            exact .cons rv h2
        · rename_i w _
          refine ⟨w :: ws, ?_, ?_⟩
          · show (if (Sum.inl i : Key) = Sum.inl k then (Sum.inl i, v) else (Sum.inl i, w)) :: _ = dkv ((if i = k then (i, d) else (i, d0)) :: _) (w :: ws)
            rw [if_neg (fun z => hk (Sum.inl.inj z)), if_neg hk]
            exact congrArg _ h1
          · show Reps p G (w :: ws) ((if i = k then (i, d) else (i, d0)).2 :: _)
            rw [if_neg hk]
            exact .cons r h2
  · refine ⟨vs ++ [v], ?_, ?_⟩
    · unfold dkv
      rw [List.map_append, List.zip_append (by rw [List.length_map, rs.length, List.length_map])]
      rfl
    · rw [List.map_append]
      exact rs.append (.cons rv .nil)
theorem dkv_length {G : Hp} {es : List (Int × D)} {vs : List V} (rs : Reps p G vs (es.map (·.2))) : (dkv es vs).length = es.length := by
  unfold dkv
  rw [List.length_zip, rs.length, List.length_map, List.length_map, Nat.min_self]
def dsetD (es : List (Int × D)) (x y : D) : Res D := match y with
  | .int j => if es.length < LIM then .ok (D.dct (putD es j x)) else .bad
  | _ => .bad
def sDSet (i : Nat) (k e : Env → Res D) : Env → Out := fun ρ => ((e ρ).bind fun x => ((eVar i ρ).bind fun d => (dctOf d).bind fun es => (k ρ).bind fun y => dsetD es x y).bind fun d => .ok (ρ.set i (some d))).env
theorem q_dset {i : Nat} {x : Str} {p1 p2 : Pos} (ho : O.contains i = true) (hu : X.A.units + 64 < cLine) (hx : PE X (.Name x p1) (tVar i)) (he : PE X e (rdE p W O fa)) (hk : PE X e2 (rdE p W O fb))
    (hs : swapsWith e (some (.Subscript (.Name x p1) e2 p2)) pos.line X.env = pure false := by rfl) :
    PS X (.Assign [.Subscript (.Name x p1) e2 p2] e pos) (rdS p W O O (sDSet i fb fa)) := by
  refine ps_w (ps_dput (by omega) hx hk he hs) fun Dd σ H ⟨Z, r, q⟩ => ?_
  unfold sDSet at q
  refine ⟨Z, r, post_imp (post_out r q) fun dx G1 H1 g1 q1 v rv => ?_⟩
  have r1 := r.grow g1
  obtain ⟨a, vs, es, h1, h2, hG, h0, ha, rs, q1⟩ := own_dct r1 ho q1
  refine ⟨.ref a, h2, Z.up G1, r1, ?_⟩
  rw [bind_assoc] at q1
  refine post_imp (post_out r1 q1) fun dy G2 H2 g2 q3 w rw' => ?_
  unfold dsetD at q3
  split at q3
  · rename_i j
    split at q3
    · rename_i hl
      obtain ⟨ha', hG'⟩ := r1.same (i := i) (d := dx) g2 ha hG
      cases rw'
      obtain ⟨ws, e1, e2⟩ := putD_rep (p := p) (k := j) (rv.mono g2.sub) es vs (rs.mono g2.sub)
      have hp := DPut.k (k := Sum.inl j) (v := v) ha' (by rw [dkv_length rs]; exact lim_line' (Nat.le_of_lt hl))
      rw [e1] at hp
      exact ⟨a, _, rfl, hp, q3 G2 _ σ (.refl _) ((r1.grow g2).write ho h1 h2 (.inr ⟨_, ws, rfl, upd_same, e2⟩))⟩
    · exact q3.elim
  · exact q3.elim
def augGet (es : List (Int × D)) (y : D) : Res (Int × Int) := match y with
  | .int j => (match look es j with
    | some (.int n) => .ok (j, n)
    | _ => .bad)
  | _ => .bad
def augPut (es : List (Int × D)) (jn : Int × Int) (z : D) : Res D := match z with
  | .int m => if es.length < LIM then .ok (D.dct (putD es jn.1 (.int (jn.2 + m)))) else .bad
  | _ => .bad
def sDAug (i : Nat) (k e : Env → Res D) : Env → Out := fun ρ => (((eVar i ρ).bind fun d => (dctOf d).bind fun es => (k ρ).bind fun y => (augGet es y).bind fun jn => (e ρ).bind fun z => augPut es jn z).bind fun d => .ok (ρ.set i (some d))).env
theorem q_daug {i : Nat} {x : Str} {p1 p2 : Pos} (ho : O.contains i = true) (hps : PS X (.AugAssign (.Subscript (.Name x p1) e2 p2) .Add e pos) (L2.sDAug (tVar i) (rdE p W O fb) (rdE p W O fa) rAdd)) :
    PS X (.AugAssign (.Subscript (.Name x p1) e2 p2) .Add e pos) (rdS p W O O (PL.sDAug i fb fa)) := by
  refine ps_w hps fun Dd σ H ⟨Z, r, q⟩ => ?_
  unfold PL.sDAug at q
  obtain ⟨a, vs, es, h1, h2, hG, h0, ha, rs, q⟩ := own_dct r ho q
  refine ⟨.ref a, h2, Z, r, ?_⟩
  rw [bind_assoc] at q
  refine post_imp (post_out r q) fun dy G1 H1 g1 q3 w rw' => ?_
  rw [bind_assoc] at q3
  unfold augGet at q3
  split at q3
  · rename_i j
    split at q3
    · rename_i n hn
      obtain ⟨ha', hG'⟩ := r.same (i := i) (d := .non) g1 ha hG
      cases rw'
      obtain ⟨v, hv1, hv2⟩ := (valV_look es vs j rs).1 _ hn
      cases hv2
      refine ⟨a, .int n, rfl, .inl ⟨_, Sum.inl j, .inl ha', rfl, hv1.symm⟩, ?_⟩
      have r1 := r.grow g1
      refine ⟨Z.up G1, r1, ?_⟩
      rw [bind_ok, bind_assoc] at q3
      refine post_imp (post_out r1 q3) fun dz G2 H2 g2 q5 u ru => ?_
      unfold augPut at q5
      split at q5
      · rename_i m
        split at q5
        · rename_i hl
          cases ru
          obtain ⟨ha2, hG2⟩ := r1.same (i := i) (d := .non) g2 ha' hG'
          obtain ⟨ws, e1, e2⟩ := putD_rep (p := p) (k := j) (Rep.int (n + m)) es vs ((rs.mono g1.sub).mono g2.sub)
          have hp := DPut.k (k := Sum.inl j) (v := V.int (n + m)) ha2 (by rw [dkv_length rs]; exact lim_line' (Nat.le_of_lt hl))
          rw [e1] at hp
          exact ⟨n, m, rfl, rfl, _, hp, q5 G2 _ σ (.refl _) ((r1.grow g2).write ho h1 h2 (.inr ⟨_, ws, rfl, upd_same, e2⟩))⟩
        · exact q5.elim
      · exact q5.elim
    · exact q3.elim
  · exact q3.elim
end
end PL
set_option Elab.async false
set_option linter.all false
set_option maxRecDepth 100000
set_option maxHeartbeats 2000000
namespace PL
open PySem PySem.Spec PyProof.Rows L2
open AutoSeq1 (wpAny_loadPart')
inductive Src where
  | lst (a : Addr) (xs : List V) | tup (a : Addr) (xs : List V) | str (z : Str) (t : Tok)
def Src.ok (S : Src) (H : Hp) : Prop := match S with
  | .lst a xs => H a = some (.lst xs)
  | .tup a xs => H a = some (.tup xs)
  | .str _ _ => True
def Src.len : Src → Nat
  | .lst _ xs => xs.length
  | .tup _ xs => xs.length
  | .str z _ => z.cps.size
def Src.get (S : Src) (i : Nat) : Option V := match S with
  | .lst _ xs => xs[i]?
  | .tup _ xs => xs[i]?
  | .str z _ => z.cps[i]?.map fun c => V.str ⟨#[c]⟩
def Src.st (S : Src) (it : Addr) (i : Nat) (h : Heap) : Prop := match S with
  | .lst a _ => h.IsListIter it a i
  | .tup a _ => h.IsTupleIter it a i
  | .str z t => h.IsStrIter it (strIterType z) z t i
def Src.fp (S : Src) (it : Addr) : List Addr := match S with
  | .lst a _ => [it, a]
  | .tup a _ => [it, a]
  | .str _ _ => [it]
def Src.arg : Src → Value
  | .lst a _ => .ref a
  | .tup a _ => .ref a
  | .str z t => .str z t
theorem Src.st_obj {S : Src} {it : Addr} {i : Nat} {h : Heap} (st : S.st it i h) : ∃ o, h.get? it = some o ∧ ∀ v, o.data ≠ .cell v := by
  cases S with
  | lst a xs => obtain ⟨o, h1, _, h2⟩ := st; exact ⟨o, h1, fun v q => by rw [h2] at q; cases q⟩
  | tup a xs => obtain ⟨o, h1, _, h2⟩ := st; exact ⟨o, h1, fun v q => by rw [h2] at q; cases q⟩
  | str z t => obtain ⟨o, h1, _, h2⟩ := st; exact ⟨o, h1, fun v q => by rw [h2] at q; cases q⟩
theorem Src.st_at {S : Src} {it : Addr} {i : Nat} {h h' : Heap} (st : S.st it i h) (k : ∀ o, h.get? it = some o → h'.get? it = some o) : S.st it i h' := by
  cases S with
  | lst a xs => exact Heap.IsListIter.at (h := h) st k
  | tup a xs => obtain ⟨o, h1, h2⟩ := st; exact ⟨o, k o h1, h2⟩
  | str z t => obtain ⟨o, h1, h2⟩ := st; exact ⟨o, k o h1, h2⟩
section
variable {X : Cx} {pins : List (Addr × Obj)} {σ : L2.St} {H : Hp} {s : Shared} {A : Around}
theorem src_draws {S : Src} {it : Addr} (I : Inv X pins σ H s) (ok : S.ok H) (hh : A.handled = none) (hn : H it = none) :
    ∃ P St, Draws X.prog X.w A it (S.fp it) S.len P St ∧ (∀ i, S.st it i s.heap → St i s.heap) ∧ (∀ i h, St i h → S.st it i h) ∧ ∀ i v, P i v → ∃ x, S.get i = some x ∧ RelV x v := by
  cases S with
  | lst a xs =>
    obtain ⟨its, rv, pl, _⟩ := I.list (.of ok)
    have hl : its.toArray.size = xs.length := by rw [List.size_toArray]; exact rv.length.symm
    have DD := Draws.list (prog := X.prog) (w := X.w) hh it a (ne_of_none ok hn) its.toArray
    rw [hl] at DD
    refine ⟨_, _, DD, fun i st => ⟨st, pl.isList⟩, fun i h st => st.1, fun i v hv => ?_⟩
    have hi : i < xs.length := by
      have := (Array.getElem?_eq_some_iff.mp hv).1
      rw [hl] at this
      exact this
    obtain ⟨u, hu, ru⟩ := rv.get (List.getElem?_eq_getElem hi)
    refine ⟨xs[i], List.getElem?_eq_getElem hi, ?_⟩
    have : its.toArray[i]? = some u := by simpa using hu
    rw [this] at hv
    cases hv
    exact ru
  | tup a xs =>
    obtain ⟨its, rv, pl, _⟩ := I.tuple (.of ok)
    have hl : its.toArray.size = xs.length := by rw [List.size_toArray]; exact rv.length.symm
    have DD := Draws.tuple (prog := X.prog) (w := X.w) hh it a (ne_of_none ok hn) its.toArray
    rw [hl] at DD
    refine ⟨_, _, DD, fun i st => ⟨st, pl⟩, fun i h st => st.1, fun i v hv => ?_⟩
    have hi : i < xs.length := by
      have := (Array.getElem?_eq_some_iff.mp hv).1
      rw [hl] at this
      exact this
    obtain ⟨u, hu, ru⟩ := rv.get (List.getElem?_eq_getElem hi)
    refine ⟨xs[i], List.getElem?_eq_getElem hi, ?_⟩
    have : its.toArray[i]? = some u := by simpa using hu
    rw [this] at hv
    cases hv
    exact ru
  | str z t =>
    refine ⟨_, _, Draws.text hh it z t, fun i st => st, fun i h st => st, fun i v hv => ?_⟩
    obtain ⟨c, u, h1, rfl⟩ := hv
    refine ⟨.str ⟨#[c]⟩, ?_, ⟨u, rfl⟩⟩
    show z.cps[i]?.map _ = _
    rw [h1]
    rfl
theorem Src.fp_sep {S : Src} {it b : Addr} (ok : S.ok H) (hb : H b = none) (hne : b ≠ it) : b ∉ S.fp it := by
  cases S with
  | lst a xs => simp only [Src.fp, List.mem_cons, List.not_mem_nil, or_false, not_or]; exact ⟨hne, (ne_of_none ok hb).symm⟩
  | tup a xs => simp only [Src.fp, List.mem_cons, List.not_mem_nil, or_false, not_or]; exact ⟨hne, (ne_of_none ok hb).symm⟩
  | str z t => simp only [Src.fp, List.mem_cons, List.not_mem_nil, or_false]; exact hne
theorem Src.fp_mem {S : Src} {it : Addr} : it ∈ S.fp it := by cases S <;> simp [Src.fp]
end
def Itz2 (S T : Src) : It :=
  ⟨fun i H => S.ok H ∧ T.ok H ∧ i < min S.len T.len, fun i H v H' => ∃ a x y, v = .ref a ∧ H a = none ∧ H' = upd H a (.tup [x, y]) ∧ S.get i = some x ∧ T.get i = some y, fun i H => S.ok H ∧ T.ok H ∧ i = min S.len T.len⟩
theorem turn_zip2 {P : Program} {w : World} {K : PySem.W.Frag} {elts : List Expr} {kk : Nat} {tpos : Pos} {S T : Src} {z TI TO i1 i2 : Addr} (d : [z, TI, TO, i1, i2].Nodup) :
    Turn P w K (.Tuple elts kk tpos) (Itz2 S T) [z, TI, TO, i1, i2] z (fun i h => IsZip h z TI TO .none ∧ IsTupOf2 h TI (.ref i1) (.ref i2) ∧ (∃ x y, IsTupOf2 h TO x y) ∧ S.st i1 i h ∧ T.st i2 i h) where
  mem := by simp
  obj := fun i h st c hc => by
    obtain ⟨hz, hTI, ⟨x, y, hTO⟩, h1, h2⟩ := st
    have e' : c = z ∨ c = TI ∨ c = TO ∨ c = i1 ∨ c = i2 := by simpa using hc
    rcases e' with q | q | q | q | q
    · rw [q]; exact ⟨_, hz, fun v q => nomatch q⟩
    · rw [q]; exact ⟨_, hTI, fun v q => nomatch q⟩
    · rw [q]; exact ⟨_, hTO, fun v q => nomatch q⟩
    · rw [q]; exact (Src.st_obj h1)
    · rw [q]; exact (Src.st_obj h2)
  keep := fun i h h' st k => by
    obtain ⟨hz, hTI, ⟨x, y, hTO⟩, h1, h2⟩ := st
    exact ⟨k z (by simp) _ hz, k TI (by simp) _ hTI, ⟨x, y, k TO (by simp) _ hTO⟩, Src.st_at h1 fun o q => k i1 (by simp) o q, Src.st_at h2 fun o q => k i2 (by simp) o q⟩
  item := by
    intro X hP hw hK hc i pins s σ H E I hf st hg
    subst hP hw hK
    obtain ⟨hz, hTI, hTO, h1, h2⟩ := st
    obtain ⟨okS, okT, hi⟩ := hg
    have hh : X.A.in1.handled = none := I.ok.hd hc
    have n1 : H i1 = none := (hf i1 (by simp)).1
    have n2 : H i2 = none := (hf i2 (by simp)).1
    have nz : H z = none := (hf z (by simp)).1
    have nTO : H TO = none := (hf TO (by simp)).1
    have d' : (z ≠ TI ∧ z ≠ TO ∧ z ≠ i1 ∧ z ≠ i2) ∧ (TI ≠ TO ∧ TI ≠ i1 ∧ TI ≠ i2) ∧ (TO ≠ i1 ∧ TO ≠ i2) ∧ i1 ≠ i2 := by simpa using d
    obtain ⟨⟨a1, a2, a3, a4⟩, ⟨b1, b2, b3⟩, ⟨c1, c2⟩, e1⟩ := d'
    obtain ⟨P1, St1, D1, in1, out1, get1⟩ := src_draws (A := X.A.in1) I okS hh n1
    obtain ⟨P2, St2, D2, in2, out2, get2⟩ := src_draws (A := X.A.in1) I okT hh n2
    have sep : ZipSep2 z TI TO i1 i2 (S.fp i1) (T.fp i2) := ⟨Ne.symm a1, Ne.symm a2, b1, b2, Src.fp_mem, Src.fp_sep okS nz a3, Src.fp_sep okS nTO c1, b3, Src.fp_mem, Src.fp_sep okT nz a4, Src.fp_sep okT nTO c2, Src.fp_sep okT n1 e1, Src.fp_sep okS n2 (Ne.symm e1)⟩
    have G := GoesN.zip2 (elts := elts) (x1 := kk) (pos := tpos) sep D1 D2
    refine G.goes i s _ E hi ⟨hz, hTI, hTO, in1 i h1, in2 i h2⟩ fun v h' tk hY st' hk htk => ?_
    obtain ⟨Tn, u1, u2, rfl, hsz, p1, p2, hT⟩ := hY
    obtain ⟨x, gx, rx⟩ := get1 i u1 p1
    obtain ⟨y, gy, ry⟩ := get2 i u2 p2
    have new : ObjOk X.prog X.w (upd H Tn (.tup [x, y])) h' Tn (.tup [x, y]) := ⟨by show 2 ≤ sizeLine; decide, [u1, u2], .cons rx (.cons ry .nil), hT⟩
    have I1 : Inv X pins σ (upd H Tn (.tup [x, y])) { s with heap := h', toks := tk } := I.turnedNew (ch := [z, TO, i1, i2]) (fun b o hb q => hk b o hb q) (fun b hb => hf b (by
      have e' : b = z ∨ b = TO ∨ b = i1 ∨ b = i2 := by simpa using hb
      rcases e' with q | q | q | q <;> simp [q])) hsz new
    obtain ⟨hz', hTI', hTO', h1', h2'⟩ := st'
    refine ⟨.ref Tn, _, I1, rfl, ⟨Tn, x, y, rfl, I.hok.fresh hsz, rfl, gx, gy⟩, ⟨hz', hTI', hTO', out1 _ _ h1', out2 _ _ h2'⟩, fun c hcm => ?_⟩
    have hlt : c < s.heap.objs.size := by
      have e' : c = z ∨ c = TI ∨ c = TO ∨ c = i1 ∨ c = i2 := by simpa using hcm
      rcases e' with q | q | q | q | q
      · rw [q]; exact Heap.lt_size hz
      · rw [q]; exact Heap.lt_size hTI
      · rw [q]; obtain ⟨_, _, hTO⟩ := hTO; exact Heap.lt_size hTO
      · rw [q]; obtain ⟨_, e1, _⟩ := (Src.st_obj h1); exact Heap.lt_size e1
      · rw [q]; obtain ⟨_, e2, _⟩ := (Src.st_obj h2); exact Heap.lt_size e2
    rw [upd_ne (Nat.ne_of_lt (Nat.lt_of_lt_of_le hlt hsz))]
    exact (hf c hcm).1
  done := by
    intro X hP hw hK hc i pins s σ H E I hf st hg
    subst hP hw hK
    obtain ⟨hz, hTI, hTO, h1, h2⟩ := st
    obtain ⟨okS, okT, hi⟩ := hg
    have hh : X.A.in1.handled = none := I.ok.hd hc
    have n1 : H i1 = none := (hf i1 (by simp)).1
    have n2 : H i2 = none := (hf i2 (by simp)).1
    have nz : H z = none := (hf z (by simp)).1
    have nTO : H TO = none := (hf TO (by simp)).1
    have d' : (z ≠ TI ∧ z ≠ TO ∧ z ≠ i1 ∧ z ≠ i2) ∧ (TI ≠ TO ∧ TI ≠ i1 ∧ TI ≠ i2) ∧ (TO ≠ i1 ∧ TO ≠ i2) ∧ i1 ≠ i2 := by simpa using d
    obtain ⟨⟨a1, a2, a3, a4⟩, ⟨b1, b2, b3⟩, ⟨c1, c2⟩, e1⟩ := d'
    obtain ⟨P1, St1, D1, in1, out1, get1⟩ := src_draws (A := X.A.in1) I okS hh n1
    obtain ⟨P2, St2, D2, in2, out2, get2⟩ := src_draws (A := X.A.in1) I okT hh n2
    have sep : ZipSep2 z TI TO i1 i2 (S.fp i1) (T.fp i2) := ⟨Ne.symm a1, Ne.symm a2, b1, b2, Src.fp_mem, Src.fp_sep okS nz a3, Src.fp_sep okS nTO c1, b3, Src.fp_mem, Src.fp_sep okT nz a4, Src.fp_sep okT nTO c2, Src.fp_sep okT n1 e1, Src.fp_sep okS n2 (Ne.symm e1)⟩
    have G := GoesN.zip2 (elts := elts) (x1 := kk) (pos := tpos) sep D1 D2
    subst hi
    refine G.stops s (fun s1 => Inv X pins σ H s1) E ⟨hz, hTI, hTO, in1 _ h1, in2 _ h2⟩ fun h' tk hk htk => ?_
    exact I.turnedL (ch := [z, TO, i1, i2]) (fun b o hb q => hk b o hb q) (fun b hb => hf b (by
      have e' : b = z ∨ b = TO ∨ b = i1 ∨ b = i2 := by simpa using hb
      rcases e' with q | q | q | q <;> simp [q]))
  self := fun A i s Q E st h => wpAny_pyIter_zip st.1 h
def SrcOf (x : V) (H : Hp) (mk : Tok → Src) : Prop := match x with
  | .ref a => (∃ xs, H a = some (.lst xs) ∧ ∀ t, mk t = .lst a xs) ∨ ∃ xs, H a = some (.tup xs) ∧ ∀ t, mk t = .tup a xs
  | .str z => ∀ t, mk t = .str z t
  | _ => False
def Src.o0 (S : Src) : Obj := match S with
  | .lst a _ => { cls := .type "list_iterator", data := .fields #[.ref a, .int 0 0] }
  | .tup a _ => { cls := .type "tuple_iterator", data := .fields #[.ref a, .int 0 0] }
  | .str z t => { cls := .type (strIterType z), data := .fields #[.str z t, .int 0 0] }
theorem Src.st0 {S : Src} {it : Addr} {h : Heap} (e : h.get? it = some S.o0) : S.st it 0 h := by
  cases S with
  | lst a xs => exact ⟨_, e, rfl, rfl⟩
  | tup a xs => exact ⟨_, e, rfl, rfl⟩
  | str z t => exact ⟨_, e, rfl, rfl⟩
theorem src_begins {X : Cx} {pins : List (Addr × Obj)} {σ : L2.St} {H : Hp} {s : Shared} {S : Src} (I : Inv X pins σ H s) (ok : S.ok H) : ∃ HH : Heap → Prop, Begins S.arg S.o0 HH ∧ HH s.heap := by
  cases S with
  | lst a xs =>
    obtain ⟨its, rv, pl, _⟩ := I.list (.of ok)
    exact ⟨_, begins_list a its.toArray, pl.isList⟩
  | tup a xs =>
    obtain ⟨its, rv, pl, _⟩ := I.tuple (.of ok)
    exact ⟨_, begins_tuple a its.toArray, pl⟩
  | str z t => exact ⟨_, begins_text z t, trivial⟩
theorem srcOf_ok {x : V} {H : Hp} {mk : Tok → Src} {u : Value} (h : SrcOf x H mk) (r : RelV x u) : ∃ t, (mk t).ok H ∧ (mk t).arg = u ∧ (∀ t', (mk t').ok H) ∧ (∀ t', (mk t').len = (mk t).len) ∧ ∀ t' i, (mk t').get i = (mk t).get i := by
  cases x with
  | ref a =>
    cases r
    rcases h with ⟨xs, h1, h2⟩ | ⟨xs, h1, h2⟩
    · exact ⟨0, by rw [h2]; exact h1, by rw [h2]; rfl, fun t' => by rw [h2]; exact h1, fun t' => by rw [h2, h2], fun t' i => by rw [h2, h2]⟩
    · exact ⟨0, by rw [h2]; exact h1, by rw [h2]; rfl, fun t' => by rw [h2]; exact h1, fun t' => by rw [h2, h2], fun t' i => by rw [h2, h2]⟩
  | str z =>
    obtain ⟨t, rfl⟩ := r
    have h' : ∀ t, mk t = .str z t := h
    exact ⟨t, by rw [h']; trivial, by rw [h']; rfl, fun t' => by rw [h']; trivial, fun t' => by rw [h', h']; rfl, fun t' i => by rw [h', h']; rfl⟩
  | _ => exact h.elim
def iZip2 (ta : TA) : TI := fun σ H R => ta σ H fun vs H1 => ∃ x y mk mk', vs = [x, y] ∧ SrcOf x H1 mk ∧ SrcOf y H1 mk' ∧ ∀ t t', R (Itz2 (mk t) (mk' t')) H1
theorem pi_zip2 {X : Cx} {e e2 : Expr} {ta : TA} {p pos tpos : Pos} {elts : List Expr} {kk : Nat} (hg : Gl X "zip") (hm : X.mg "zip" = none) (ha : PA X [e, e2] ta)
    (hs : starEach [e, e2] X.env = (false, eval e X.env) :: starEach [e2] X.env := by rfl) (hpl : (backTo pos (starEach [e2] X.env)).any (·.1) = false := by rfl) :
    PI X (.Tuple elts kk tpos) (.Call (.Name "zip" p) [e, e2] [] pos) (iZip2 ta) := by
  refine ⟨fun pins s σ H R I h => ?_⟩
  refine Call_ (ld_blt I hg hm PyProof.Rows.boot_zip (PyProof.Rows.callWith_type1 (thn (ha.run pos pins s σ H _ I h) fun us s1 ⟨vs, H1, I1, r1, q1⟩ => ?_) hs hpl))
  obtain ⟨x, y, mk, mk', ex, s1', s2', q⟩ := q1
  subst ex
  obtain ⟨u1, u2, rfl, rx, ry⟩ := vals2 r1
  obtain ⟨t, ok1, e1, _⟩ := srcOf_ok s1' rx
  obtain ⟨t', ok2, e2', _⟩ := srcOf_ok s2' ry
  obtain ⟨HH1, B1, b1⟩ := src_begins I1 ok1
  obtain ⟨HH2, B2, b2⟩ := src_begins I1 ok2
  rw [e1] at B1
  rw [e2'] at B2
  refine zip_begins2 B1 B2 b1 b2 fun h' hz hTI hTO h1 h2 hsz hk => wpAny_pyIter_zip hz ?_
  have I2 : Inv X pins σ H1 { s1 with heap := h' } := I1.kept (t' := s1.toks) hk
  have fresh5 : ∀ c, c ∈ [s1.heap.objs.size + 4, s1.heap.objs.size + 2, s1.heap.objs.size + 3, s1.heap.objs.size, s1.heap.objs.size + 1] → FpOk X pins H1 c := fun c hcm => by
    have e' : c = s1.heap.objs.size + 4 ∨ c = s1.heap.objs.size + 2 ∨ c = s1.heap.objs.size + 3 ∨ c = s1.heap.objs.size ∨ c = s1.heap.objs.size + 1 := by simpa using hcm
    have hle : s1.heap.objs.size ≤ c := by
      rcases e' with z | z | z | z | z
      · rw [z]; exact Nat.le_add_right _ _
      · rw [z]; exact Nat.le_add_right _ _
      · rw [z]; exact Nat.le_add_right _ _
      · rw [z]; exact Nat.le_refl _
      · rw [z]; exact Nat.le_add_right _ _
    exact I1.fpOk hle (I1.hok.fresh hle)
  refine ⟨s1.heap.objs.size + 4, [s1.heap.objs.size + 4, s1.heap.objs.size + 2, s1.heap.objs.size + 3, s1.heap.objs.size, s1.heap.objs.size + 1], _, _, H1, rfl, I2, turn_zip2 ?_, ⟨hz, hTI, ⟨_, _, hTO⟩, Src.st0 h1, Src.st0 h2⟩, fresh5, q t t'⟩
  generalize s1.heap.objs.size = n
  show ([(n + 4 : Nat), n + 2, n + 3, n, n + 1] : List Nat).Nodup
  simp
set_option maxHeartbeats 1000000 in
theorem meets_enumerate_newB1 {v : Value} {o : Obj} {H : Heap → Prop} (B : Begins v o H) :
    Meets (Builtin.«enumerate.__new__» ⟨[.type "enumerate", v], []⟩) (fun _ R s => H s.heap ∧
      R (.ok (.ret (.ref (s.heap.push o).objs.size))) { s with heap := (s.heap.push o).push { cls := .type "enumerate", data := .fields #[.none, .bool false, .ref s.heap.objs.size, rawInt 0, .none, .none] } }) :=
  .of_wp fun prog w A R s h => by
    obtain ⟨hp, g, d, tk, os⟩ := s; obtain ⟨h1, h⟩ := h
    have hsub := sub_enumerate
    have q1 : ∀ {A' : Around} {E : Value → Shared → Prop} {Q : Value → Shared → Prop}, Q (.ref hp.objs.size) ⟨hp.push o, g, d, tk, os⟩ → wpAny (model prog w) A' (pyIter v) Q E ⟨hp, g, d, tk, os⟩ :=
      fun q => B.iter prog w _ _ ⟨hp, g, d, tk, os⟩ _ h1 q
    wp_walk using q1
    refine wpAny_stack_any fun st => wpAny_pure ?_
    split
    · rename_i c _ _ _ _ _
      cases (c == Value.type "enumerate")
      · wp_walk using q1
        exact ⟨_, rfl, h⟩
      · wp_walk using q1
        exact ⟨_, rfl, h⟩
    · wp_walk using q1
      exact ⟨_, rfl, h⟩
theorem enum_begins1 {prog : Program} {w : World} {A : Around} {E : Value → Shared → Prop} {s : Shared} {v : Value} {o : Obj} {H : Heap → Prop} {Q : Value → Shared → Prop} (B : Begins v o H) (h1 : H s.heap)
    (h : ∀ h', IsEnum h' (s.heap.objs.size + 1) s.heap.objs.size 0 .none → h'.get? s.heap.objs.size = some o → h'.objs.size = s.heap.objs.size + 2 →
      (∀ b o, s.heap.get? b = some o → h'.get? b = some o) → Q (.ref (s.heap.objs.size + 1)) { s with heap := h' }) :
    wpAny (model prog w) A (call (.type "enumerate") [v]) Q E s := by
  refine callType_new F.called_enumerate (by decide) (F.typeCall_enumerate_1 _) (F.newCall_enumerate_1 _) (fun obj => F.args_object_init_2 obj _) F.entry_enumerate_new
    (meets_enumerate_newB1 B) ⟨h1, ?_⟩
  have hz : (s.heap.push o).objs.size = s.heap.objs.size + 1 := Heap.size_push ..
  show _ ∧ _
  rw [hz]
  have he : IsEnum ((s.heap.push o).push { cls := .type "enumerate", data := .fields #[.none, .bool false, .ref s.heap.objs.size, rawInt 0, .none, .none] }) (s.heap.objs.size + 1) s.heap.objs.size 0 .none := by
    have := Heap.get?_push_size (s.heap.push o) (o := { cls := .type "enumerate", data := .fields #[.none, .bool false, .ref s.heap.objs.size, rawInt 0, .none, .none] }) rfl
    rw [hz] at this; exact this
  refine ⟨⟨_, he, rfl⟩, h _ he (Heap.get?_push_of_some _ (Heap.get?_push_size _ B.free)) (by rw [Heap.size_push, hz]) fun b o x => Heap.get?_push_of_some _ (Heap.get?_push_of_some _ x)⟩
def Ite1 (S : Src) : It :=
  ⟨fun i H => S.ok H ∧ i < S.len, fun i H v H' => ∃ a x, v = .ref a ∧ H a = none ∧ H' = upd H a (.tup [.int (i : Nat), x]) ∧ S.get i = some x, fun i H => S.ok H ∧ i = S.len⟩
theorem turn_enum1 {P : Program} {w : World} {K : PySem.W.Frag} {elts : List Expr} {kk : Nat} {tpos : Pos} {S : Src} {e it : Addr} (d : e ≠ it) :
    Turn P w K (.Tuple elts kk tpos) (Ite1 S) [e, it] e (fun i h => (∃ old, IsEnum h e it (0 + ((i : Nat) : Int)) old) ∧ S.st it i h) where
  mem := by simp
  obj := fun i h st c hc => by
    obtain ⟨⟨old, he⟩, h1⟩ := st
    have e' : c = e ∨ c = it := by simpa using hc
    rcases e' with q | q
    · rw [q]; exact ⟨_, he, fun v q => nomatch q⟩
    · rw [q]; exact (Src.st_obj h1)
  keep := fun i h h' st k => by
    obtain ⟨⟨old, he⟩, h1⟩ := st
    exact ⟨⟨old, k e (by simp) _ he⟩, Src.st_at h1 fun o q => k it (by simp) o q⟩
  item := by
    intro X hP hw hK hc i pins s σ H E I hf st hg
    subst hP hw hK
    obtain ⟨he, h1⟩ := st
    obtain ⟨okS, hi⟩ := hg
    have hh : X.A.in1.handled = none := I.ok.hd hc
    have n1 : H it = none := (hf it (by simp)).1
    have ne : H e = none := (hf e (by simp)).1
    obtain ⟨P1, St1, D1, in1, out1, get1⟩ := src_draws (A := X.A.in1) I okS hh n1
    have G := GoesN.enumFrom (elts := elts) (x1 := kk) (pos := tpos) 0 D1 e d (Src.fp_sep okS ne d) Src.fp_mem
    refine G.goes i s _ E hi ⟨he, in1 i h1⟩ fun v h' tk hY st' hk htk => ?_
    obtain ⟨Tn, t, u, rfl, hsz, p1, hT⟩ := hY
    obtain ⟨x, gx, rx⟩ := get1 i u p1
    have e0 : (0 : Int) + (i : Int) = (i : Int) := by omega
    rw [e0] at hT
    have new : ObjOk X.prog X.w (upd H Tn (.tup [.int (i : Nat), x])) h' Tn (.tup [.int (i : Nat), x]) := ⟨by show 2 ≤ sizeLine; decide, [.int i t, u], .cons ⟨_, rfl⟩ (.cons rx .nil), hT⟩
    have I1 : Inv X pins σ (upd H Tn (.tup [.int (i : Nat), x])) { s with heap := h', toks := tk } := I.turnedNew (ch := [e, it]) (fun b o hb q => hk b o hb q) hf hsz new
    refine ⟨.ref Tn, _, I1, rfl, ⟨Tn, x, rfl, I.hok.fresh hsz, rfl, gx⟩, ⟨st'.1, out1 _ _ st'.2⟩, fun c hcm => ?_⟩
    have hlt : c < s.heap.objs.size := by
      have e' : c = e ∨ c = it := by simpa using hcm
      rcases e' with q | q
      · rw [q]; obtain ⟨_, he⟩ := he; exact Heap.lt_size he
      · rw [q]; obtain ⟨_, e1, _⟩ := (Src.st_obj h1); exact Heap.lt_size e1
    rw [upd_ne (Nat.ne_of_lt (Nat.lt_of_lt_of_le hlt hsz))]
    exact (hf c hcm).1
  done := by
    intro X hP hw hK hc i pins s σ H E I hf st hg
    subst hP hw hK
    obtain ⟨he, h1⟩ := st
    obtain ⟨okS, hi⟩ := hg
    have hh : X.A.in1.handled = none := I.ok.hd hc
    have n1 : H it = none := (hf it (by simp)).1
    have ne : H e = none := (hf e (by simp)).1
    obtain ⟨P1, St1, D1, in1, out1, get1⟩ := src_draws (A := X.A.in1) I okS hh n1
    have G := GoesN.enumFrom (elts := elts) (x1 := kk) (pos := tpos) 0 D1 e d (Src.fp_sep okS ne d) Src.fp_mem
    subst hi
    exact G.stops s (fun s1 => Inv X pins σ H s1) E ⟨he, in1 _ h1⟩ fun h' tk hk htk => I.turnedL (ch := [e, it]) (fun b o hb q => hk b o hb q) hf
  self := fun A i s Q E st h => let ⟨⟨_, he⟩, _⟩ := st; wpAny_pyIter_enum he h
def iEnum1 (ta : TA) : TI := fun σ H R => ta σ H fun vs H1 => ∃ x mk, vs = [x] ∧ SrcOf x H1 mk ∧ ∀ t, R (Ite1 (mk t)) H1
theorem pi_enum1 {X : Cx} {e : Expr} {ta : TA} {p pos tpos : Pos} {elts : List Expr} {kk : Nat} (hg : Gl X "enumerate") (hm : X.mg "enumerate" = none) (ha : PA X [e] ta) (hs : starEach [e] X.env = [(false, eval e X.env)] := by rfl) :
    PI X (.Tuple elts kk tpos) (.Call (.Name "enumerate" p) [e] [] pos) (iEnum1 ta) := by
  refine ⟨fun pins s σ H R I h => ?_⟩
  refine Call_ (ld_blt I hg hm boot_enumerate (PyProof.Rows.callWith_type1 (thn (ha.run pos pins s σ H _ I h) fun us s1 ⟨vs, H1, I1, r1, q1⟩ => ?_) hs rfl))
  obtain ⟨x, mk, ex, s1', q⟩ := q1
  subst ex
  obtain ⟨u, rfl, rx⟩ := vals1 r1
  obtain ⟨t, ok1, e1, _⟩ := srcOf_ok s1' rx
  obtain ⟨HH1, B1, b1⟩ := src_begins I1 ok1
  rw [e1] at B1
  refine enum_begins1 B1 b1 fun h' he h1 hsz hk => wpAny_pyIter_enum he ?_
  have I2 : Inv X pins σ H1 { s1 with heap := h' } := I1.kept (t' := s1.toks) hk
  refine ⟨s1.heap.objs.size + 1, [s1.heap.objs.size + 1, s1.heap.objs.size], _, _, H1, rfl, I2, turn_enum1 (Nat.succ_ne_self _), ⟨⟨.none, by simpa using he⟩, Src.st0 h1⟩, fun b hb => ?_, q t⟩
  have e' : b = s1.heap.objs.size + 1 ∨ b = s1.heap.objs.size := by simpa using hb
  have hle : s1.heap.objs.size ≤ b := by
    rcases e' with z | z
    · rw [z]; exact Nat.le_add_right _ _
    · rw [z]; exact Nat.le_refl _
  exact I1.fpOk hle (I1.hok.fresh hle)
end PL
set_option Elab.async false
set_option linter.all false
set_option maxRecDepth 100000
set_option maxHeartbeats 2000000
namespace PL
open PySem PySem.Spec PyProof.Rows L2
structure WalkD (p : Par) (G1 : Hp) (J : It) (ds : List D) : Prop where
  goes : ∀ i H G, Same G1 G → Same G H → i < ds.length → J.go i H
  stops : ∀ H G, Same G1 G → Same G H → J.stop ds.length H
  yields : ∀ i H x H' G, Same G1 G → Same G H → i < ds.length → J.yld i H x H' → ∃ G' d, ds[i]? = some d ∧ Grow G H G' H' ∧ Rep p G' x d
def rdI (p : Par) (W : WX) (O : List Nat) (f : Env → Res (List D)) : TI := fun σ H R => ∃ Z, Rel p O Z σ H ∧ post p W σ Z.G H (f Z.ρ) fun ds G' H' => ∀ J, WalkD p G' J ds → R J H'
def itemsD : D → Res (List D)
  | .lst ds => .ok ds
  | .tup ds => .ok ds
  | .scr ns => .ok (ns.map D.int)
  | .str z => .ok (z.map fun c => .str [c])
  | .dct es => .ok (es.map fun e => .int e.1)
  | _ => .bad
section
variable {X : Cx} {p : Par} {W : WX} {O : List Nat} {pos : Pos} {tg e e1 e2 e3 : Expr} {es : List Expr} {fa fb fc : Env → Res D} {ft fu : Env → Res Bool} {fs : Env → Res (List D)}
theorem walkD_list {K : PySem.W.Frag} {G : Hp} {a : Addr} {xs : List V} {ds : List D} (h : G a = some (.lst xs)) (rs : Reps p G xs ds) : WalkD p G (Itl K a) ds where
  goes := fun i H G' s b hi => ⟨xs, xs[i]'(by rw [rs.length]; exact hi), .of (b _ _ (s _ _ h)), by simp [rs.length, hi]⟩
  stops := fun H G' s b => ⟨xs, .of (b _ _ (s _ _ h)), by rw [rs.length]; exact Nat.le_refl _⟩
  yields := fun i H x H' G' s b hi y => by
    obtain ⟨rfl, y⟩ := y
    obtain ⟨d, h1, h2⟩ := rs.get' (y xs (.of (b _ _ (s _ _ h))))
    exact ⟨G', d, h1, .refl b, h2.mono s⟩
theorem walkD_tup {K : PySem.W.Frag} {G : Hp} {a : Addr} {xs : List V} {ds : List D} (h : G a = some (.tup xs)) (rs : Reps p G xs ds) : WalkD p G (Itt K a) ds where
  goes := fun i H G' s b hi => ⟨xs, xs[i]'(by rw [rs.length]; exact hi), .of (b _ _ (s _ _ h)), by simp [rs.length, hi]⟩
  stops := fun H G' s b => ⟨xs, .of (b _ _ (s _ _ h)), by rw [rs.length]; exact Nat.le_refl _⟩
  yields := fun i H x H' G' s b hi y => by
    obtain ⟨rfl, y⟩ := y
    obtain ⟨d, h1, h2⟩ := rs.get' (y xs (.of (b _ _ (s _ _ h))))
    exact ⟨G', d, h1, .refl b, h2.mono s⟩
theorem walkD_scr {G : Hp} {a : Addr} {ns : List Int} (h : SqL p.K G a (ns.map V.int)) : WalkD p G (Itl p.K a) (ns.map D.int) where
  goes := fun i H G' s b hi => by
    have hi' : i < ns.length := by simpa using hi
    exact ⟨_, .int ns[i], b.seq (s.seq h), by simp [hi']⟩
  stops := fun H G' s b => ⟨_, b.seq (s.seq h), by simp⟩
  yields := fun i H x H' G' s b hi y => by
    obtain ⟨rfl, y⟩ := y
    have hi' : i < ns.length := by simpa using hi
    have := y _ (b.seq (s.seq h))
    rw [List.getElem?_map, List.getElem?_eq_getElem hi'] at this
    cases this
    exact ⟨G', .int ns[i], by simp [hi'], .refl b, .int _⟩
theorem walkD_str {G : Hp} {z : List Nat} : WalkD p G (Its ⟨z.toArray⟩) (z.map fun c => .str [c]) where
  goes := fun i H G' s b hi => by
    show i < z.toArray.size
    simpa using hi
  stops := fun H G' s b => by
    show z.toArray.size ≤ _
    simp
  yields := fun i H x H' G' s b hi y => by
    obtain ⟨rfl, c, hc, rfl⟩ := y
    have hc' : z[i]? = some c := by simpa using hc
    exact ⟨G', .str [c], by rw [List.getElem?_map, hc']; rfl, .refl b, .str [c]⟩
theorem dkv_get {G : Hp} {es : List (Int × D)} {vs : List V} (rs : Reps p G vs (es.map (·.2))) {i : Nat} {kv : Key × V} (h : (dkv es vs)[i]? = some kv) : ∃ e, es[i]? = some e ∧ kv.1 = Sum.inl e.1 ∧ Rep p G kv.2 e.2 := by
  unfold dkv at h
  rw [List.getElem?_zip_eq_some] at h
  obtain ⟨h1, h2⟩ := h
  rw [List.getElem?_map] at h1
  cases he : es[i]? with
  | none => rw [he] at h1; cases h1
  | some e =>
    rw [he] at h1
    obtain ⟨d, h3, h4⟩ := rs.get' h2
    rw [List.getElem?_map, he] at h3
    cases h3
    exact ⟨e, rfl, (Option.some.inj h1).symm, h4⟩
theorem walkD_keys {G : Hp} {a : Addr} {od : Obj} {es : List (Int × D)} {vs : List V} (h : G a = some (.frz od (.dK (dkv es vs)))) (rs : Reps p G vs (es.map (·.2))) : WalkD p G (Itk a od (dkv es vs)) (es.map fun e => .int e.1) where
  goes := fun i H G' s b hi => ⟨b _ _ (s _ _ h), by rw [dkv_length rs]; simpa using hi⟩
  stops := fun H G' s b => ⟨b _ _ (s _ _ h), by rw [dkv_length rs]; simp⟩
  yields := fun i H x H' G' s b hi y => by
    obtain ⟨rfl, k, v, hk, rfl⟩ := y
    obtain ⟨e, h1, h2, _⟩ := dkv_get rs hk
    have h2' : k = Sum.inl e.1 := h2
    subst h2'
    exact ⟨G', .int e.1, by rw [List.getElem?_map, h1]; rfl, .refl b, .int _⟩
theorem walkD_vals {G : Hp} {a : Addr} {od : Obj} {es : List (Int × D)} {vs : List V} (h : G a = some (.frz od (.dK (dkv es vs)))) (rs : Reps p G vs (es.map (·.2))) : WalkD p G (Itd a od (dkv es vs)) (es.map (·.2)) where
  goes := fun i H G' s b hi => ⟨b _ _ (s _ _ h), by rw [dkv_length rs]; simpa using hi⟩
  stops := fun H G' s b => ⟨b _ _ (s _ _ h), by rw [dkv_length rs]; simp⟩
  yields := fun i H x H' G' s b hi y => by
    obtain ⟨rfl, k, hk⟩ := y
    obtain ⟨e, h1, _, h3⟩ := dkv_get rs hk
    exact ⟨G', e.2, by rw [List.getElem?_map, h1]; rfl, .refl b, h3.mono s⟩
theorem walkD_items {G : Hp} {a : Addr} {od : Obj} {es : List (Int × D)} {vs : List V} (h : G a = some (.frz od (.dK (dkv es vs)))) (rs : Reps p G vs (es.map (·.2))) : WalkD p G (Iti a od (dkv es vs)) (es.map fun e => .tup [.int e.1, e.2]) where
  goes := fun i H G' s b hi => ⟨b _ _ (s _ _ h), by rw [dkv_length rs]; simpa using hi⟩
  stops := fun H G' s b => ⟨b _ _ (s _ _ h), by rw [dkv_length rs]; simp⟩
  yields := fun i H x H' G' s b hi y => by
    obtain ⟨T, k, v, hk, rfl, hT, rfl⟩ := y
    obtain ⟨e, h1, h2, h3⟩ := dkv_get rs hk
    have h2' : k = Sum.inl e.1 := h2
    subst h2'
    have h3' : Rep p G v e.2 := h3
    refine ⟨upd G' T (.tup [.int e.1, v]), .tup [.int e.1, e.2], by rw [List.getElem?_map, h1]; rfl, Grow.alloc b hT, .tup upd_same (.cons (.int _) (.cons ?_ .nil))⟩
    exact (h3'.mono s).mono (same_upd (free_G b hT))
theorem walkD_range {G : Hp} {lo : Int} {n : Nat} : WalkD p G (Itr lo n) ((List.range n).map fun i => .int (lo + (i : Nat))) where
  goes := fun i H G' s b hi => by show i < n; simpa using hi
  stops := fun H G' s b => by show n ≤ _; simp
  yields := fun i H x H' G' s b hi y => by
    obtain ⟨rfl, rfl⟩ := y
    have hi' : i < n := by simpa using hi
    exact ⟨G', .int (lo + (i : Nat)), by simp [hi'], .refl b, .int _⟩
theorem walkD_rangeC {G : Hp} {lo c : Int} {n : Nat} : WalkD p G (Itc lo c n) ((List.range n).map fun i => .int (lo + (i : Nat) * c)) where
  goes := fun i H G' s b hi => by show i < n; simpa using hi
  stops := fun H G' s b => by show n ≤ _; simp
  yields := fun i H x H' G' s b hi y => by
    obtain ⟨rfl, rfl⟩ := y
    have hi' : i < n := by simpa using hi
    exact ⟨G', .int (lo + (i : Nat) * c), by simp [hi'], .refl b, .int _⟩
theorem walkD_mono {G G1 : Hp} {J : It} {ds : List D} (w : WalkD p G J ds) (s : Same G G1) : WalkD p G1 J ds :=
  ⟨fun i H G' s' => w.goes i H G' (s.trans s'), fun H G' s' => w.stops H G' (s.trans s'), fun i H x H' G' s' => w.yields i H x H' G' (s.trans s')⟩
theorem ri_seq (hK : X.K = p.K) (he : PE X e (rdE p W O fa)) : PI X tg e (rdI p W O fun ρ => (fa ρ).bind itemsD) := by
  refine ⟨fun pins s σ H R I ⟨Z, r, q⟩ => ?_⟩
  dsimp only at q
  cases hf : fa Z.ρ with
  | exc c =>
    refine (pi_list he).run pins s σ H R I ⟨Z, r, ?_⟩
    rw [hf] at q ⊢
    exact q
  | bad => rw [hf] at q; exact q.elim
  | ok d =>
    have q0 := q
    rw [hf] at q
    cases d with
    | lst ds =>
      refine (pi_list he).run pins s σ H R I ⟨Z, r, ?_⟩
      rw [hf]
      intro G' H' g v rv
      cases rv with
      | lst h rs => exact ⟨_, rfl, ⟨_, .of (g.below _ _ h)⟩, q G' H' g _ (walkD_list h rs)⟩
    | tup ds =>
      refine (pi_tup he).run pins s σ H R I ⟨Z, r, ?_⟩
      rw [hf]
      intro G' H' g v rv
      cases rv with
      | tup h rs => exact ⟨_, rfl, ⟨_, .of (g.below _ _ h)⟩, q G' H' g _ (walkD_tup h rs)⟩
    | scr ns =>
      refine (pi_list he).run pins s σ H R I ⟨Z, r, ?_⟩
      rw [hf]
      intro G' H' g v rv
      cases rv with
      | scr h => exact ⟨_, rfl, ⟨_, by rw [hK]; exact g.below.seq h⟩, by rw [hK]; exact q G' H' g _ (walkD_scr h)⟩
    | str z =>
      refine (pi_str he).run pins s σ H R I ⟨Z, r, ?_⟩
      rw [hf]
      intro G' H' g v rv
      cases rv
      exact ⟨_, rfl, q G' H' g _ walkD_str⟩
    | dct es =>
      refine (pi_keys he).run pins s σ H R I ⟨Z, r, ?_⟩
      rw [hf]
      intro G' H' g v rv
      cases rv with
      | dct h rs => exact ⟨_, _, rfl, .inl ⟨_, g.below _ _ h, q G' H' g _ (walkD_keys h rs)⟩⟩
    | non => exact q.elim
    | bl b => exact q.elim
    | int i => exact q.elim
    | ins c ds => exact q.elim
def itemsOf : D → Res (List D)
  | .dct es => .ok (es.map fun e => .tup [.int e.1, e.2])
  | _ => .bad
def valsOf : D → Res (List D)
  | .dct es => .ok (es.map (·.2))
  | _ => .bad
theorem ri_items {elts : List Expr} {kk : Nat} {tpos apos cpos : Pos} (he : PE X e (rdE p W O fa)) (hbase : attributeBase e "items" X.env (eval e X.env) = eval e X.env := by rfl) (hline : (apos.endLine == cpos.line) = true := by rfl) :
    PI X (.Tuple elts kk tpos) (.Call (.Attribute e "items" apos) [] [] cpos) (rdI p W O fun ρ => (fa ρ).bind itemsOf) := by
  refine ⟨fun pins s σ H R I ⟨Z, r, q⟩ => (pi_items he hbase hline).run pins s σ H R I ⟨Z, r, post_imp (post_bind q) fun d G' H' g q1 v rv => ?_⟩⟩
  unfold itemsOf at q1
  split at q1
  · cases rv with
    | dct h rs => exact ⟨_, _, _, rfl, g.below _ _ h, post_ok g.below q1 _ (walkD_items h rs)⟩
  · exact q1.elim
theorem ri_vals {apos cpos : Pos} (he : PE X e (rdE p W O fa)) (hbase : attributeBase e "values" X.env (eval e X.env) = eval e X.env := by rfl) (hline : (apos.endLine == cpos.line) = true := by rfl) :
    PI X tg (.Call (.Attribute e "values" apos) [] [] cpos) (rdI p W O fun ρ => (fa ρ).bind valsOf) := by
  refine ⟨fun pins s σ H R I ⟨Z, r, q⟩ => (pi_values he hbase hline).run pins s σ H R I ⟨Z, r, post_imp (post_bind q) fun d G' H' g q1 v rv => ?_⟩⟩
  unfold valsOf at q1
  split at q1
  · cases rv with
    | dct h rs => exact ⟨_, _, _, rfl, g.below _ _ h, post_ok g.below q1 _ (walkD_vals h rs)⟩
  · exact q1.elim
def rng1 : List D → Res (List D)
  | [.int j] => if j.natAbs < 4000000000000000000 then .ok ((List.range j.toNat).map fun i => .int (0 + (i : Nat))) else .bad
  | _ => .bad
def rng2 : List D → Res (List D)
  | [.int i, .int j] => if i.natAbs < 4000000000000000000 ∧ j.natAbs < 4000000000000000000 then .ok ((List.range (j - i).toNat).map fun k => .int (i + (k : Nat))) else .bad
  | _ => .bad
def rng3 : List D → Res (List D)
  | [.int i, .int j, .int c] => if i.natAbs < 4000000000000000000 ∧ j.natAbs < 4000000000000000000 ∧ c = -1 then .ok ((List.range (i - j).toNat).map fun k => .int (i + (k : Nat) * (-1))) else .bad
  | _ => .bad
theorem ri_rng1 {a : Expr} {p' : Pos} (hg : Gl X "range") (hm : X.mg "range" = none) (ha : PA X [a] (rdA p W O fs)) (hs : starEach [a] X.env = [(false, eval a X.env)] := by rfl) : PI X tg (.Call (.Name "range" p') [a] [] pos) (rdI p W O fun ρ => (fs ρ).bind rng1) := by
  refine ⟨fun pins s σ H R I ⟨Z, r, q⟩ => (pi_range1 hg hm ha hs).run pins s σ H R I ⟨Z, r, post_imp (post_bind q) fun ds G' H' g q1 vs rs => ?_⟩⟩
  unfold rng1 at q1
  split at q1
  · split at q1
    · rename_i j hj
      cases rs with
      | cons r1 r2 =>
        cases r1
        cases r2
        exact ⟨j, rfl, by omega, by omega, post_ok g.below q1 _ walkD_range⟩
    · exact q1.elim
  · exact q1.elim
theorem ri_rng2 {a b : Expr} {p' : Pos} (hg : Gl X "range") (hm : X.mg "range" = none) (ha : PA X [a, b] (rdA p W O fs)) (hs : starEach [a, b] X.env = [(false, eval a X.env), (false, eval b X.env)] := by rfl) (hs2 : starEach [b] X.env = [(false, eval b X.env)] := by rfl) :
    PI X tg (.Call (.Name "range" p') [a, b] [] pos) (rdI p W O fun ρ => (fs ρ).bind rng2) := by
  refine ⟨fun pins s σ H R I ⟨Z, r, q⟩ => (pi_range2 hg hm ha hs hs2).run pins s σ H R I ⟨Z, r, post_imp (post_bind q) fun ds G' H' g q1 vs rs => ?_⟩⟩
  unfold rng2 at q1
  split at q1
  · split at q1
    · rename_i i j hj
      cases rs with
      | cons r1 r2 =>
        cases r2 with
        | cons r2 r3 =>
          cases r1
          cases r2
          cases r3
          exact ⟨i, j, rfl, ⟨by omega, by omega, by omega, by omega⟩, post_ok g.below q1 _ walkD_range⟩
    · exact q1.elim
  · exact q1.elim
theorem ri_rng3 {a b c : Expr} {p' : Pos} (hpi : PI X tg (.Call (.Name "range" p') [a, b, c] [] pos) (iRng3 (rdA p W O fs))) :
    PI X tg (.Call (.Name "range" p') [a, b, c] [] pos) (rdI p W O fun ρ => (fs ρ).bind rng3) := by
  refine ⟨fun pins s σ H R I ⟨Z, r, q⟩ => hpi.run pins s σ H R I ⟨Z, r, post_imp (post_bind q) fun ds G' H' g q1 vs rs => ?_⟩⟩
  unfold rng3 at q1
  split at q1
  · split at q1
    · rename_i i j c hj
      obtain ⟨h1', h2', rfl⟩ := hj
      have h1 : -(2 ^ 62) ≤ i := by omega
      have h2 : i < 2 ^ 62 := by omega
      have h3 : -(2 ^ 62) ≤ j := by omega
      have h4 : j < 2 ^ 62 := by omega
      cases rs with
      | cons r1 r2 =>
        cases r2 with
        | cons r2 r3 =>
          cases r3 with
          | cons r3 r4 =>
            cases r1
            cases r2
            cases r3
            cases r4
            exact ⟨i, j, -1, _, rfl, RgC.neg h1 h2 h3 h4, post_ok g.below q1 _ walkD_rangeC⟩
    · exact q1.elim
  · exact q1.elim
def zipItems : D → Res (List D)
  | .lst ds => .ok ds
  | .tup ds => .ok ds
  | .str z => .ok (z.map fun c => .str [c])
  | _ => .bad
theorem src_of {G H : Hp} {v : V} {d : D} {ds : List D} (b : Same G H) (r : Rep p G v d) (h : zipItems d = .ok ds) :
    ∃ mk, SrcOf v H mk ∧ ∀ t, (mk t).len = ds.length ∧ (∀ H' G', Same G G' → Same G' H' → (mk t).ok H') ∧ ∀ i x, (mk t).get i = some x → ∃ d, ds[i]? = some d ∧ Rep p G x d := by
  unfold zipItems at h
  split at h
  · cases h
    cases r with
    | lst h rs => exact ⟨fun _ => .lst _ _, .inl ⟨_, b _ _ h, fun _ => rfl⟩, fun t => ⟨rs.length, fun H' G' s b' => b' _ _ (s _ _ h), fun i x hx => rs.get' hx⟩⟩
  · cases h
    cases r with
    | tup h rs => exact ⟨fun _ => .tup _ _, .inr ⟨_, b _ _ h, fun _ => rfl⟩, fun t => ⟨rs.length, fun H' G' s b' => b' _ _ (s _ _ h), fun i x hx => rs.get' hx⟩⟩
  · rename_i z
    cases h
    cases r
    refine ⟨fun t => .str ⟨z.toArray⟩ t, fun t => rfl, fun t => ⟨by simp [Src.len], fun _ _ _ _ => trivial, fun i x hx => ?_⟩⟩
    have hx' : (z.toArray[i]?).map (fun c => V.str ⟨#[c]⟩) = some x := hx
    have e : z.toArray[i]? = z[i]? := by simp
    rw [e] at hx'
    cases hz : z[i]? with
    | none => rw [hz] at hx'; cases hx'
    | some c =>
      rw [hz] at hx'
      cases hx'
      exact ⟨.str [c], by rw [List.getElem?_map, hz]; rfl, .str [c]⟩
  · cases h
def zipD : List D → Res (List D)
  | [a, b] => (zipItems a).bind fun xs => (zipItems b).bind fun ys => .ok ((xs.zip ys).map fun e => .tup [e.1, e.2])
  | _ => .bad
theorem ri_zip {elts : List Expr} {kk : Nat} {tpos p' : Pos} (hg : Gl X "zip") (hm : X.mg "zip" = none) (ha : PA X [e, e2] (rdA p W O fs))
    (hs : starEach [e, e2] X.env = (false, eval e X.env) :: starEach [e2] X.env := by rfl) (hpl : (backTo pos (starEach [e2] X.env)).any (·.1) = false := by rfl) :
    PI X (.Tuple elts kk tpos) (.Call (.Name "zip" p') [e, e2] [] pos) (rdI p W O fun ρ => (fs ρ).bind zipD) := by
  refine ⟨fun pins s σ H R I ⟨Z, r, q⟩ => (pi_zip2 hg hm ha hs hpl).run pins s σ H R I ⟨Z, r, post_imp (post_bind q) fun ds G' H' g q1 vs rs => ?_⟩⟩
  unfold zipD at q1
  split at q1
  · rename_i a b
    cases ha : zipItems a with
    | exc c => unfold zipItems at ha; split at ha <;> cases ha
    | bad => rw [ha] at q1; exact q1.elim
    | ok xs =>
      cases hb : zipItems b with
      | exc c => unfold zipItems at hb; split at hb <;> cases hb
      | bad => rw [ha, hb] at q1; exact q1.elim
      | ok ys =>
        rw [ha, hb] at q1
        cases rs with
        | cons r1 r2 =>
          cases r2 with
          | cons r2 r3 =>
            cases r3
            obtain ⟨mk, s1, w1⟩ := src_of g.below r1 ha
            obtain ⟨mk', s2, w2⟩ := src_of g.below r2 hb
            refine ⟨_, _, mk, mk', rfl, s1, s2, fun t t' => post_ok g.below q1 _ ⟨fun i H1 G1 s b hi => ⟨(w1 t).2.1 H1 G1 s b, (w2 t').2.1 H1 G1 s b, ?_⟩, fun H1 G1 s b => ⟨(w1 t).2.1 H1 G1 s b, (w2 t').2.1 H1 G1 s b, ?_⟩, fun i H1 x H2 G1 s b hi y => ?_⟩⟩
            · rw [(w1 t).1, (w2 t').1]
              simpa using hi
            · rw [(w1 t).1, (w2 t').1]
              simp
            · obtain ⟨T, u, w, rfl, hT, rfl, gu, gw⟩ := y
              obtain ⟨d1, e1, q1⟩ := (w1 t).2.2 i u gu
              obtain ⟨d2, e2, q2⟩ := (w2 t').2.2 i w gw
              refine ⟨upd G1 T (.tup [u, w]), .tup [d1, d2], ?_, Grow.alloc b hT, .tup upd_same ?_⟩
              · have hz : (xs.zip ys)[i]? = some (d1, d2) := List.getElem?_zip_eq_some.mpr ⟨e1, e2⟩
                rw [List.getElem?_map, hz]
                rfl
              · have sm : Same G' (upd G1 T (.tup [u, w])) := s.trans (same_upd (free_G b hT))
                exact .cons (q1.mono sm) (.cons (q2.mono sm) .nil)
  · exact q1.elim
def enumD : List D → Res (List D)
  | [a] => (zipItems a).bind fun xs => .ok ((List.range xs.length).zip xs |>.map fun e => .tup [.int (e.1 : Nat), e.2])
  | _ => .bad
theorem ri_enum {elts : List Expr} {kk : Nat} {tpos p' : Pos} (hg : Gl X "enumerate") (hm : X.mg "enumerate" = none) (ha : PA X [e] (rdA p W O fs)) (hs : starEach [e] X.env = [(false, eval e X.env)] := by rfl) :
    PI X (.Tuple elts kk tpos) (.Call (.Name "enumerate" p') [e] [] pos) (rdI p W O fun ρ => (fs ρ).bind enumD) := by
  refine ⟨fun pins s σ H R I ⟨Z, r, q⟩ => (pi_enum1 hg hm ha hs).run pins s σ H R I ⟨Z, r, post_imp (post_bind q) fun ds G' H' g q1 vs rs => ?_⟩⟩
  unfold enumD at q1
  split at q1
  · rename_i a
    cases ha : zipItems a with
    | exc c => unfold zipItems at ha; split at ha <;> cases ha
    | bad => rw [ha] at q1; exact q1.elim
    | ok xs =>
      rw [ha] at q1
      cases rs with
      | cons r1 r2 =>
        cases r2
        obtain ⟨mk, s1, w1⟩ := src_of g.below r1 ha
        refine ⟨_, mk, rfl, s1, fun t => post_ok g.below q1 _ ⟨fun i H1 G1 s b hi => ⟨(w1 t).2.1 H1 G1 s b, ?_⟩, fun H1 G1 s b => ⟨(w1 t).2.1 H1 G1 s b, ?_⟩, fun i H1 x H2 G1 s b hi y => ?_⟩⟩
        · rw [(w1 t).1]
          simpa using hi
        · rw [(w1 t).1]
          simp
        · obtain ⟨T, u, rfl, hT, rfl, gu⟩ := y
          obtain ⟨d1, e1, q1⟩ := (w1 t).2.2 i u gu
          have hi' : i < xs.length := (List.getElem?_eq_some_iff.mp e1).1
          refine ⟨upd G1 T (.tup [.int (i : Nat), u]), .tup [.int (i : Nat), d1], ?_, Grow.alloc b hT, .tup upd_same ?_⟩
          · have hz : ((List.range xs.length).zip xs)[i]? = some (i, d1) := List.getElem?_zip_eq_some.mpr ⟨by simp [hi'], e1⟩
            rw [List.getElem?_map, hz]
            rfl
          · have sm : Same G' (upd G1 T (.tup [.int (i : Nat), u])) := s.trans (same_upd (free_G b hT))
            exact .cons (.int _) (.cons (q1.mono sm) .nil)
  · exact q1.elim
end
def gtN (i : Nat) : D → Env → Res Env := fun d ρ => .ok (ρ.set i (some d))
def setAll : List Nat → List D → Env → Env
  | i :: is, d :: ds, ρ => setAll is ds (ρ.set i (some d))
  | _, _, ρ => ρ
def gtT (is : List Nat) : D → Env → Res Env := fun d ρ => match d with
  | .tup ds => if ds.length = is.length then .ok (setAll is ds ρ) else .bad
  | _ => .bad
def remAll : List Nat → List Nat → List Nat
  | [], O => O
  | i :: is, O => remAll is (remO i O)
def OffBy (is : List Nat) (σ σ' : L2.St) : Prop := σ'.length = σ.length ∧ ∀ j, j ∉ is → σ'[j]? = σ[j]?
def GtP (p : Par) (is : List Nat) (t : TG) (g : D → Env → Res Env) : Prop :=
  ∀ (O : List Nat) (Z : Gh) (σ : L2.St) (H : Hp) (v : V) (d : D) (ρ' : Env) (Q : L2.St → Hp → Prop), Rel p O Z σ H → Rep p Z.G v d → g d Z.ρ = .ok ρ' → (∀ σ', Rel p (remAll is O) { Z with ρ := ρ' } σ' H → OffBy is σ σ' → Q σ' H) → t v σ H Q
section
variable {X : Cx} {p : Par} {pos : Pos}
theorem gt_name {i : Nat} : GtP p [i] (gName i) (gtN i) :=
  fun O Z σ H v d ρ' Q r rv e k => by
    cases e
    refine k _ (r.set rv) ⟨by simp, fun j hj => ?_⟩
    have hne : i ≠ j := fun e => hj (by simp [e])
    rw [List.getElem?_set_ne hne]
def namesG : List Nat → TGs
  | [] => gNil
  | i :: is => gCons (gName i) (namesG is)
theorem names_ok {Q : L2.St → Hp → Prop} {H : Hp} : ∀ (is : List Nat) (O : List Nat) (Z : Gh) (σ : L2.St) (vs : List V) (ds : List D), Rel p O Z σ H → Reps p Z.G vs ds → ds.length = is.length → (∀ σ', Rel p (remAll is O) { Z with ρ := setAll is ds Z.ρ } σ' H → OffBy is σ σ' → Q σ' H) → namesG is vs σ H Q
  | [], O, Z, σ, vs, ds, r, rs, hl, k => by
    cases rs with
    | nil => exact ⟨rfl, k σ r ⟨rfl, fun _ _ => rfl⟩⟩
    | cons _ _ => simp at hl
  | i :: is, O, Z, σ, vs, ds, r, rs, hl, k => by
    cases rs with
    | nil => simp at hl
    | cons r1 r2 =>
      refine ⟨_, _, rfl, ?_⟩
      refine names_ok is (remO i O) { Z with ρ := Z.ρ.set i (some _) } _ _ _ (r.set r1) r2 (by simpa using hl) fun σ' r' o => k σ' r' ⟨by rw [o.1]; simp, fun j hj => ?_⟩
      rw [o.2 j (fun h => hj (List.mem_cons_of_mem _ h)), List.getElem?_set_ne (fun e => hj (by simp [e]))]
theorem gt_tup {K : PySem.W.Frag} {is : List Nat} {n : Nat} (hn : is.length = n) : GtP p is (gTup K n (namesG is)) (gtT is) :=
  fun O Z σ H v d ρ' Q r rv e k => by
    unfold gtT at e
    split at e
    · split at e
      · rename_i ds hl
        cases e
        cases rv with
        | tup g rs =>
          exact ⟨_, _, rfl, .of (r.below _ _ g), by rw [rs.length, hl, hn], names_ok is O Z σ _ ds r rs hl k⟩
      · cases e
    · cases e
end
def forL (g : D → Env → Res Env) (b : Env → Out) : List D → Env → Out
  | [], ρ => .next ρ
  | d :: ds, ρ => match g d ρ with
    | .ok ρ1 => (match b ρ1 with
      | .next ρ2 => forL g b ds ρ2
      | .ret d => .ret d
      | .exc c => .exc c
      | .bad => .bad)
    | .exc c => .bad
    | .bad => .bad
def sFor (it : Env → Res (List D)) (g : D → Env → Res Env) (b : Env → Out) : Env → Out := fun ρ => match it ρ with
  | .ok ds => forL g b ds ρ
  | .exc c => .exc c
  | .bad => .bad
def subO (O O1 : List Nat) : Bool := O.all fun i => O1.contains i
section
variable {X : Cx} {p : Par} {W : WX} {O : List Nat} {pos : Pos} {tg iter : Expr} {body : List Stmt} {fi : Env → Res (List D)} {g : D → Env → Res Env} {b : Env → Out} {is : List Nat}
theorem q_for {t : TG} (hp : PassesOwn (model X.prog X.w) X.A X.env X.xe) (hc : X.calm = true) (hi : PI X tg iter (rdI p W O fi)) (hg : PG X tg t) (hgp : GtP p is t g) (hb : PSs X body (rdS p W (remAll is O) O b))
    (hs : ∀ x, foldedSetIterable iter X.env x = pure x := by intro _; rfl) : PS X (.For tg iter body [] pos) (rdS p W O O (sFor fi g b)) :=
  ps_w (ps_for hp hc hi hg hb hs) fun Dd σ H ⟨Z, r, q⟩ => ⟨Z, r, by
    unfold sFor at q
    revert q
    cases fi Z.ρ with
    | exc c => exact fun q H' s => q H' σ (r.frame.trans s)
    | bad => exact fun q => q
    | ok ds =>
      intro q G1 H1 g1 J w
      refine ⟨fun i m σ' H' => m = ds.length - i ∧ i ≤ ds.length ∧ ∃ Z', Rel p O Z' σ' H' ∧ Same G1 Z'.G ∧ postS p W O Z' (forL g b (ds.drop i) Z'.ρ) Dd, ⟨ds.length, by simp, Nat.zero_le _, Z.up G1, r.grow g1, .refl _, by rw [List.drop_zero]; exact postS_mono g1.sub q⟩, ?_⟩
      rintro i m σ' H' ⟨rfl, hi, Z', r', s', q'⟩
      by_cases hlt : i < ds.length
      · refine .inr ⟨w.goes i H' Z'.G s' r'.below hlt, fun σ2 H2 => i + 1 ≤ ds.length ∧ ∃ Z', Rel p O Z' σ2 H2 ∧ Same G1 Z'.G ∧ postS p W O Z' (forL g b (ds.drop (i + 1)) Z'.ρ) Dd, fun σ2 H2 h2 => ⟨ds.length - (i + 1), by omega, rfl, h2.1, h2.2⟩, fun x H2 y => ?_⟩
        obtain ⟨G2, d, hd, g2, rx⟩ := w.yields i H' x H2 Z'.G s' r'.below hlt y
        have hds : ds.drop i = d :: ds.drop (i + 1) := by
          obtain ⟨h1, h2⟩ := List.getElem?_eq_some_iff.mp hd
          rw [← h2]
          exact List.drop_eq_getElem_cons h1
        rw [hds] at q'
        unfold forL at q'
        cases hgt : g d Z'.ρ with
        | exc c => rw [hgt] at q'; exact q'.elim
        | bad => rw [hgt] at q'; exact q'.elim
        | ok ρ1 =>
          rw [hgt] at q'
          dsimp only at q'
          refine hgp O (Z'.up G2) σ' H2 x d ρ1 _ (r'.grow g2) rx hgt fun σ3 r3 _ => ⟨_, r3, ?_⟩
          revert q'
          show _ → postS p W O ⟨ρ1, G2, Z'.H0, Z'.G0⟩ (b ρ1) _
          cases b ρ1 with
          | next ρ2 =>
            intro q' G3 H3 σ4 s3 r4
            exact ⟨hlt, _, r4, (s'.trans g2.sub).trans s3, postS_mono (Z := Z') (g2.sub.trans s3) q'⟩
          | ret d => exact fun q' => postS_mono g2.sub q'
          | exc c => exact fun q' => q'
          | bad => exact fun q' => q'
      · have e : i = ds.length := by omega
        subst e
        rw [List.drop_length] at q'
        exact .inl ⟨w.stops H' Z'.G s' r'.below, q' _ _ _ (.refl _) r'⟩⟩
def whL (t : Env → Res Bool) (b : Env → Out) : Nat → Env → Out
  | 0, _ => .bad
  | n + 1, ρ => match t ρ with
    | .ok true => (match b ρ with
      | .next ρ2 => whL t b n ρ2
      | .ret d => .ret d
      | .exc c => .exc c
      | .bad => .bad)
    | .ok false => .next ρ
    | .exc c => .exc c
    | .bad => .bad
theorem q_while {c : Expr} {ft : Env → Res Bool} (n : Nat) (hp : PassesOwn (model X.prog X.w) X.A X.env X.xe) (hc : PT X c (rdT p W O ft)) (hb : PSs X body (rdS p W O O b)) : PS X (.While c body [] pos) (rdS p W O O (whL ft b n)) :=
  ps_w (ps_while hp hc hb) fun Dd σ H ⟨Z, r, q⟩ => by
    refine ⟨fun m σ' H' => ∃ Z', Rel p O Z' σ' H' ∧ postS p W O Z' (whL ft b m Z'.ρ) Dd, ⟨n, Z, r, q⟩, ?_⟩
    rintro m σ' H' ⟨Z', r', q'⟩
    refine ⟨Z', r', ?_⟩
    cases m with
    | zero => exact q'.elim
    | succ m =>
      unfold whL at q'
      revert q'
      cases ft Z'.ρ with
      | exc c => exact fun q H' s => q H' σ' (r'.frame.trans s)
      | bad => exact fun q => q
      | ok k =>
        cases k with
        | false =>
          intro q' G2 H2 g2
          exact iteF (q' G2 H2 σ' g2.sub (r'.grow g2))
        | true =>
          intro q' G2 H2 g2
          refine iteT ⟨fun σ2 H2 => ∃ Z', Rel p O Z' σ2 H2 ∧ postS p W O Z' (whL ft b m Z'.ρ) Dd, fun σ2 H2 h2 => ⟨m, Nat.lt_succ_self m, h2⟩, Z'.up G2, r'.grow g2, ?_⟩
          revert q'
          show _ → postS p W O ⟨Z'.ρ, G2, Z'.H0, Z'.G0⟩ (b Z'.ρ) _
          cases b Z'.ρ with
          | next ρ2 => exact fun q' G3 H3 σ3 s3 r3 => ⟨_, r3, postS_mono (Z := Z') (g2.sub.trans s3) q'⟩
          | ret d => exact fun q' => postS_mono g2.sub q'
          | exc c => exact fun q' => q'
          | bad => exact fun q' => q'
end
end PL
set_option Elab.async false
set_option linter.all false
set_option maxRecDepth 100000
set_option maxHeartbeats 2000000
namespace PL
open PySem PySem.Spec PyProof.Rows L2
def noX {α : Type} : Res α → Res α
  | .ok a => .ok a
  | _ => .bad
def wipeE : List Nat → Env → Env
  | [], ρ => ρ
  | v :: vs, ρ => (wipeE vs ρ).set v none
def compL (g : D → Env → Res Env) (c : Env → Res Bool) (e : Env → Res D) (ρ : Env) : List D → Res (List D)
  | [] => .ok []
  | d :: ds => (noX (g d ρ)).bind fun ρ1 => (noX (c ρ1)).bind fun k => if k = true then (noX (e ρ1)).bind fun x => (compL g c e ρ ds).bind fun xs => .ok (x :: xs) else compL g c e ρ ds
def eComp (it : Env → Res (List D)) (g : D → Env → Res Env) (c : Env → Res Bool) (e : Env → Res D) (vs : List Nat) : Env → Res D := fun ρ => (it ρ).bind fun ds => (compL g c e (wipeE vs ρ) ds).bind fun xs => lstD xs
def tTrue : Env → Res Bool := fun _ => .ok true
abbrev W0 : WX := fun _ _ _ _ => False
theorem pts_true {X : Cx} {p : Par} {O : List Nat} : PTs X [] (rdT p W0 O tTrue) := ⟨fun pins s σ H Q I ⟨Z, r, q⟩ => pts_nil.run pins s σ H Q I (post_ok r.below q)⟩
theorem wipeE_length (ρ : Env) : ∀ vs : List Nat, (wipeE vs ρ).length = ρ.length
  | [] => rfl
  | v :: vs => by unfold wipeE; rw [List.length_set, wipeE_length ρ vs]
theorem wipeE_get (ρ : Env) (j : Nat) : ∀ vs : List Nat, j ∉ vs → (wipeE vs ρ)[j]? = ρ[j]?
  | [], _ => rfl
  | v :: vs, h => by
    unfold wipeE
    rw [List.getElem?_set_ne (fun e => h (by simp [e])), wipeE_get ρ j vs (fun e => h (List.mem_cons_of_mem _ e))]
theorem wipeE_in (ρ : Env) (j : Nat) : ∀ vs : List Nat, j ∈ vs → ∀ d, (wipeE vs ρ)[j]? ≠ some (some d)
  | [], h, _ => by simp at h
  | v :: vs, h, d => by
    unfold wipeE
    by_cases e : v = j
    · subst e
      intro q
      by_cases hl : v < (wipeE vs ρ).length
      · rw [List.getElem?_set_self hl] at q; cases q
      · rw [List.getElem?_eq_none (by simpa using hl)] at q; cases q
    · rw [List.getElem?_set_ne e]
      exact wipeE_in ρ j vs (by rcases List.mem_cons.mp h with h | h; exact absurd h.symm e; exact h) d
theorem wipe_get (σ : L2.St) (j : Nat) : ∀ vs : List Nat, j ∉ vs → (wipe σ vs)[j]? = σ[j]?
  | [], _ => rfl
  | v :: vs, h => by
    unfold wipe
    rw [List.getElem?_set_ne (fun e => h (by simp [e])), wipe_get σ j vs (fun e => h (List.mem_cons_of_mem _ e))]
theorem wipe_in (σ : L2.St) (j : Nat) (hj : j < σ.length) : ∀ vs : List Nat, j ∈ vs → (wipe σ vs)[j]? = some none
  | [], h => by simp at h
  | v :: vs, h => by
    unfold wipe
    by_cases e : v = j
    · subst e
      rw [List.getElem?_set_self (by rw [wipe_length]; exact hj)]
    · rw [List.getElem?_set_ne e]
      exact wipe_in σ j hj vs (by rcases List.mem_cons.mp h with h | h; exact absurd h.symm e; exact h)
theorem wipe_off {σ σ' : L2.St} {is vs : List Nat} (h : OffBy is (wipe σ vs) σ') (hs : ∀ i ∈ is, i ∈ vs) : wipe σ' vs = wipe σ vs := by
  have hl : σ'.length = σ.length := by rw [h.1, wipe_length]
  refine List.ext_getElem? fun j => ?_
  by_cases hj : j ∈ vs
  · by_cases hlt : j < σ.length
    · rw [wipe_in σ j hlt vs hj, wipe_in σ' j (by omega) vs hj]
    · rw [List.getElem?_eq_none (by rw [wipe_length]; omega), List.getElem?_eq_none (by rw [wipe_length]; omega)]
  · rw [wipe_get σ j vs hj, wipe_get σ' j vs hj, h.2 j (fun e => hj (hs j e)), wipe_get σ j vs hj]
theorem Rel.wiped {p : Par} {O : List Nat} {Z : Gh} {σ : L2.St} {H : Hp} (r : Rel p O Z σ H) (vs : List Nat) : Rel p O { Z with ρ := wipeE vs Z.ρ } (wipe σ vs) H := by
  have back : ∀ (j : Nat) (d : D), (wipeE vs Z.ρ)[j]? = some (some d) → j ∉ vs ∧ Z.ρ[j]? = some (some d) := fun j d h => by
    by_cases hj : j ∈ vs
    · exact absurd h (wipeE_in _ _ _ hj d)
    · rw [wipeE_get _ _ _ hj] at h; exact ⟨hj, h⟩
  refine ⟨r.below, r.frame, r.fixed, r.sub, by rw [wipe_length, wipeE_length]; exact r.len, fun j d h => ?_, fun i j a d e h1 h2 h3 h4 h5 h6 => ?_⟩
  · obtain ⟨hj, h'⟩ := back j d h
    obtain ⟨v, h1, h2⟩ := r.slots j d h'
    exact ⟨v, by rw [wipe_get _ _ _ hj]; exact h1, h2⟩
  · obtain ⟨hi, h3'⟩ := back i d h3
    obtain ⟨hj, h4'⟩ := back j e h4
    rw [wipe_get _ _ _ hi] at h5
    rw [wipe_get _ _ _ hj] at h6
    exact r.apart i j a d e h1 h2 h3' h4' h5 h6
section
variable {X : Cx} {p : Par} {W : WX} {O : List Nat} {pos : Pos} {fi : Env → Res (List D)} {g : D → Env → Res Env} {is : List Nat} {fe : Env → Res D} {fc : Env → Res Bool}
theorem noX_bind {α β : Type} {r : Res α} {f : α → Res β} {x : β} (h : (noX r).bind f = .ok x) : ∃ a, r = .ok a ∧ f a = .ok x := by
  cases r with
  | ok a => exact ⟨a, rfl, h⟩
  | exc c => cases h
  | bad => cases h
theorem bind_inv {α β : Type} {r : Res α} {f : α → Res β} {x : β} (h : r.bind f = .ok x) : ∃ a, r = .ok a ∧ f a = .ok x := by
  cases r with
  | ok a => exact ⟨a, rfl, h⟩
  | exc c => cases h
  | bad => cases h
theorem noX_exc {α : Type} {r : Res α} {c : Nat} : noX r ≠ .exc c := by cases r <;> exact fun h => nomatch h
theorem compL_exc {ρ : Env} : ∀ (ds : List D) (c : Nat), compL g fc fe ρ ds ≠ .exc c
  | [], c => fun h => nomatch h
  | d :: ds, c => by
    unfold compL
    intro h
    cases h1 : noX (g d ρ) with
    | exc c => exact noX_exc h1
    | bad => rw [h1] at h; cases h
    | ok ρ1 =>
      rw [h1, bind_ok] at h
      cases h2 : noX (fc ρ1) with
      | exc c => exact noX_exc h2
      | bad => rw [h2] at h; cases h
      | ok k =>
        rw [h2, bind_ok] at h
        cases k with
        | false =>
          rw [if_neg Bool.false_ne_true] at h
          exact compL_exc ds c h
        | true =>
          rw [if_pos rfl] at h
          cases h3 : noX (fe ρ1) with
          | exc c => exact noX_exc h3
          | bad => rw [h3] at h; cases h
          | ok x =>
            rw [h3, bind_ok] at h
            cases h4 : compL g fc fe ρ ds with
            | exc c => exact compL_exc ds c h4
            | bad => rw [h4] at h; cases h
            | ok xs => rw [h4] at h; cases h
theorem compL_len {ρ : Env} : ∀ (ds : List D) (xs : List D), compL g fc fe ρ ds = .ok xs → xs.length ≤ ds.length
  | [], xs, h => by cases h; exact Nat.le_refl _
  | d :: ds, xs, h => by
    unfold compL at h
    obtain ⟨ρ1, _, h⟩ := noX_bind h
    obtain ⟨k, _, h⟩ := noX_bind h
    split at h
    · obtain ⟨x, _, h⟩ := noX_bind h
      obtain ⟨ys, h1, h⟩ := bind_inv h
      cases h
      have := compL_len ds ys h1
      simp only [List.length_cons]
      omega
    · have := compL_len ds xs h
      simp only [List.length_cons]
      omega
theorem rd_lc {vs : List Nat} {t : TG} (hgp : GtP p is t g) (hs : ∀ i ∈ is, i ∈ vs) {σ : L2.St} {H : Hp} {Q : VK} (h : rdF p W O (eComp fi g fc fe vs) σ H Q) : tLc (rdI p W O fi) t (rdT p W0 (remAll is O) fc) (rdE p W0 (remAll is O) fe) vs σ H Q := by
  obtain ⟨Z, r, q⟩ := h
  refine ⟨Z, r, post_imp (post_bind q) fun ds G1 H1 g1 q1 J w D hD => ?_⟩
  have r1 := r.grow g1
  have rw1 := r1.wiped vs
  cases hx : compL g fc fe (wipeE vs Z.ρ) ds with
  | exc c => exact absurd hx (compL_exc ds c)
  | bad => rw [hx] at q1; exact q1.elim
  | ok xs =>
    rw [hx, bind_ok] at q1
    unfold lstD at q1
    split at q1
    · rename_i hlim
      refine ⟨fun i m H2 => m = ds.length - i ∧ i ≤ ds.length ∧ ∃ G2 acc das rest, Grow G1 H1 G2 H2 ∧ G2 D = none ∧ H2 D = some (.lst acc) ∧ Reps p G2 acc das ∧ compL g fc fe (wipeE vs Z.ρ) (ds.drop i) = .ok rest ∧ das ++ rest = xs, ⟨ds.length, by simp, Nat.zero_le _, G1, [], [], xs, Grow.allocO g1.below hD, free_G g1.below hD, upd_same, .nil, by rw [List.drop_zero]; exact hx, rfl⟩, ?_⟩
      rintro i m H2 ⟨rfl, hi, G2, acc, das, rest, g2, hG2, hH2, rs, hrest, happ⟩
      by_cases hlt : i < ds.length
      · refine .inr ⟨w.goes i H2 G2 g2.sub g2.below hlt, fun H3 => i + 1 ≤ ds.length ∧ ∃ G2 acc das rest, Grow G1 H1 G2 H3 ∧ G2 D = none ∧ H3 D = some (.lst acc) ∧ Reps p G2 acc das ∧ compL g fc fe (wipeE vs Z.ρ) (ds.drop (i + 1)) = .ok rest ∧ das ++ rest = xs, fun H3 h3 => ⟨ds.length - (i + 1), by omega, rfl, h3.1, h3.2⟩, fun x H3 y => ?_⟩
        obtain ⟨G3, d, hd, g3, rx⟩ := w.yields i H2 x H3 G2 g2.sub g2.below hlt y
        have hds : ds.drop i = d :: ds.drop (i + 1) := by
          obtain ⟨h1, h2⟩ := List.getElem?_eq_some_iff.mp hd
          rw [← h2]
          exact List.drop_eq_getElem_cons h1
        rw [hds] at hrest
        unfold compL at hrest
        obtain ⟨ρ1, hgt, hrest⟩ := noX_bind hrest
        obtain ⟨k, hk, hrest⟩ := noX_bind hrest
        have r3 := (rw1.grow g2).grow g3
        refine hgp O _ (wipe σ vs) H3 x d ρ1 _ r3 rx hgt fun σ4 r4 off => ⟨wipe_off off hs, _, r4, ?_⟩
        show post p W0 σ4 G3 H3 (fc ρ1) _
        rw [hk]
        intro G4 H4 g4
        cases k with
        | false =>
          rw [if_neg Bool.false_ne_true] at hrest
          refine iteF ⟨hlt, G4, acc, das, rest, (g2.trans g3).trans g4, ?_, g4.same _ _ (g3.same _ _ hH2), (rs.mono g3.sub).mono g4.sub, hrest, happ⟩
          rw [g4.new D (by rw [g3.same _ _ hH2]; exact fun e => nomatch e), g3.new D (by rw [hH2]; exact fun e => nomatch e)]
          exact hG2
        | true =>
          rw [if_pos rfl] at hrest
          obtain ⟨z, hz, hrest⟩ := noX_bind hrest
          obtain ⟨zs, hzs, hrest⟩ := bind_inv hrest
          cases hrest
          refine iteT ⟨_, r4.grow g4, ?_⟩
          show post p W0 σ4 G4 H4 (fe ρ1) _
          rw [hz]
          intro G5 H5 g5 v rv
          have gg := ((g2.trans g3).trans g4).trans g5
          have hD5 : H5 D = some (.lst acc) := g5.same _ _ (g4.same _ _ (g3.same _ _ hH2))
          have hG5 : G5 D = none := by
            rw [g5.new D (by rw [g4.same _ _ (g3.same _ _ hH2)]; exact fun e => nomatch e), g4.new D (by rw [g3.same _ _ hH2]; exact fun e => nomatch e), g3.new D (by rw [hH2]; exact fun e => nomatch e)]
            exact hG2
          have rs5 := (((rs.mono g3.sub).mono g4.sub).mono g5.sub).append (.cons rv .nil)
          have hlen : das.length < sizeLine := by
            refine lim_line' ?_
            have := congrArg List.length happ
            simp only [List.length_append, List.length_cons] at this
            omega
          refine ⟨acc, hD5, by rw [rs.length]; exact hlen, hlt, G5, acc ++ [v], das ++ [z], zs, ⟨fun b o hb => ?_, gg.sub, gg.new, fun b o hb => ?_⟩, hG5, upd_same, rs5, hzs, by rw [List.append_assoc]; exact happ⟩
          · rw [upd_ne (ne_of_none hb hD)]
            exact gg.same _ _ hb
          · rw [upd_ne (ne_of_none hb hG5)]
            exact g5.below _ _ hb
      · have e : i = ds.length := by omega
        subst e
        rw [List.drop_length] at hrest
        cases hrest
        rw [List.append_nil] at happ
        subst happ
        refine .inl ⟨w.stops H2 G2 g2.sub g2.below, ?_⟩
        -- the heap without the new list
        refine q1 G2 (fun c => if c = D then none else H2 c) ⟨fun b o hb => ?_, g2.sub, g2.new, fun b o hb => ?_⟩ D H2 ⟨fun b o hb => ?_, .refl _, fun _ _ => rfl, g2.below⟩ (if_pos rfl) (.inl ⟨acc, das, rfl, hH2, rs⟩)
        · exact (if_neg (ne_of_none hb hD)).trans (g2.same _ _ hb)
        · exact (if_neg (ne_of_none hb hG2)).trans (g2.below _ _ hb)
        · by_cases hb2 : b = D
          · have hb' : (if b = D then none else H2 b) = some o := hb
            rw [if_pos hb2] at hb'; cases hb'
          · have hb' : (if b = D then none else H2 b) = some o := hb
            rw [if_neg hb2] at hb'; exact hb'
    · exact q1.elim
theorem r_lc {elt tg iter : Expr} {ifs : List Expr} {scope : Scope} {own : List (Str × Nat)} {t : TG} (hc : X.calm = true) (hN : X.N.Nodup) (hi : PI X tg iter (rdI p W O fi)) (ok : BlkOk X.N X.env.scope scope own)
    (hg : ∀ (s : Shared) (H : Hp) (C : Addr) (cl : List (Str × Addr)) (fp : List Addr), PG (X.blk s H scope (compEnvC scope cl C X.env) fp) tg t) (hgp : GtP p is t g) (hsub : ∀ i ∈ is, i ∈ own.map (·.2))
    (ht : ∀ (s : Shared) (H : Hp) (C : Addr) (cl : List (Str × Addr)) (fp : List Addr), PTs (X.blk s H scope (compEnvC scope cl C X.env) fp) ifs (rdT p W0 (remAll is O) fc))
    (he : ∀ (s : Shared) (H : Hp) (C : Addr) (cl : List (Str × Addr)) (fp : List Addr), PE (X.blk s H scope (compEnvC scope cl C X.env) fp) elt (rdE p W0 (remAll is O) fe)) (hs : ∀ x, foldedSetIterable iter X.env x = pure x := by intro _; rfl) :
    PE X (.ListComp elt [⟨tg, iter, ifs, 0⟩] scope pos) (rdF p W O (eComp fi g fc fe (own.map (·.2)))) :=
  pe_w (pe_lc hc hN hi ok hg ht he hs) fun σ H Q h => rd_lc hgp hsub h
theorem q_lcF {i : Nat} {y : Str} {py spos : Pos} {elt tg iter : Expr} {ifs : List Expr} {scope : Scope} {own : List (Str × Nat)} {t : TG} (hc : X.calm = true) (hN : X.N.Nodup) (hy : X.N[i]? = some y) (hyl : X.env.scope.names.lookup y = some .local)
    (hsw : swapsWith (.ListComp elt [⟨tg, iter, ifs, 0⟩] scope pos) (some (.Name y py)) spos.line X.env = pure true) (hi : PI X tg iter (rdI p W O fi)) (ok : BlkOk X.N X.env.scope scope own)
    (hg : ∀ (s : Shared) (H : Hp) (C : Addr) (cl : List (Str × Addr)) (fp : List Addr), PG (X.blk s H scope (compEnvC scope cl C X.env) fp) tg t) (hgp : GtP p is t g) (hsub : ∀ i ∈ is, i ∈ own.map (·.2))
    (ht : ∀ (s : Shared) (H : Hp) (C : Addr) (cl : List (Str × Addr)) (fp : List Addr), PTs (X.blk s H scope (compEnvC scope cl C X.env) fp) ifs (rdT p W0 (remAll is O) fc))
    (he : ∀ (s : Shared) (H : Hp) (C : Addr) (cl : List (Str × Addr)) (fp : List Addr), PE (X.blk s H scope (compEnvC scope cl C X.env) fp) elt (rdE p W0 (remAll is O) fe)) (hs : ∀ x, foldedSetIterable iter X.env x = pure x := by intro _; rfl) :
    PS X (.Assign [.Name y py] (.ListComp elt [⟨tg, iter, ifs, 0⟩] scope pos) spos) (rdS p W O (addO i O) (sSet i (eComp fi g fc fe (own.map (·.2))))) :=
  ps_w (ps_setLc hc hN hy hyl hsw hi ok hg ht he hs) fun Dd σ H ⟨Z, r, q⟩ => by
    have h : rdF p W O (eComp fi g fc fe (own.map (·.2))) σ H (fun x H1 => gName i x σ H1 Dd.nx) := ⟨Z, r, post_imp (post_out r q) fun d G' H' g q1 a H'' g2 hn ow => by
      have r2 := (r.grow g).grow g2
      have r1 := r.grow g
      refine q1 G' H'' _ (.refl _) (r2.setO (free_G g.below hn) (r1.frame.free hn) ow fun j e ho hj hd hs' => ?_)
      obtain ⟨v, h1, h2⟩ := r1.slots j e hd
      rw [hs'] at h1
      cases h1
      unfold Slot at h2
      rw [if_pos ho] at h2
      obtain ⟨b, eb, _, _, ob⟩ := h2
      cases eb
      exact ob.there hn⟩
    exact rd_lc hgp hsub h
end
end PL
set_option Elab.async false
set_option linter.all false
set_option maxRecDepth 100000
set_option maxHeartbeats 2000000
namespace PL
open PySem PySem.Spec PyProof.Rows L2
def runD (n m : Nat) (b : Env → Out) (ds : List D) : Res D :=
  if ds.length = n then (match b (ds.map some ++ List.replicate (m - n) none) with
    | .next _ => .ok .non
    | .ret d => .ok d
    | .exc c => .exc c
    | .bad => .bad) else .bad
theorem fn_ok {P : Program} {w : World} {p : Par} {mg : Str → Option Value} {base : Heap} {x qual : Str} {st : Stmt} {f : Addr} {fd : FuncData} {N ps : List Str} {k n m : Nat} {b : Env → Out} {O' : List Nat}
    (F : Fun p.K x qual st f fd) (S : FnScope N ps (defScope st)) (hn : ps.length = n) (hm : N.length = m)
    (hb : ∀ (cdv : Value) (A : Around) (outer : List PySem.Env) (s : Shared) (H : Hp) (E : XK), Room k (A.deeper (envOfC qual (defScope st) s.heap.objs.size f cdv)) →
      PSs (cxOf (L2.CX P w) P w p.K mg base N qual (defScope st) f cdv A outer s H E) (defBody st) (rdS p (fun cls d _ H' => E cls d H') [] O' b)) :
    FnOk P w p.K mg base (L2.CX P w) (k + 1) f fd ps (spD p (runD n m b)) := by
  subst hn hm
  refine F.okX S (fun vs H Q E h => ?_) (fun cdv A outer s H vs Q E hr h => ⟨_, hb cdv A outer s H E hr, ?_⟩)
  · obtain ⟨G, ds, _, rs, q⟩ := h
    unfold runD at q
    split at q
    · rename_i hl
      rw [rs.length, hl]
    · exact q.elim
  · obtain ⟨G, ds, bl, rs, q⟩ := h
    unfold runD at q
    split at q
    · rename_i hl
      have hvl := rs.length
      have hpl : ps.length ≤ N.length := by have := congrArg List.length S.pre; rw [List.length_take] at this; omega
      refine ⟨⟨ds.map some ++ List.replicate (N.length - ps.length) none, G, H, G⟩, ⟨bl, .refl H, fun _ _ => rfl, .refl G, ?_, fun i d hd => ?_, fun i j a d e h1 => ?_⟩, ?_⟩
      · unfold L2.start
        simp only [List.length_append, List.length_map, List.length_replicate]
        omega
      · have hi : i < ds.length := by
          by_cases hi : i < ds.length
          · exact hi
          · exfalso
            have hd' : (ds.map some ++ List.replicate (N.length - ps.length) none)[i]? = some (some d) := hd
            rw [List.getElem?_append_right (by simpa using hi), List.getElem?_replicate] at hd'
            split at hd' <;> cases hd'
        have hd' : (ds.map some ++ List.replicate (N.length - ps.length) none)[i]? = some (some d) := hd
        rw [List.getElem?_append_left (by simpa using hi), List.getElem?_map] at hd'
        cases hg : ds[i]? with
        | none => rw [hg] at hd'; cases hd'
        | some d0 =>
          rw [hg] at hd'
          cases hd'
          obtain ⟨v, h1, h2⟩ := rs.get hg
          refine ⟨v, ?_, ?_⟩
          · unfold L2.start
            rw [List.getElem?_append_left (by rw [List.length_map]; omega), List.getElem?_map, h1]
            rfl
          · unfold Slot
            rw [if_neg (by simp)]
            exact h2
      · simp at h1
      · revert q
        cases b (ds.map some ++ List.replicate (N.length - ps.length) none) with
        | next ρ' => exact fun q G' H' σ' s' r' => q G' H' ⟨r'.frame, r'.sub, r'.fixed, r'.below⟩ .non .non
        | ret d => exact fun q G' H' v s' f' rv => q G' H' ⟨f'.frame, f'.sub, f'.fixed, f'.below⟩ v rv
        | exc c => exact fun q H' σ' s' => q H' s'
        | bad => exact fun q => q
    · exact q.elim
section
variable {X : Cx} {p : Par} {W : WX} {O : List Nat} {pos : Pos} {e e1 e2 e3 : Expr} {es : List Expr} {fa fb fc : Env → Res D} {ft fu : Env → Res Bool} {fs : Env → Res (List D)}
def sPar2 (i j : Nat) (a b : Env → Res D) : Env → Out := fun ρ => ((a ρ).bind fun x => (b ρ).bind fun y => .ok ((ρ.set i (some x)).set j (some y))).env
theorem q_parEE {st : Stmt} {i j : Nat} (h : PS X st (tPar i j (tCons (rdE p W O fa) (tCons (rdE p W O fb) tNil)))) : PS X st (rdS p W O (remO j (remO i O)) (sPar2 i j fa fb)) :=
  ps_w h fun Dd σ H ⟨Z, r, q⟩ => ⟨Z, r, post_imp (post_out r q) fun dx G1 H1 g1 q1 x rx => ⟨Z.up G1, r.grow g1, post_imp (post_out (r.grow g1) q1) fun dy G2 H2 g2 q2 y ry =>
    ⟨x, y, rfl, q2 G2 H2 _ (.refl _) ((((r.grow g1).grow g2).set (rx.mono g2.sub)).set (d := dy) ry)⟩⟩⟩
theorem fresh_new {Z : Gh} {σ : L2.St} {H : Hp} {a : Addr} {i : Nat} (r : Rel p O Z σ H) (hn : H a = none) : ∀ j e, O.contains j = true → j ≠ i → Z.ρ[j]? = some (some e) → σ[j]? ≠ some (some (.ref a)) := fun j e ho hj hd hs' => by
  obtain ⟨v, h1, h2⟩ := r.slots j e hd
  rw [hs'] at h1
  cases h1
  unfold Slot at h2
  rw [if_pos ho] at h2
  obtain ⟨b, eb, _, _, ob⟩ := h2
  cases eb
  exact ob.there hn
theorem q_parFE {st : Stmt} {i j : Nat} (h : PS X st (tPar i j (tCons (rdF p W O fa) (tCons (rdE p W O fb) tNil)))) : PS X st (rdS p W O (remO j (addO i O)) (sPar2 i j fa fb)) :=
  ps_w h fun Dd σ H ⟨Z, r, q⟩ => ⟨Z, r, post_imp (post_out r q) fun dx G1 H1 g1 q1 a H1' g1' hn ow => by
    have r1 := r.grow g1
    have r1' := r1.grow g1'
    have q1' : postS p W (remO j (addO i O)) (Z.up G1) ((fb Z.ρ).bind fun y => .ok ((Z.ρ.set i (some dx)).set j (some y))).env Dd := q1
    refine ⟨Z.up G1, r1', post_imp (post_out (Z := Z.up G1) r1' q1') fun dy G2 H2 g2 q2 y ry => ⟨.ref a, y, rfl, ?_⟩⟩
    have ha1 : H1' a ≠ none := ow.there
    have hG2 : G2 a = none := (g2.new a ha1).trans (free_G g1.below hn)
    have r2 := (r1'.grow g2).setO (i := i) (a := a) (d := dx) hG2 (r1.frame.free hn) (ow.grow g2.same g2.sub) (fresh_new (Z := Z.up G1) r1 hn)
    exact q2 G2 H2 _ (.refl _) (r2.set (i := j) (d := dy) ry)⟩
theorem q_parEF {st : Stmt} {i j : Nat} (h : PS X st (tPar i j (tCons (rdE p W O fa) (tCons (rdF p W O fb) tNil)))) : PS X st (rdS p W O (addO j (remO i O)) (sPar2 i j fa fb)) :=
  ps_w h fun Dd σ H ⟨Z, r, q⟩ => ⟨Z, r, post_imp (post_out r q) fun dx G1 H1 g1 q1 x rx => by
    have r1 := r.grow g1
    have q1' : postS p W (addO j (remO i O)) (Z.up G1) ((fb Z.ρ).bind fun y => .ok ((Z.ρ.set i (some dx)).set j (some y))).env Dd := q1
    refine ⟨Z.up G1, r1, post_imp (post_out (Z := Z.up G1) r1 q1') fun dy G2 H2 g2 q2 a H2' g2' hn ow => ⟨x, .ref a, rfl, ?_⟩⟩
    have r2 := r1.grow g2
    have r2' := r2.grow g2'
    have rs := r2'.set (i := i) (d := dx) (v := x) (rx.mono g2.sub)
    have rs0 := r2.set (i := i) (d := dx) (v := x) (rx.mono g2.sub)
    exact q2 G2 H2' _ (.refl _) (rs.setO (i := j) (a := a) (d := dy) (free_G g2.below hn) (r2.frame.free hn) ow (fresh_new rs0 hn))⟩
def rdO (p : Par) (W : WX) (O : List Nat) (f : Env → Res (Option Int)) : TO := fun σ H Q => ∃ Z, Rel p O Z σ H ∧ post p W σ Z.G H (f Z.ρ) fun o _ H' => Q o H'
def oNone : Env → Res (Option Int) := fun _ => .ok none
def intOf : D → Res (Option Int)
  | .int i => .ok (some i)
  | _ => .bad
def oSome (f : Env → Res D) : Env → Res (Option Int) := fun ρ => (f ρ).bind intOf
theorem ro_none : PO X none (rdO p W O oNone) := ⟨fun pins s σ H Q I ⟨Z, r, q⟩ => po_none.run pins s σ H Q I (post_ok r.below q)⟩
theorem ro_some (h : PE X e (rdE p W O fa)) : PO X (some e) (rdO p W O (oSome fa)) := ⟨fun pins s σ H Q I ⟨Z, r, q⟩ => (po_some h).run pins s σ H Q I ⟨Z, r, post_imp (post_bind q) fun d G' H' g q1 v rv => by
  unfold intOf at q1
  split at q1
  · cases rv; exact ⟨_, rfl, post_ok g.below q1⟩
  · exact q1.elim⟩⟩
def cut {α : Type} (xs : List α) (lo hi : Option Int) : List α := (xs.drop (HT.sIx xs.length 0 lo)).take (HT.sIx xs.length xs.length hi - HT.sIx xs.length 0 lo)
def sliceD (d : D) (lo hi : Option Int) : Res D := match d with
  | .lst ds => .ok (.lst (cut ds lo hi))
  | .tup ds => .ok (.tup (cut ds lo hi))
  | .str s => if s.length ≤ LIM then .ok (.str (cut s lo hi)) else .bad
  | _ => .bad
def eSlice (a : Env → Res D) (lo hi : Env → Res (Option Int)) : Env → Res D := fun ρ => (a ρ).bind fun d => (lo ρ).bind fun l => (hi ρ).bind fun h => sliceD d l h
theorem Reps.cut {G : Hp} {vs : List V} {ds : List D} (rs : Reps p G vs ds) (lo hi : Option Int) : Reps p G (cutV vs lo hi) (PL.cut ds lo hi) := by
  unfold cutV PL.cut
  rw [rs.length]
  exact (rs.drop _).take _
theorem cut_all {α : Type} {xs : List α} {lo hi : Option Int} (h : HT.sIx xs.length 0 lo = 0 ∧ HT.sIx xs.length xs.length hi = xs.length) : PL.cut xs lo hi = xs := by
  unfold PL.cut
  rw [h.1, h.2, List.drop_zero, Nat.sub_zero, List.take_length]
theorem r_slice {lo hi : Option Expr} {p2 : Pos} {fl fh : Env → Res (Option Int)} (hK : X.K = p.K) (he : PE X e (rdB p W O fa)) (hl : PO X lo (rdO p W O fl)) (hh : PO X hi (rdO p W O fh)) : PE X (.Subscript e (.Slice lo hi none p2) pos) (rdE p W O (eSlice fa fl fh)) := by
  have hr : SlR X (fun x lo hi H Q => rSlL p.K x lo hi H Q ∨ rSlA p.K x lo hi H Q ∨ rSlS x lo hi H Q) := by
    rw [← hK]
    exact .or sl_list (.or sl_tupA sl_str)
  refine pe_w (pe_slice hr he hl hh) fun σ H Q ⟨Z, r, q⟩ => ⟨Z, r, post_imp (post_bind q) fun d G1 H1 g1 q1 x rx => ⟨Z.up G1, r.grow g1, post_imp (post_bind q1) fun l G2 H2 g2 q2 => ⟨(Z.up G1).up G2, (r.grow g1).grow g2, post_imp (post_bind q2) fun h G3 H3 g3 q3 => ?_⟩⟩⟩
  have rx3 := (rx.grow g2).grow g3
  have b3 := g3.below
  unfold sliceD at q3
  split at q3
  · obtain ⟨a, xs, rfl, ha, rs⟩ := rx3.lst_inv b3
    exact .inl ⟨a, xs, rfl, .of ha, fun z hz => q3 _ _ (Grow.alloc b3 hz) _ (.lst upd_same ((rs.cut l h).mono (same_upd (free_G b3 hz))))⟩
  · obtain ⟨a, xs, rfl, hg, ha, rs⟩ := rx3.tup_inv b3
    refine .inr (.inl ⟨a, xs, rfl, .of ha, fun hw => ?_, fun hw z hz => q3 _ _ (Grow.alloc b3 hz) _ (.tup upd_same ((rs.cut l h).mono (same_upd (free_G b3 hz))))⟩)
    rw [rs.length] at hw
    rw [cut_all hw] at q3
    exact post_ok b3 q3 _ (.tup hg rs)
  · rename_i z
    split at q3
    · rename_i hlim
      obtain rfl := rx3.str_inv
      refine .inr (.inr ⟨_, rfl, by simpa [Str.length] using lim_line hlim, ?_⟩)
      have e : cutS ⟨z.toArray⟩ l h = ⟨(PL.cut z l h).toArray⟩ := by
        unfold cutS PL.cut
        simp [Str.length]
      rw [e]
      exact post_ok b3 q3 _ (.str _)
    · exact q3.elim
  · exact q3.elim
def CallOk (p : Par) (r : List V → Hp → VK → Prop) (f : List D → Res D) : Prop := ∀ (W : WX) (σ : L2.St) (G H : Hp) (Q : VK) (vs : List V) (ds : List D), Same G H → Paired (BRep p G H) vs ds → post p W σ G H (f ds) (fun d G' H' => ∀ v, Rep p G' v d → Q v H') → r vs H Q
def CallOkF (p : Par) (r : List V → Hp → VK → Prop) (f : List D → Res D) : Prop := ∀ (W : WX) (σ : L2.St) (G H : Hp) (Q : VK) (vs : List V) (ds : List D), Same G H → Paired (BRep p G H) vs ds → post p W σ G H (f ds) (fun d G' H' => ∀ a H'', Grow G' H' G' H'' → H' a = none → Own p G' H'' a d → Q (.ref a) H'') → r vs H Q
theorem r_blt {id : String} {x : Str} {p' : Pos} {r : List V → Hp → VK → Prop} {f : List D → Res D} (hc : CallR X (.builtin id) r) (hf : CallOk p r f) (hg : Gl X x) (hm : X.mg x = none) (hv : bootBuiltins x = some (.builtin id)) (ha : PA X (e :: es) (rdAB p W O fs))
    (hn : x ≠ "__name__" := by decide) (hdb : (x == ("__debug__" : Str)) = false := by decide) (he : starEach (e :: es) X.env = (false, eval e X.env) :: starEach es X.env := by rfl) (hpl : (backTo pos (starEach es X.env)).any (·.1) = false := by rfl) :
    PE X (.Call (.Name x p') (e :: es) [] pos) (rdE p W O (eArgs f fs)) :=
  pe_w (pe_callB hc hg hm hv ha hn hdb he hpl) fun σ H Q ⟨Z, r, q⟩ => ⟨Z, r, post_imp (post_bind q) fun ds G1 H1 g1 q1 vs rs => hf W σ G1 H1 Q vs ds g1.below rs q1⟩
theorem r_bltF {id : String} {x : Str} {p' : Pos} {r : List V → Hp → VK → Prop} {f : List D → Res D} (hc : CallR X (.builtin id) r) (hf : CallOkF p r f) (hg : Gl X x) (hm : X.mg x = none) (hv : bootBuiltins x = some (.builtin id)) (ha : PA X (e :: es) (rdAB p W O fs))
    (hn : x ≠ "__name__" := by decide) (hdb : (x == ("__debug__" : Str)) = false := by decide) (he : starEach (e :: es) X.env = (false, eval e X.env) :: starEach es X.env := by rfl) (hpl : (backTo pos (starEach es X.env)).any (·.1) = false := by rfl) :
    PE X (.Call (.Name x p') (e :: es) [] pos) (rdF p W O (eArgs f fs)) :=
  pe_w (pe_callB hc hg hm hv ha hn hdb he hpl) fun σ H Q ⟨Z, r, q⟩ => ⟨Z, r, post_imp (post_bind q) fun ds G1 H1 g1 q1 vs rs => hf W σ G1 H1 Q vs ds g1.below rs q1⟩
theorem r_bty {T : String} {x : Str} {p' : Pos} {r : List V → Hp → VK → Prop} {f : List D → Res D} (hc : CallR X (.type T) r) (hf : CallOk p r f) (hg : Gl X x) (hm : X.mg x = none) (hv : bootBuiltins x = some (.type T)) (ha : PA X (e :: es) (rdAB p W O fs))
    (hn : x ≠ "__name__" := by decide) (hdb : (x == ("__debug__" : Str)) = false := by decide) (he : starEach (e :: es) X.env = (false, eval e X.env) :: starEach es X.env := by rfl) (hpl : (backTo pos (starEach es X.env)).any (·.1) = false := by rfl) :
    PE X (.Call (.Name x p') (e :: es) [] pos) (rdE p W O (eArgs f fs)) :=
  pe_w (pe_callTy hc hg hm hv ha hn hdb he hpl) fun σ H Q ⟨Z, r, q⟩ => ⟨Z, r, post_imp (post_bind q) fun ds G1 H1 g1 q1 vs rs => hf W σ G1 H1 Q vs ds g1.below rs q1⟩
theorem r_btyF {T : String} {x : Str} {p' : Pos} {r : List V → Hp → VK → Prop} {f : List D → Res D} (hc : CallR X (.type T) r) (hf : CallOkF p r f) (hg : Gl X x) (hm : X.mg x = none) (hv : bootBuiltins x = some (.type T)) (ha : PA X (e :: es) (rdAB p W O fs))
    (hn : x ≠ "__name__" := by decide) (hdb : (x == ("__debug__" : Str)) = false := by decide) (he : starEach (e :: es) X.env = (false, eval e X.env) :: starEach es X.env := by rfl) (hpl : (backTo pos (starEach es X.env)).any (·.1) = false := by rfl) :
    PE X (.Call (.Name x p') (e :: es) [] pos) (rdF p W O (eArgs f fs)) :=
  pe_w (pe_callTy hc hg hm hv ha hn hdb he hpl) fun σ H Q ⟨Z, r, q⟩ => ⟨Z, r, post_imp (post_bind q) fun ds G1 H1 g1 q1 vs rs => hf W σ G1 H1 Q vs ds g1.below rs q1⟩
theorem paired1 {α β : Type} {F : α → β → Prop} {vs : List α} {b : β} (h : Paired F vs [b]) : ∃ a, vs = [a] ∧ F a b := by
  cases h with
  | cons h t => cases t; exact ⟨_, rfl, h⟩
theorem paired2 {α β : Type} {F : α → β → Prop} {vs : List α} {b c : β} (h : Paired F vs [b, c]) : ∃ a a', vs = [a, a'] ∧ F a b ∧ F a' c := by
  cases h with
  | cons h t =>
    cases t with
    | cons h' t => cases t; exact ⟨_, _, rfl, h, h'⟩
def lenD : List D → Res D
  | [.lst ds] => .ok (.int ds.length)
  | [.tup ds] => .ok (.int ds.length)
  | [.scr ns] => .ok (.int ns.length)
  | [.str s] => if s.length ≤ LIM then .ok (.int s.length) else .bad
  | _ => .bad
theorem ok_len : CallOk p (fun xs H Q => ∃ x n, xs = [x] ∧ LenV p.K x H n ∧ Q (.int n) H) lenD := by
  intro W σ G H Q vs ds b rs q
  unfold lenD at q
  split at q
  · obtain ⟨v, rfl, r⟩ := paired1 rs
    obtain ⟨a, xs, rfl, ha, r2⟩ := r.lst_inv b
    exact ⟨_, _, rfl, .inl ⟨xs, .of ha, rfl⟩, by rw [r2.length]; exact post_ok b q _ (.int _)⟩
  · obtain ⟨v, rfl, r⟩ := paired1 rs
    obtain ⟨a, xs, rfl, _, ha, r2⟩ := r.tup_inv b
    exact ⟨_, _, rfl, .inr ⟨xs, .of ha, rfl⟩, by rw [r2.length]; exact post_ok b q _ (.int _)⟩
  · obtain ⟨v, rfl, r⟩ := paired1 rs
    obtain ⟨a, rfl, ha⟩ := r.scr_inv b
    exact ⟨_, _, rfl, .inl ⟨_, ha, rfl⟩, by rw [List.length_map]; exact post_ok b q _ (.int _)⟩
  · rename_i s
    split at q
    · rename_i hl
      obtain ⟨v, rfl, r⟩ := paired1 rs
      obtain rfl := r.str_inv
      exact ⟨_, s.length, rfl, ⟨by simpa [Str.length] using lim_line hl, by simp [Str.length]⟩, post_ok b q _ (.int _)⟩
    · exact q.elim
  · exact q.elim
theorem r_len {p' : Pos} (hK : X.K = p.K) (hg : Gl X "len") (hm : X.mg "len" = none) (ha : PA X [e] (rdAB p W O fs)) (he : starEach [e] X.env = (false, eval e X.env) :: starEach [] X.env := by rfl) : PE X (.Call (.Name "len" p') [e] [] pos) (rdE p W O (eArgs lenD fs)) := by
  have hc : CallR X (.builtin "len") (fun xs H Q => ∃ x n, xs = [x] ∧ LenV p.K x H n ∧ Q (.int n) H) := by rw [← hK]; exact call_len
  exact r_blt hc ok_len hg hm boot_len ha (he := he)
def boolsOf : List D → Option (List Bool)
  | [] => some []
  | .bl b :: ds => (boolsOf ds).map (b :: ·)
  | _ => none
def intsOf : List D → Option (List Int)
  | [] => some []
  | .int i :: ds => (intsOf ds).map (i :: ·)
  | _ => none
theorem bools_rep {G : Hp} : ∀ {vs : List V} {ds : List D} {bs : List Bool}, Reps p G vs ds → boolsOf ds = some bs → vs = bs.map V.bl
  | _, _, _, .nil, h => by cases h; rfl
  | _, _, _, .cons r t, h => by
    cases r with
    | bl b =>
      unfold boolsOf at h
      obtain ⟨bs, h1, rfl⟩ := Option.map_eq_some_iff.mp h
      rw [bools_rep t h1]
      rfl
    | _ => cases h
theorem ints_rep {G : Hp} : ∀ {vs : List V} {ds : List D} {ns : List Int}, Reps p G vs ds → intsOf ds = some ns → vs = ns.map V.int
  | _, _, _, .nil, h => by cases h; rfl
  | _, _, _, .cons r t, h => by
    cases r with
    | int b =>
      unfold intsOf at h
      obtain ⟨bs, h1, rfl⟩ := Option.map_eq_some_iff.mp h
      rw [ints_rep t h1]
      rfl
    | _ => cases h
def allD : List D → Res D
  | [.lst ds] => (match boolsOf ds with
    | some bs => .ok (.bl (bs.all id))
    | none => .bad)
  | _ => .bad
def anyD : List D → Res D
  | [.lst ds] => (match boolsOf ds with
    | some bs => .ok (.bl (bs.any id))
    | none => .bad)
  | _ => .bad
theorem ok_all : CallOk p (rAll p.K) allD := by
  intro W σ G H Q vs ds b rs q
  unfold allD at q
  split at q
  · split at q
    · rename_i bs hb
      obtain ⟨v, rfl, r⟩ := paired1 rs
      obtain ⟨a, xs, rfl, ha, r2⟩ := r.lst_inv b
      rw [bools_rep r2 hb] at ha
      exact ⟨a, bs, rfl, .of ha, post_ok b q _ (.bl _)⟩
    · exact q.elim
  · exact q.elim
theorem ok_any : CallOk p (rAny p.K) anyD := by
  intro W σ G H Q vs ds b rs q
  unfold anyD at q
  split at q
  · split at q
    · rename_i bs hb
      obtain ⟨v, rfl, r⟩ := paired1 rs
      obtain ⟨a, xs, rfl, ha, r2⟩ := r.lst_inv b
      rw [bools_rep r2 hb] at ha
      exact ⟨a, bs, rfl, .of ha, post_ok b q _ (.bl _)⟩
    · exact q.elim
  · exact q.elim
def maxI : Int → List Int → Int
  | m, [] => m
  | m, n :: ns => maxI (if m < n then n else m) ns
def minI : Int → List Int → Int
  | m, [] => m
  | m, n :: ns => minI (if n < m then n else m) ns
theorem maxI_spec : ∀ (ns : List Int) (m : Int), (maxI m ns = m ∨ maxI m ns ∈ ns) ∧ m ≤ maxI m ns ∧ ∀ y ∈ ns, y ≤ maxI m ns
  | [], m => ⟨.inl rfl, Int.le_refl _, by simp⟩
  | n :: ns, m => by
    have e : maxI m (n :: ns) = maxI (if m < n then n else m) ns := rfl
    rw [e]
    by_cases h : m < n
    · rw [if_pos h]
      obtain ⟨h1, h2, h3⟩ := maxI_spec ns n
      refine ⟨.inr ?_, by omega, fun y hy => ?_⟩
      · rcases h1 with h1 | h1
        · rw [h1]; simp
        · exact List.mem_cons_of_mem _ h1
      · rcases List.mem_cons.mp hy with rfl | hy
        · exact h2
        · exact h3 y hy
    · rw [if_neg h]
      obtain ⟨h1, h2, h3⟩ := maxI_spec ns m
      refine ⟨?_, h2, fun y hy => ?_⟩
      · rcases h1 with h1 | h1
        · exact .inl h1
        · exact .inr (List.mem_cons_of_mem _ h1)
      · rcases List.mem_cons.mp hy with rfl | hy
        · omega
        · exact h3 y hy
theorem minI_spec : ∀ (ns : List Int) (m : Int), (minI m ns = m ∨ minI m ns ∈ ns) ∧ minI m ns ≤ m ∧ ∀ y ∈ ns, minI m ns ≤ y
  | [], m => ⟨.inl rfl, Int.le_refl _, by simp⟩
  | n :: ns, m => by
    have e : minI m (n :: ns) = minI (if n < m then n else m) ns := rfl
    rw [e]
    by_cases h : n < m
    · rw [if_pos h]
      obtain ⟨h1, h2, h3⟩ := minI_spec ns n
      refine ⟨.inr ?_, by omega, fun y hy => ?_⟩
      · rcases h1 with h1 | h1
        · rw [h1]; simp
        · exact List.mem_cons_of_mem _ h1
      · rcases List.mem_cons.mp hy with rfl | hy
        · exact h2
        · exact h3 y hy
    · rw [if_neg h]
      obtain ⟨h1, h2, h3⟩ := minI_spec ns m
      refine ⟨?_, h2, fun y hy => ?_⟩
      · rcases h1 with h1 | h1
        · exact .inl h1
        · exact .inr (List.mem_cons_of_mem _ h1)
      · rcases List.mem_cons.mp hy with rfl | hy
        · omega
        · exact h3 y hy
def maxD : List D → Res D
  | [.lst ds] => (match intsOf ds with
    | some (n :: ns) => .ok (.int (maxI n ns))
    | _ => .bad)
  | [.int i, .int j] => .ok (.int (if j > i then j else i))
  | _ => .bad
def minD : List D → Res D
  | [.lst ds] => (match intsOf ds with
    | some (n :: ns) => .ok (.int (minI n ns))
    | _ => .bad)
  | [.int i, .int j] => .ok (.int (if j < i then j else i))
  | _ => .bad
theorem ok_max : CallOk p (fun xs H Q => rMax p.K xs H Q ∨ ∃ i j, xs = [.int i, .int j] ∧ Q (.int (if j > i then j else i)) H) maxD := by
  intro W σ G H Q vs ds b rs q
  unfold maxD at q
  split at q
  · split at q
    · rename_i n ns hb
      obtain ⟨v, rfl, r⟩ := paired1 rs
      obtain ⟨a, xs, rfl, ha, r2⟩ := r.lst_inv b
      rw [ints_rep r2 hb] at ha
      refine .inl ⟨a, n :: ns, rfl, .of ha, by simp, fun m hm hle => ?_⟩
      obtain ⟨h1, h2, h3⟩ := maxI_spec ns n
      have e : m = maxI n ns := by
        have u1 : m ≤ maxI n ns := by
          rcases List.mem_cons.mp hm with rfl | hm
          · exact h2
          · exact h3 m hm
        have u2 : maxI n ns ≤ m := by
          rcases h1 with h1 | h1
          · rw [h1]; exact hle n (by simp)
          · exact hle _ (List.mem_cons_of_mem _ h1)
        omega
      rw [e]
      exact post_ok b q _ (.int _)
    · exact q.elim
  · rename_i i j
    obtain ⟨v, w, rfl, r, r'⟩ := paired2 rs
    obtain rfl := r.int_inv
    obtain rfl := r'.int_inv
    exact .inr ⟨i, j, rfl, post_ok b q _ (.int _)⟩
  · exact q.elim
theorem ok_min : CallOk p (fun xs H Q => rMin p.K xs H Q ∨ ∃ i j, xs = [.int i, .int j] ∧ Q (.int (if j < i then j else i)) H) minD := by
  intro W σ G H Q vs ds b rs q
  unfold minD at q
  split at q
  · split at q
    · rename_i n ns hb
      obtain ⟨v, rfl, r⟩ := paired1 rs
      obtain ⟨a, xs, rfl, ha, r2⟩ := r.lst_inv b
      rw [ints_rep r2 hb] at ha
      refine .inl ⟨a, n :: ns, rfl, .of ha, by simp, fun m hm hle => ?_⟩
      obtain ⟨h1, h2, h3⟩ := minI_spec ns n
      have e : m = minI n ns := by
        have u1 : minI n ns ≤ m := by
          rcases List.mem_cons.mp hm with rfl | hm
          · exact h2
          · exact h3 m hm
        have u2 : m ≤ minI n ns := by
          rcases h1 with h1 | h1
          · rw [h1]; exact hle n (by simp)
          · exact hle _ (List.mem_cons_of_mem _ h1)
        omega
      rw [e]
      exact post_ok b q _ (.int _)
    · exact q.elim
  · rename_i i j
    obtain ⟨v, w, rfl, r, r'⟩ := paired2 rs
    obtain rfl := r.int_inv
    obtain rfl := r'.int_inv
    exact .inr ⟨i, j, rfl, post_ok b q _ (.int _)⟩
  · exact q.elim
def tupOf : List D → Res D
  | [.lst ds] => .ok (.tup ds)
  | [.tup ds] => .ok (.tup ds)
  | _ => .bad
def listOf : List D → Res D
  | [.lst ds] => .ok (.lst ds)
  | [.tup ds] => .ok (.lst ds)
  | _ => .bad
theorem ok_tuple : CallOk p (fun xs H Q => ∃ p' ys, xs = [.ref p'] ∧ ((SqL p.K H p' ys ∧ ∀ l, H l = none → Q (.ref l) (upd H l (.tup ys))) ∨ (SqT p.K H p' ys ∧ Q (.ref p') H))) tupOf := by
  intro W σ G H Q vs ds b rs q
  unfold tupOf at q
  split at q
  · obtain ⟨v, rfl, r⟩ := paired1 rs
    obtain ⟨a, xs, rfl, ha, r2⟩ := r.lst_inv b
    exact ⟨a, xs, rfl, .inl ⟨.of ha, fun z hz => q _ _ (Grow.alloc b hz) _ (.tup upd_same (r2.mono (same_upd (free_G b hz))))⟩⟩
  · obtain ⟨v, rfl, r⟩ := paired1 rs
    obtain ⟨a, xs, rfl, hg, ha, r2⟩ := r.tup_inv b
    exact ⟨a, xs, rfl, .inr ⟨.of ha, post_ok b q _ (.tup hg r2)⟩⟩
  · exact q.elim
theorem ok_list : CallOkF p (fun xs H Q => ∃ p' ys, xs = [.ref p'] ∧ (SqL p.K H p' ys ∨ SqT p.K H p' ys) ∧ ∀ l, H l = none → Q (.ref l) (upd H l (.lst ys))) listOf := by
  intro W σ G H Q vs ds b rs q
  unfold listOf at q
  split at q
  · obtain ⟨v, rfl, r⟩ := paired1 rs
    obtain ⟨a, xs, rfl, ha, r2⟩ := r.lst_inv b
    exact ⟨a, xs, rfl, .inl (.of ha), fun z hz => q _ _ (.refl b) z _ (Grow.allocO b hz) hz (.inl ⟨_, _, rfl, upd_same, r2⟩)⟩
  · obtain ⟨v, rfl, r⟩ := paired1 rs
    obtain ⟨a, xs, rfl, hg, ha, r2⟩ := r.tup_inv b
    exact ⟨a, xs, rfl, .inr (.of ha), fun z hz => q _ _ (.refl b) z _ (Grow.allocO b hz) hz (.inl ⟨_, _, rfl, upd_same, r2⟩)⟩
  · exact q.elim
section
variable {p' : Pos}
theorem r_all (hK : X.K = p.K) (hc : X.calm = true) (hg : Gl X "all") (hm : X.mg "all" = none) (ha : PA X [e] (rdAB p W O fs)) (he : starEach [e] X.env = (false, eval e X.env) :: starEach [] X.env := by rfl) : PE X (.Call (.Name "all" p') [e] [] pos) (rdE p W O (eArgs allD fs)) := by
  have h : CallR X (.builtin "all") (rAll p.K) := by rw [← hK]; exact cr_all hc
  exact r_blt h ok_all hg hm (by decide +kernel) ha (he := he)
theorem r_any (hK : X.K = p.K) (hc : X.calm = true) (hg : Gl X "any") (hm : X.mg "any" = none) (ha : PA X [e] (rdAB p W O fs)) (he : starEach [e] X.env = (false, eval e X.env) :: starEach [] X.env := by rfl) : PE X (.Call (.Name "any" p') [e] [] pos) (rdE p W O (eArgs anyD fs)) := by
  have h : CallR X (.builtin "any") (rAny p.K) := by rw [← hK]; exact cr_any hc
  exact r_blt h ok_any hg hm (by decide +kernel) ha (he := he)
theorem r_max (hK : X.K = p.K) (hc : X.calm = true) (hg : Gl X "max") (hm : X.mg "max" = none) (ha : PA X (e :: es) (rdAB p W O fs)) (he : starEach (e :: es) X.env = (false, eval e X.env) :: starEach es X.env := by rfl) (hpl : (backTo pos (starEach es X.env)).any (·.1) = false := by rfl) : PE X (.Call (.Name "max" p') (e :: es) [] pos) (rdE p W O (eArgs maxD fs)) := by
  have h : CallR X (.builtin "max") (fun xs H Q => rMax p.K xs H Q ∨ ∃ i j, xs = [.int i, .int j] ∧ Q (.int (if j > i then j else i)) H) := by rw [← hK]; exact .or (cr_max hc) (call_max2 hc)
  exact r_blt h ok_max hg hm (by decide +kernel) ha (he := he) (hpl := hpl)
theorem r_min (hK : X.K = p.K) (hc : X.calm = true) (hg : Gl X "min") (hm : X.mg "min" = none) (ha : PA X (e :: es) (rdAB p W O fs)) (he : starEach (e :: es) X.env = (false, eval e X.env) :: starEach es X.env := by rfl) (hpl : (backTo pos (starEach es X.env)).any (·.1) = false := by rfl) : PE X (.Call (.Name "min" p') (e :: es) [] pos) (rdE p W O (eArgs minD fs)) := by
  have h : CallR X (.builtin "min") (fun xs H Q => rMin p.K xs H Q ∨ ∃ i j, xs = [.int i, .int j] ∧ Q (.int (if j < i then j else i)) H) := by rw [← hK]; exact .or (cr_min hc) (call_min2 hc)
  exact r_blt h ok_min hg hm (by decide +kernel) ha (he := he) (hpl := hpl)
theorem r_tuple (hK : X.K = p.K) (hg : Gl X "tuple") (hm : X.mg "tuple" = none) (ha : PA X [e] (rdAB p W O fs)) (he : starEach [e] X.env = (false, eval e X.env) :: starEach [] X.env := by rfl) : PE X (.Call (.Name "tuple" p') [e] [] pos) (rdE p W O (eArgs tupOf fs)) := by
  have h : CallR X (.type "tuple") (fun xs H Q => ∃ p' ys, xs = [.ref p'] ∧ ((SqL p.K H p' ys ∧ ∀ l, H l = none → Q (.ref l) (upd H l (.tup ys))) ∨ (SqT p.K H p' ys ∧ Q (.ref p') H))) := by rw [← hK]; exact call_tuple_of
  exact r_bty h ok_tuple hg hm (by decide +kernel) ha (he := he)
theorem r_list (hK : X.K = p.K) (hg : Gl X "list") (hm : X.mg "list" = none) (ha : PA X [e] (rdAB p W O fs)) (he : starEach [e] X.env = (false, eval e X.env) :: starEach [] X.env := by rfl) : PE X (.Call (.Name "list" p') [e] [] pos) (rdF p W O (eArgs listOf fs)) := by
  have h : CallR X (.type "list") (fun xs H Q => ∃ p' ys, xs = [.ref p'] ∧ (SqL p.K H p' ys ∨ SqT p.K H p' ys) ∧ ∀ l, H l = none → Q (.ref l) (upd H l (.lst ys))) := by rw [← hK]; exact call_list_of
  exact r_btyF h ok_list hg hm (by decide +kernel) ha (he := he)
end
end
end PL
set_option Elab.async false
set_option linter.all false
set_option maxRecDepth 100000
set_option maxHeartbeats 2000000
namespace PL
open PySem PySem.Spec PyProof.Rows L2
structure Callee (P : Program) (w : World) (p : Par) (mg : Str → Option Value) (base : Heap) (x : Str) (k : Nat) (g : List D → Res D) : Prop where
  ex : ∃ (f : Addr) (fd : FuncData) (ps : List Str), FnOk P w p.K mg base (L2.CX P w) k f fd ps (spD p g) ∧ mg x = some (.ref f) ∧ PySem.W.keepIn p.K (.ref f) = true ∧ L2.Binds p.K fd ps []
section
variable {X : Cx} {p : Par} {W : WX} {O : List Nat} {pos : Pos} {e e1 e2 e3 : Expr} {es : List Expr} {fa fb fc : Env → Res D} {ft fu : Env → Res Bool} {fs : Env → Res (List D)}
theorem r_callC {k j : Nat} {x : Str} {pos' : Pos} {g : List D → Res D} (C : Callee X.prog X.w p X.mg X.base x k g) (hr : Room j X.A) (hj : k ≤ j) (hK : X.K = p.K) (hg : Gl X x) (tk : Takes X W) (ha : PA X (e :: es) (rdA p W O fs))
    (hdb : (x == ("__debug__" : Str)) = false := by decide) (he : starEach (e :: es) X.env = (false, eval e X.env) :: starEach es X.env := by rfl) (hpl : (backTo pos (starEach es X.env)).any (·.1) = false := by rfl) :
    PE X (.Call (.Name x pos') (e :: es) [] pos) (rdE p W O (eArgs g fs)) := by
  obtain ⟨f, fd, ps, F, hm, hk, hb⟩ := C.ex
  rw [← hK] at F hk hb
  exact r_call F (hr.mono hj) hg hm hk hb tk ha hdb he hpl
theorem rv (i : Nat) {x : Str} (hN : X.N[i]? = some x := by rfl) (hv : Vis X.env.scope x := by first | exact Or.inl rfl | exact Or.inr (Or.inl rfl) | exact Or.inr (Or.inr rfl)) (ho : O.contains i = false := by rfl) (hd : (x == ("__debug__" : Str)) = false := by decide) (hcd : (x == ("__classdict__" : Str)) = false := by decide) :
    PE X (.Name x pos) (rdE p W O (eVar i)) := r_var hN hv ho hd hcd
theorem rvB (i : Nat) {x : Str} (hN : X.N[i]? = some x := by rfl) (hv : Vis X.env.scope x := by first | exact Or.inl rfl | exact Or.inr (Or.inl rfl) | exact Or.inr (Or.inr rfl)) (hd : (x == ("__debug__" : Str)) = false := by decide) (hcd : (x == ("__classdict__" : Str)) = false := by decide) :
    PE X (.Name x pos) (rdB p W O (eVar i)) := r_varB hN hv hd hcd
theorem rvN (i : Nat) {x : Str} (hN : X.N[i]? = some x := by rfl) (hv : Vis X.env.scope x := by first | exact Or.inl rfl | exact Or.inr (Or.inl rfl) | exact Or.inr (Or.inr rfl)) (hd : (x == ("__debug__" : Str)) = false := by decide) (hcd : (x == ("__classdict__" : Str)) = false := by decide) :
    PE X (.Name x pos) (rdN p O (eVar i)) := r_nvar hN hv hd hcd
theorem qv_app {i : Nat} {x : Str} {ap p1 pos' : Pos} (ho : O.contains i = true) (hx : PE X (.Name x p1) (tVar i)) (he : PE X e (rdE p W O fa))
    (hpe : PE X (.Name x p1) (tVar i) → PE X e (rdE p W O fa) → PE X (.Call (.Attribute (.Name x p1) "append" ap) [e] [] pos') (tBM X.K "list" rAppend (tVar i) (tCons (rdE p W O fa) tNil)) := by
      exact fun a b => pe_bm PySem.F.plainAttrs_list PySem.F.slot_list_append PySem.F.type_list_append mt_append a (pa_cons b pa_nil))
    (hsw : swapsWith (.Call (.Attribute (.Name x p1) "append" ap) [e] [] pos') none pos.line X.env = pure false := by rfl) :
    PS X (.Expr (.Call (.Attribute (.Name x p1) "append" ap) [e] [] pos') pos) (rdS p W O O (sApp i fa)) := by
  refine ps_w (ps_expr (hpe hx he) hsw) fun Dd σ H ⟨Z, r, q⟩ => ?_
  unfold sApp at q
  obtain ⟨a, xs, ds, h1, h2, hG, h0, ha, rs, q⟩ := own_lst r ho q
  refine ⟨.ref a, h2, .inl ⟨rfl, _, .of ha⟩, Z, r, ?_⟩
  rw [bind_assoc] at q
  refine post_imp (post_out r q) fun dx G' H' g q3 v rv => ?_
  split at q3
  · rename_i hl
    obtain ⟨ha', hG'⟩ := r.same (i := i) (d := dx) g ha hG
    refine ⟨a, xs, v, rfl, rfl, ha', by rw [rs.length]; exact lim_line' (Nat.le_of_lt hl), ?_⟩
    exact q3 G' _ σ (.refl _) ((r.grow g).write ho h1 h2 (.inl ⟨_, _, rfl, upd_same, (rs.mono g.sub).append (.cons rv .nil)⟩))
  · exact q3.elim
def eGet2 (a k x : Env → Res D) : Env → Res D := fun ρ => (a ρ).bind fun d => (dctOf d).bind fun es => (k ρ).bind fun y => (x ρ).bind fun z => match y with
  | .int j => .ok ((look es j).getD z)
  | _ => .bad
theorem r_get2 {apos cpos : Pos} (hu : X.A.units + 64 < cLine) (ha : PE X e1 (rdB p W O fa)) (hk : PE X e2 (rdE p W O fb)) (hx : PE X e3 (rdE p W O fc)) (m : M2 X e1 "get" apos e2 e3 cpos := by exact ⟨rfl, rfl, rfl, rfl⟩) : PE X (.Call (.Attribute e1 "get" apos) [e2, e3] [] cpos) (rdE p W O (eGet2 fa fb fc)) :=
  pe_w (pe_dget2 (by omega) ha hk hx m) fun σ H Q ⟨Z, r, q⟩ => ⟨Z, r, post_imp (post_bind q) fun d G1 H1 g1 q1 v rv => by
    unfold dctOf at q1
    split at q1
    · rename_i es
      obtain ⟨a, vs, rfl, hr, rs⟩ := rv.dct_inv g1.below
      refine ⟨a, rfl, .inl ⟨_, hr⟩, Z.up G1, r.grow g1, post_imp (post_bind q1) fun dy G2 H2 g2 q2 y ry => ⟨(Z.up G1).up G2, (r.grow g1).grow g2, post_imp (post_bind q2) fun dz G3 H3 g3 q3 z rz => ?_⟩⟩
      split at q3
      · rename_i j
        cases ry
        obtain ⟨a', vs', e', hr', rs'⟩ := ((rv.grow g2).grow g3).dct_inv g3.below
        cases e'
        obtain ⟨l1, l2⟩ := valV_look es vs' j rs'
        refine ⟨_, .inl ⟨_, Sum.inl j, hr', rfl, rfl⟩, ?_⟩
        cases hl : look es j with
        | none =>
          rw [hl] at q3
          rw [l2 hl]
          exact post_ok g3.below q3 _ rz
        | some d' =>
          rw [hl] at q3
          obtain ⟨v', e1, e2⟩ := l1 d' hl
          rw [e1]
          exact post_ok g3.below q3 _ e2
      · exact q3.elim
    · exact q1.elim⟩
def emptyD (x y : D) : Res Bool := match x, y with
  | .dct es, .dct [] => .ok es.isEmpty
  | _, _ => .bad
def nemptyD (x y : D) : Res Bool := match x, y with
  | .dct es, .dct [] => .ok (!es.isEmpty)
  | _, _ => .bad
def rEmp : R2 := fun x y H Q => ∃ a b kvs, x = .ref a ∧ y = .ref b ∧ Rd H a (.dK kvs) ∧ Rd H b (.dK []) ∧ Q (.bl kvs.isEmpty) H
def rNEmp : R2 := fun x y H Q => ∃ a b kvs, x = .ref a ∧ y = .ref b ∧ Rd H a (.dK kvs) ∧ Rd H b (.dK []) ∧ Q (.bl (!kvs.isEmpty)) H
theorem hits_empty {A : Around} {s : Shared} {ka : List (Key × Value)} (h : ka.length = ([] : List (Key × Value)).length) : PySem.W.KeqHits A s [] ka true := by
  cases ka with
  | nil => exact .nil
  | cons a r => simp at h
theorem isEmpty_len {α β : Type} {xs : List α} {ys : List β} (h : xs.length = ys.length) : (ys.length == 0) = xs.isEmpty := by
  cases xs with
  | nil =>
    cases ys with
    | nil => rfl
    | cons _ _ => simp at h
  | cons _ _ =>
    cases ys with
    | nil => simp at h
    | cons _ _ => rfl
theorem op_emp (hu : X.A.units < cLine) : OpR X (compareOp .Eq) rEmp := by
  intro pins s σ H x y v u Q I rx ry ⟨a, b, kvs, e1, e2, ha, hb, q⟩
  subst e1 e2
  cases rx
  cases ry
  obtain ⟨_, z1, ka, ra, da⟩ := dk_rd I.hok ha
  obtain ⟨_, z2, kb, rb, db⟩ := dk_rd I.hok hb
  cases rb
  have hl := ra.length
  refine PySem.W.keq_eq z1 z2 da db hu (fun h => hits_empty h) ⟨.bl _, H, I, rfl, ?_⟩
  have e : (ka.length == ([] : List (Key × Value)).length) = kvs.isEmpty := isEmpty_len (ys := ka) (xs := kvs) hl
  rw [Bool.and_true, e]
  exact q
theorem op_nemp (hu : X.A.units < cLine) : OpR X (compareOp .NotEq) rNEmp := by
  intro pins s σ H x y v u Q I rx ry ⟨a, b, kvs, e1, e2, ha, hb, q⟩
  subst e1 e2
  cases rx
  cases ry
  obtain ⟨_, z1, ka, ra, da⟩ := dk_rd I.hok ha
  obtain ⟨_, z2, kb, rb, db⟩ := dk_rd I.hok hb
  cases rb
  have hl := ra.length
  refine PySem.W.keq_ne z1 z2 da db hu (fun h => hits_empty h) ⟨.bl _, H, I, rfl, ?_⟩
  have e : (ka.length == ([] : List (Key × Value)).length) = kvs.isEmpty := isEmpty_len (ys := ka) (xs := kvs) hl
  rw [Bool.and_true, e]
  exact q
theorem dkv_isEmpty {G : Hp} {es : List (Int × D)} {vs : List V} (rs : Reps p G vs (es.map (·.2))) : (dkv es vs).isEmpty = es.isEmpty := by
  have h := dkv_length rs
  cases es with
  | nil => rfl
  | cons e es =>
    cases hd : dkv (e :: es) vs with
    | nil => rw [hd] at h; simp at h
    | cons _ _ => rfl
theorem ok_emp : OpOkB p rEmp emptyD := by
  intro W σ G H Q x y dx dy b rx ry q
  unfold emptyD at q
  split at q
  · obtain ⟨a, vs, rfl, hr, rs⟩ := rx.dct_inv b
    obtain ⟨a', vs', rfl, hr', rs'⟩ := ry.dct_inv b
    refine ⟨a, a', _, rfl, rfl, hr, hr', ?_⟩
    rw [dkv_isEmpty rs]
    exact post_ok b q
  · exact q.elim
theorem ok_nemp : OpOkB p rNEmp nemptyD := by
  intro W σ G H Q x y dx dy b rx ry q
  unfold nemptyD at q
  split at q
  · obtain ⟨a, vs, rfl, hr, rs⟩ := rx.dct_inv b
    obtain ⟨a', vs', rfl, hr', rs'⟩ := ry.dct_inv b
    refine ⟨a, a', _, rfl, rfl, hr, hr', ?_⟩
    rw [dkv_isEmpty rs]
    exact post_ok b q
  · exact q.elim
end
end PL
set_option Elab.async false
set_option linter.all false
set_option maxRecDepth 100000
set_option maxHeartbeats 2000000
namespace PL
open PySem PySem.Spec PyProof.Rows L2
theorem Rel.perm {p : Par} {O O' : List Nat} {Z : Gh} {σ : L2.St} {H : Hp} (r : Rel p O Z σ H) (h : ∀ i, O'.contains i = O.contains i) : Rel p O' Z σ H where
  below := r.below
  frame := r.frame
  fixed := r.fixed
  sub := r.sub
  len := r.len
  slots := fun i d e => by rw [h i]; exact r.slots i d e
  apart := fun i j a d e hi hj => r.apart i j a d e (by rw [← h i]; exact hi) (by rw [← h j]; exact hj)
theorem subO_contains {O O' : List Nat} (h : (subO O O' && subO O' O) = true) (i : Nat) : O'.contains i = O.contains i := by
  rw [Bool.and_eq_true] at h
  obtain ⟨h1, h2⟩ := h
  unfold subO at h1 h2
  rw [List.all_eq_true] at h1 h2
  apply Bool.eq_iff_iff.mpr
  constructor
  · intro e
    exact h2 i (List.contains_iff_mem.mp e)
  · intro e
    exact h1 i (List.contains_iff_mem.mp e)
theorem q_nilP {X : Cx} {p : Par} {W : WX} {O O' : List Nat} (h : (subO O O' && subO O' O) = true) : PSs X [] (rdS p W O O' sNil) :=
  pss_w pss_nil fun Dd σ H ⟨Z, r, q⟩ => q Z.G H σ (.refl _) (r.perm (subO_contains h))
section
variable {α : Type}
def insB (lt : α → α → Bool) (x : α) : List α → List α
  | [] => [x]
  | y :: ys => if lt y x = true then y :: insB lt x ys else x :: y :: ys
def isort (lt : α → α → Bool) : List α → List α
  | [] => []
  | x :: xs => insB lt x (isort lt xs)
theorem insB_perm (lt : α → α → Bool) (x : α) : ∀ l : List α, (insB lt x l).Perm (x :: l)
  | [] => .refl _
  | y :: ys => by
    unfold insB
    split
    · exact ((insB_perm lt x ys).cons y).trans (.swap x y ys)
    · exact .refl _
theorem isort_perm (lt : α → α → Bool) : ∀ l : List α, (isort lt l).Perm l
  | [] => .refl _
  | x :: xs => (insB_perm lt x _).trans ((isort_perm lt xs).cons x)
theorem insB_srt {lt : α → α → Bool} (O : SrtO.Swo lt) (x : α) : ∀ {l : List α}, l.Pairwise (fun a b => lt b a = false) → (insB lt x l).Pairwise (fun a b => lt b a = false)
  | [], _ => by unfold insB; exact List.pairwise_singleton _ _
  | y :: ys, h => by
    unfold insB
    obtain ⟨h1, h2⟩ := List.pairwise_cons.mp h
    split
    · rename_i hy
      refine List.pairwise_cons.mpr ⟨fun z hz => ?_, insB_srt O x h2⟩
      rcases List.mem_cons.mp ((insB_perm lt x ys).mem_iff.mp hz) with e | e
      · rw [e]; exact O.asym _ _ hy
      · exact h1 z e
    · rename_i hy
      have hy' : lt y x = false := by cases hh : lt y x with | true => exact absurd hh hy | false => rfl
      refine List.pairwise_cons.mpr ⟨fun z hz => ?_, h⟩
      rcases List.mem_cons.mp hz with e | e
      · rw [e]; exact hy'
      · exact O.tr _ _ _ hy' (h1 z e)
theorem isort_srt {lt : α → α → Bool} (O : SrtO.Swo lt) : ∀ l : List α, (isort lt l).Pairwise (fun a b => lt b a = false)
  | [] => .nil
  | x :: xs => insB_srt O x (isort_srt O xs)
theorem isort_uniq {lt : α → α → Bool} (O : SrtO.Swo lt) (anti : ∀ a b, lt a b = false → lt b a = false → a = b) {l m : List α} (hp : m.Perm l) (hs : m.Pairwise (fun a b => lt b a = false)) : m = isort lt l :=
  List.Perm.eq_of_pairwise (fun a b _ _ h1 h2 => anti a b h2 h1) hs (isort_srt O l) (hp.trans (isort_perm lt l).symm)
end
def ltI (a b : Int) : Bool := decide (a < b)
def ltS (a b : List Nat) : Bool := decide (a < b)
def ltP2 (a b : Int × Int) : Bool := SrtO.lexB a b
theorem swoI : SrtO.Swo ltI := ⟨fun x y h => decide_eq_false (by have := of_decide_eq_true (p := x < y) h; omega), fun x y z h1 h2 => by
  have a := of_decide_eq_false (p := y < x) h1
  have b := of_decide_eq_false (p := z < y) h2
  exact decide_eq_false (by omega)⟩
theorem antiI (a b : Int) (h : ltI a b = false) (k : ltI b a = false) : a = b := by
  have x := of_decide_eq_false (p := a < b) h
  have y := of_decide_eq_false (p := b < a) k
  omega
theorem swoS : SrtO.Swo ltS := ⟨fun x y h => decide_eq_false (List.lt_asymm (of_decide_eq_true (p := x < y) h)), fun x y z h1 h2 => by
  have a := of_decide_eq_false (p := y < x) h1
  have b := of_decide_eq_false (p := z < y) h2
  exact decide_eq_false (List.not_lt.mpr (List.le_trans (List.not_lt.mp a) (List.not_lt.mp b)))⟩
theorem antiS (a b : List Nat) (h : ltS a b = false) (k : ltS b a = false) : a = b := by
  have x := of_decide_eq_false (p := a < b) h
  have y := of_decide_eq_false (p := b < a) k
  exact List.le_antisymm (List.not_lt.mp y) (List.not_lt.mp x)
theorem swoP : SrtO.Swo ltP2 := by
  refine ⟨fun x y h => ?_, fun x y z h1 h2 => ?_⟩
  · have a := SrtO.lexB_iff.mp h
    refine SrtO.lexB_no.mpr ?_
    omega
  · have a := SrtO.lexB_no.mp h1
    have b := SrtO.lexB_no.mp h2
    refine SrtO.lexB_no.mpr ?_
    omega
theorem antiP (a b : Int × Int) (h : ltP2 a b = false) (k : ltP2 b a = false) : a = b := by
  have x := SrtO.lexB_no.mp h
  have y := SrtO.lexB_no.mp k
  apply Prod.ext <;> omega
def svS : Value → List Nat
  | .str x _ => x.cps.toList
  | _ => []
def ltSv (v u : Value) : Bool := ltS (svS v) (svS u)
theorem swoSv : SrtO.Swo ltSv := ⟨fun x y => swoS.asym _ _, fun x y z => swoS.tr _ _ _⟩
theorem strs_mem : ∀ {vs : List Value} {ss : List Str}, StrsAre vs ss → ∀ v ∈ vs, ∃ x t, v = Value.str x t
  | _, _, .nil, v, h => absurd h (by simp)
  | _, _, .cons x t r, v, h => by
    rcases List.mem_cons.mp h with e | h
    · exact ⟨x, t, e⟩
    · exact strs_mem r v h
theorem strs_sv : ∀ {vs : List Value}, (∀ v ∈ vs, ∃ x t, v = Value.str x t) → StrsAre vs (vs.map fun v => ⟨(svS v).toArray⟩)
  | [], _ => .nil
  | v :: vs, h => by
    obtain ⟨x, t, e⟩ := h v List.mem_cons_self
    subst e
    have ex : (⟨(svS (.str x t)).toArray⟩ : Str) = x := rfl
    rw [List.map_cons, ex]
    exact .cons x t (strs_sv fun u hu => h u (List.mem_cons_of_mem _ hu))
theorem sv_strs : ∀ {vs : List Value} {ss : List Str}, StrsAre vs ss → vs.map svS = ss.map fun x => x.cps.toList
  | _, _, .nil => rfl
  | _, _, .cons x t r => congrArg (x.cps.toList :: ·) (sv_strs r)
section
variable {prog : Program} {w : World} {A : Around} {s : Shared}
theorem str_cmp {vs : List Value} {ss : List Str} (hI : StrsAre vs ss) : SrtO.Cmp prog w A s oneType' (fun p => p.1 ∈ vs) (SrtO.lt2 ltSv) := by
  intro p q hm hm'
  obtain ⟨a, t, e⟩ := strs_mem hI _ hm
  obtain ⟨b, u, e'⟩ := strs_mem hI _ hm'
  show wpAny (model prog w) A (keyLt' oneType' p.1 q.1) (fun r s' => s' = s ∧ r = ltSv p.1 q.1) (fun _ _ => False) s
  rw [e, e', keyLt'_oneType]
  exact oneLt_str ⟨rfl, rfl⟩
theorem strs_sortable {a : Addr} {vs : List Value} {ss : List Str} (hI : StrsAre vs ss) (h2 : 2 ≤ vs.length) : SrtO.SortableO prog w A s a vs ltSv := by
  intro h' _
  refine ⟨oneType', fun Q E hq => ?_, str_cmp hI⟩
  match vs, hI, h2 with
  | v1 :: v2 :: rest, hI, _ =>
    rw [keyKind_strs hI]
    exact wpAny_pure hq
  | [], _, h => exact absurd h (by decide)
  | [v], _, h => exact absurd h (by simp)
end
def rSortedT (K : PySem.W.Frag) : List V → Hp → VK → Prop := fun vs H Q => ∃ (a : Addr) (ss : List (List Nat)), vs = [V.ref a] ∧ SqL K H a (ss.map fun z => V.str ⟨z.toArray⟩) ∧
  ∀ (p : Addr), H p = none → Q (.ref p) (upd H p (.lst ((isort ltS ss).map fun z => V.str ⟨z.toArray⟩)))
theorem cr_sortedT {X : Cx} : CallR X (.builtin "sorted") (rSortedT X.K) := by
  intro pins s σ H vs us Q I r h
  obtain ⟨a, ss, rfl, hs, q⟩ := h
  obtain ⟨its, rv, hl, hz⟩ := I.list hs
  rw [Vals.ref1 r]
  have em : ss.map (fun z => V.str ⟨z.toArray⟩) = (ss.map fun z => (⟨z.toArray⟩ : Str)).map V.str := by rw [List.map_map]; rfl
  have hz' := hz
  rw [em] at rv
  have hi := rv.strs
  refine SrtO.sorted_ord swoSv hl.isList (by rw [← rv.length, ← em]; exact hz) (fun h2 h₁ a' _ _ => strs_sortable hi h2) fun out h1 h2 => ?_
  have ho : StrsAre out (out.map fun v => ⟨(svS v).toArray⟩) := strs_sv fun v hv => strs_mem hi v (h2.perm.mem_iff.mp hv)
  have hp : (out.map svS).Perm ss := by
    have q := h2.perm.map svS
    rw [sv_strs hi, List.map_map] at q
    have e : ss.map ((fun x : Str => x.cps.toList) ∘ fun z => (⟨z.toArray⟩ : Str)) = ss := by
      rw [show ((fun x : Str => x.cps.toList) ∘ fun z : List Nat => (⟨z.toArray⟩ : Str)) = id from rfl]
      exact List.map_id _
    rw [e] at q
    exact q
  have hw : (out.map svS).Pairwise (fun a b => ltS b a = false) := List.pairwise_map.mpr (h1.imp fun h => h)
  have eu := isort_uniq swoS antiS hp hw
  obtain ⟨ep, he'⟩ := PyProof.Rows.sortedAll_at s.heap its out.toArray
  have e2 : (out.map fun v => (⟨(svS v).toArray⟩ : Str)).map V.str = (isort ltS ss).map fun z => V.str ⟨z.toArray⟩ := by
    rw [← eu, List.map_map, List.map_map]; rfl
  have hlen : ((isort ltS ss).map fun z => V.str ⟨z.toArray⟩).length ≤ sizeLine := by
    rw [List.length_map, (isort_perm ltS ss).length_eq]
    rw [List.length_map] at hz'
    exact hz'
  exact ⟨.ref _, upd H (s.heap.objs.size + 1) (.lst ((isort ltS ss).map fun z => V.str ⟨z.toArray⟩)), I.laid (t' := s.toks) (fun _ _ => PyProof.Rows.sortedAll_old) (Nat.le_succ _) ⟨hlen, out, ep, by rw [← e2]; exact vals_of_strs ho, he'⟩, rfl, q _ (I.hok.fresh (Nat.le_succ _))⟩
def strsOf : List D → Option (List (List Nat))
  | [] => some []
  | .str z :: ds => (strsOf ds).map (z :: ·)
  | _ => none
def pairsOfD : List D → Option (List (Int × Int))
  | [] => some []
  | .tup [.int i, .int j] :: ds => (pairsOfD ds).map ((i, j) :: ·)
  | _ => none
def pairD (e : Int × Int) : D := .tup [.int e.1, .int e.2]
def sortD : List D → Res D
  | [.lst ds] => (match intsOf ds with
    | some ns => .ok (.lst ((isort ltI ns).map D.int))
    | none => (match strsOf ds with
      | some ss => .ok (.lst ((isort ltS ss).map D.str))
      | none => (match pairsOfD ds with
        | some ps => .ok (.lst ((isort ltP2 ps).map pairD))
        | none => .bad)))
  | _ => .bad
section
variable {p : Par} {G H : Hp}
theorem strs_rep {G : Hp} : ∀ {vs : List V} {ds : List D} {ss : List (List Nat)}, Reps p G vs ds → strsOf ds = some ss → vs = ss.map fun z => V.str ⟨z.toArray⟩
  | _, _, _, .nil, h => by cases h; rfl
  | _, _, _, .cons r t, h => by
    cases r with
    | str b =>
      unfold strsOf at h
      obtain ⟨bs, h1, rfl⟩ := Option.map_eq_some_iff.mp h
      rw [strs_rep t h1]; rfl
    | _ => cases h
theorem strs_reps : ∀ ss : List (List Nat), Reps p G (ss.map fun z => V.str ⟨z.toArray⟩) (ss.map D.str)
  | [] => .nil
  | z :: ss => .cons (.str z) (strs_reps ss)
def kOf (G : Hp) : V → Int × Int
  | .ref t => (match G t with
    | some (.tup [.int i, .int j]) => (i, j)
    | _ => (0, 0))
  | _ => (0, 0)
theorem pairs_rep : ∀ {vs : List V} {ds : List D} {ps : List (Int × Int)}, Reps p G vs ds → pairsOfD ds = some ps → vs.map (kOf G) = ps ∧ ∀ v ∈ vs, ∃ t, v = .ref t ∧ G t = some (.tup [.int (kOf G v).1, .int (kOf G v).2])
  | _, _, _, .nil, h => by cases h; exact ⟨rfl, fun v hv => by simp at hv⟩
  | _, _, _, .cons (ds := ds) r t, h => by
    cases r with
    | tup hg rs =>
      unfold pairsOfD at h
      split at h
      · rename_i e; cases e
      · rename_i i j ds' e
        obtain ⟨e1, e2⟩ := List.cons.inj e
        cases e1
        subst e2
        obtain ⟨bs, h1, rfl⟩ := Option.map_eq_some_iff.mp h
        obtain ⟨k1, k2⟩ := pairs_rep t h1
        cases rs with
        | cons r1 rs =>
          cases rs with
          | cons r2 rs =>
            cases rs
            cases r1
            cases r2
            refine ⟨?_, fun v hv => ?_⟩
            · rw [List.map_cons, k1]
              unfold kOf
              dsimp only
              rw [hg]
            · rcases List.mem_cons.mp hv with e | e
              · subst e
                refine ⟨_, rfl, ?_⟩
                unfold kOf
                dsimp only
                rw [hg]
              · exact k2 v e
      · cases h
    | _ => cases h
theorem pairs_reps : ∀ {vs : List V}, (∀ v ∈ vs, ∃ t, v = .ref t ∧ G t = some (.tup [.int (kOf G v).1, .int (kOf G v).2])) → Reps p G vs ((vs.map (kOf G)).map pairD)
  | [], _ => .nil
  | v :: vs, h => by
    obtain ⟨t, e, hg⟩ := h v List.mem_cons_self
    subst e
    exact .cons (.tup hg (.cons (.int _) (.cons (.int _) .nil))) (pairs_reps fun u hu => h u (List.mem_cons_of_mem _ hu))
theorem ok_sorted : CallOkF p (fun xs H Q => rSortedI p.K xs H Q ∨ rSortedT p.K xs H Q ∨ rSortedPO p.K xs H Q) sortD := by
  intro W σ G H Q vs ds b rs q
  unfold sortD at q
  split at q
  · obtain ⟨v, rfl, r⟩ := paired1 rs
    obtain ⟨a, xs, rfl, ha, r2⟩ := r.lst_inv b
    split at q
    · rename_i ns hn
      have ex := ints_rep r2 hn
      subst ex
      refine .inl ⟨a, ns, rfl, .of ha, fun ns' z hp hw hz => ?_⟩
      have e : ns' = isort ltI ns := isort_uniq swoI antiI hp (hw.imp fun {x y} h => decide_eq_false (by omega))
      subst e
      exact q _ _ (.refl b) z _ (Grow.allocO b hz) hz (.inl ⟨_, _, rfl, upd_same, Reps.of_ints _⟩)
    · split at q
      · rename_i ss hn
        have ex := strs_rep r2 hn
        subst ex
        exact .inr (.inl ⟨a, ss, rfl, .of ha, fun z hz => q _ _ (.refl b) z _ (Grow.allocO b hz) hz (.inl ⟨_, _, rfl, upd_same, strs_reps _⟩)⟩)
      · split at q
        · rename_i ps hn
          obtain ⟨k1, k2⟩ := pairs_rep r2 hn
          refine .inr (.inr ⟨a, xs, kOf G, rfl, .of ha, fun x hx => ?_, fun ys z h1 h2 hz => ?_⟩)
          · obtain ⟨t, e, hg⟩ := k2 x hx
            exact ⟨t, e, b _ _ hg⟩
          · have hp : (ys.map (kOf G)).Perm ps := by rw [← k1]; exact h2.perm.map _
            have hw : (ys.map (kOf G)).Pairwise (fun a b => ltP2 b a = false) := List.pairwise_map.mpr (h1.imp fun h => h)
            have e := isort_uniq swoP antiP hp hw
            have rr : Reps p G ys ((ys.map (kOf G)).map pairD) := pairs_reps fun v hv => k2 v (h2.perm.mem_iff.mp hv)
            rw [e] at rr
            exact q _ _ (.refl b) z _ (Grow.allocO b hz) hz (.inl ⟨_, _, rfl, upd_same, rr⟩)
        · exact q.elim
  · exact q.elim
end
section
variable {X : Cx} {p : Par} {W : WX} {O : List Nat} {pos p' : Pos} {e e1 e2 e3 : Expr} {es : List Expr} {fa fb fc : Env → Res D} {fs : Env → Res (List D)}
theorem r_sorted (hK : X.K = p.K) (hg : Gl X "sorted") (hm : X.mg "sorted" = none) (ha : PA X [e] (rdAB p W O fs)) (he : starEach [e] X.env = (false, eval e X.env) :: starEach [] X.env := by rfl) : PE X (.Call (.Name "sorted" p') [e] [] pos) (rdF p W O (eArgs sortD fs)) := by
  have h : CallR X (.builtin "sorted") (fun xs H Q => rSortedI p.K xs H Q ∨ rSortedT p.K xs H Q ∨ rSortedPO p.K xs H Q) := by rw [← hK]; exact .or cr_sortedI (.or cr_sortedT cr_sortedPO)
  exact r_bltF h ok_sorted hg hm (by decide +kernel) ha (he := he)
def sumD : List D → Res D
  | [.lst ds] => (match intsOf ds with
    | some ns => .ok (.int ns.sum)
    | none => .bad)
  | _ => .bad
theorem ok_sum : CallOk p (rSum p.K) sumD := by
  intro W σ G H Q vs ds b rs q
  unfold sumD at q
  split at q
  · obtain ⟨v, rfl, r⟩ := paired1 rs
    obtain ⟨a, xs, rfl, ha, r2⟩ := r.lst_inv b
    split at q
    · rename_i ns hn
      have ex := ints_rep r2 hn
      subst ex
      exact ⟨a, ns, rfl, .of ha, post_ok b q _ (.int _)⟩
    · exact q.elim
  · exact q.elim
theorem r_sum (hK : X.K = p.K) (hc : X.calm = true) (hg : Gl X "sum") (hm : X.mg "sum" = none) (ha : PA X [e] (rdAB p W O fs)) (he : starEach [e] X.env = (false, eval e X.env) :: starEach [] X.env := by rfl) : PE X (.Call (.Name "sum" p') [e] [] pos) (rdE p W O (eArgs sumD fs)) := by
  have h : CallR X (.builtin "sum") (rSum p.K) := by rw [← hK]; exact cr_sum hc
  exact r_blt h ok_sum hg hm (by decide +kernel) ha (he := he)
end
def sUnp (g : D → Env → Res Env) (e : Env → Res D) : Env → Out := fun ρ => ((e ρ).bind fun d => noX (g d ρ)).env
theorem q_unp {X : Cx} {p : Par} {W : WX} {O : List Nat} {pos : Pos} {tg e : Expr} {t : TG} {g : D → Env → Res Env} {is : List Nat} {fa : Env → Res D} (h : PS X (.Assign [tg] e pos) (tAsg (rdE p W O fa) t)) (hgp : GtP p is t g) :
    PS X (.Assign [tg] e pos) (rdS p W O (remAll is O) (sUnp g fa)) :=
  ps_w h fun Dd σ H ⟨Z, r, q⟩ => ⟨Z, r, post_imp (post_out r q) fun d G1 H1 g1 q1 v rv => by
    revert q1
    cases hg : g d Z.ρ with
    | ok ρ' => exact fun q1 => hgp O (Z.up G1) σ H1 v d ρ' _ (r.grow g1) rv hg fun σ' r' _ => q1 G1 H1 σ' (.refl _) r'
    | exc c => exact fun q1 => q1.elim
    | bad => exact fun q1 => q1.elim⟩
def parOf (K : PySem.W.Frag) : Par := ⟨K, fun _ => 0, fun _ => [], fun _ => 0⟩
theorem law_sp {K : PySem.W.Frag} {H : Hp} {a : Addr} {ns : List Int} {f : List D → Res D} (hS : SqL K H a (ns.map V.int)) (h : f [.scr ns] = .ok (.bl true)) : spD (parOf K) f [.ref a] H (fun v _ => v = .bl true) fun _ _ _ => False := by
  refine ⟨H, [.scr ns], .refl _, .cons (.scr hS) .nil, ?_⟩
  rw [h]
  intro G' H' _ v r
  cases r
  rfl
theorem cx_no {P : Program} {w : World} {H : Hp} {s : Shared} {e : Value} {s' : Shared} (h : L2.CX P w [] H s (fun _ _ _ => False) e s') : False := by
  obtain ⟨_, _, _, _, _, _, _, _, _, _, _, _, h⟩ := h
  exact h
end PL
set_option Elab.async false
set_option linter.all false
set_option maxRecDepth 100000
set_option maxHeartbeats 2000000
namespace PL
open PySem PySem.Spec PyProof.Rows L2
def strOf : D → Res (List Nat)
  | .str s => .ok s
  | _ => .bad
def cntS (s : List Nat) (y : D) : Res D := match y with
  | .str [c] => .ok (.int (s.count c : Nat))
  | _ => .bad
def eCount (a b : Env → Res D) : Env → Res D := fun ρ => (a ρ).bind fun d => (strOf d).bind fun s => (b ρ).bind fun y => cntS s y
theorem cnt_count (c : Nat) : ∀ l : List Nat, PyProof.Rows.cnt c l = (l.count c : Nat)
  | [] => rfl
  | n :: l => by
    rw [cnt_cons, cnt_count c l, List.count_cons]
    by_cases h : n = c
    · rw [if_pos h, if_pos (beq_iff_eq.mpr h)]; omega
    · rw [if_neg h, if_neg (by simpa using h)]; omega
section
variable {X : Cx} {p : Par} {W : WX} {O : List Nat} {pos p' apos cpos : Pos} {e e1 e2 e3 : Expr} {es : List Expr} {fa fb fc : Env → Res D} {fs : Env → Res (List D)}
theorem r_count (ha : PE X e1 (rdB p W O fa)) (hb : PE X e2 (rdE p W O fb))
    (hpe : PE X e1 (rdB p W O fa) → PE X e2 (rdE p W O fb) → PE X (.Call (.Attribute e1 "count" apos) [e2] [] cpos) (tBM X.K "str" (fun x xs H Q => ∃ a b, x = .str a ∧ xs = [.str b] ∧ Q (.int (Txt.count a b)) H) (rdB p W O fa) (tCons (rdE p W O fb) tNil)) := by
      exact fun a b => pe_bm PySem.F.plainAttrs_str PySem.F.slot_str_count PySem.F.type_str_count mt_count a (pa_cons b pa_nil)) :
    PE X (.Call (.Attribute e1 "count" apos) [e2] [] cpos) (rdE p W O (eCount fa fb)) := by
  refine pe_w (hpe ha hb) fun σ H Q ⟨Z, r, q⟩ => ⟨Z, r, post_imp (post_bind q) fun dx G1 H1 g1 q1 x rx => ?_⟩
  cases dx with
  | str s =>
    have ex := rx.str_inv
    subst ex
    refine ⟨rfl, Z.up G1, r.grow g1, post_imp (post_bind (r := fb Z.ρ) q1) fun dy G2 H2 g2 q2 y ry => ?_⟩
    unfold cntS at q2
    split at q2
    · rename_i c
      cases ry
      refine ⟨_, _, rfl, rfl, ?_⟩
      have e3 := PyProof.Rows.count_cnt ⟨s.toArray⟩ c
      have e4 : (⟨[c].toArray⟩ : Str) = ⟨#[c]⟩ := rfl
      rw [e4, e3, cnt_count]
      exact post_ok g2.below q2 _ (.int _)
    · exact q2.elim
  | _ => exact q1.elim
end
end PL
set_option Elab.async false
set_option linter.all false
set_option maxRecDepth 100000
set_option maxHeartbeats 4000000
namespace PL
open PySem PySem.Spec PyProof.Rows L2
def tTopVals (td : TE) : TE := fun σ H Q => td σ H fun x H1 => ∃ a es ms, x = V.ref a ∧ Rd H1 a (.dK es) ∧ es.map (·.2) = ms.map V.int ∧ ms ≠ [] ∧ ∀ m, m ∈ ms → (∀ j ∈ ms, j ≤ m) → Q (.int m) H1
section
variable {X : Cx} {o : Expr} {np np2 ap mp : Pos} {td : TE}
theorem pe_topVals (calm : X.calm = true) (gl : Gl X "max") (mm : X.mg "max" = none) (td_ok : PE X o td) (base : attributeBase o "values" X.env (eval o X.env) = eval o X.env := by rfl) (line : (ap.endLine == mp.line) = true := by rfl)
    (each : starEach [Expr.Call (.Attribute o "values" ap) [] [] mp] X.env = [(false, eval (Expr.Call (.Attribute o "values" ap) [] [] mp) X.env)] := by rfl) :
    PE X (.Call (.Name "max" np) [.Call (.Attribute o "values" ap) [] [] mp] [] np2) (tTopVals td) := by
  refine ⟨fun pins s σ H Q Iv hq => ?_⟩
  refine wpAny_Call_Name_kw (ld_blt Iv gl mm (u := .builtin "max") (by first | rfl | decide +kernel) ?_ (by first | decide +kernel | decide) (by first | decide +kernel | decide))
  rw [each]
  refine PySem.callWith_builtin1 (wpAny_Call_method0_late base line (thn (td_ok.run pins s σ H _ Iv hq) fun v s1 ⟨y, H1, I1, ry, d, es, ms, ey, hd, hv, ne, q⟩ => ?_))
  subst ey
  obtain rfl : v = Value.ref d := ry
  obtain ⟨_, hsys, us, rel, dof⟩ := dk_rd I1.hok hd
  obtain ⟨ep, dat⟩ := dof.dictAt
  obtain ⟨ob, _, ho, hx, _, _, _, _⟩ := id dat
  refine ⟨"dict", "dict.values", F.plainAttrs_dict, F.slot_dict_values, F.type_dict_values, ⟨ob, ho, hx.1⟩, fun b e => ?_, Calls.callWith_builtin rfl (PySem.evalArgs_none ?_)⟩
  · cases e
    exact ⟨ob, ho, hx.2.1⟩
  refine call_meetsIn F.slot_dict_values ⟨ob, ho, hx.1⟩ F.entry_dict_values (F.args_dict_values_1 _) (meets_dict_values (mixKind X.prog X.w) d hsys) ⟨⟨us, dof⟩, ?_⟩
  generalize hview : ({ cls := .type "dict_values", data := .fields #[.ref d] } : Obj) = view
  have up : ∀ b u, s1.heap.get? b = some u → (s1.heap.push view).get? b = some u := fun b u e => Heap.get?_push_of_some _ e
  have dat1 : (s1.heap.push view).DictAt (mixKind X.prog X.w) d us ep := dat.keep up
  have len2 : us.length = ms.length := by
    have e1 := congrArg List.length hv
    rw [List.length_map, List.length_map] at e1
    exact (KV.length rel).symm.trans e1
  have pos : 0 < us.length := by rw [len2]; exact List.length_pos_iff.mpr ne
  have val : ∀ (i : Nat) (v : Value), (∃ k, us[i]? = some (k, v)) → ∃ t, v = Value.int (ms.getD i 0) t := fun i v ⟨k, hk⟩ => by
    obtain ⟨y, h1, t0, h2⟩ : ∃ y, es[i]? = some (k, y) ∧ ∃ _t : Unit, RelV y v := by
      obtain ⟨y, h1, h2⟩ := KV.at' rel hk
      exact ⟨y, h1, (), h2⟩
    have e1 : (es.map (·.2))[i]? = some y := by rw [List.getElem?_map, h1]; rfl
    rw [hv, List.getElem?_map] at e1
    obtain ⟨j, hj, rfl⟩ := Option.map_eq_some_iff.mp e1
    obtain ⟨t, rfl⟩ := h2
    exact ⟨t, by rw [List.getD_eq_getElem?_getD, hj]; rfl⟩
  have dlt : d < s1.heap.objs.size := Heap.lt_size ho
  have size1 : (s1.heap.push view).objs.size = s1.heap.objs.size + 1 := Heap.size_push _ _
  have isv : (s1.heap.push view).get? s1.heap.objs.size = some view := Heap.get?_push_size _ (by rw [← hview]; rfl)
  refine call_max_walk (wpAny_pyIter_values (v := s1.heap.objs.size) (d := d) ⟨view, isv, by rw [← hview], by rw [← hview]⟩ dat1 ?_)
  refine ⟨_, _, _, _, _, _, _, rfl, Walks.dictValues (knd := mixKind X.prog X.w) (A := X.A.in1) (Iv.ok.hd calm) (s1.heap.push view).objs.size d (by rw [size1]; exact Nat.ne_of_lt (Nat.lt_succ_of_lt dlt)) us ep,
    ⟨⟨_, Heap.get?_push_size _ rfl, rfl, rfl⟩, dat1.keep fun b u e => Heap.get?_push_of_some _ e⟩, fun b hb => ?_, pos, CmpOf.ints_gt (fun i => ms.getD i 0) val, fun v h' tk hP kept => ?_⟩
  · rw [size1] at hb
    show b < ((s1.heap.push view).push _).objs.size
    rw [Heap.size_push, size1]
    rcases List.mem_cons.mp hb with e | hb
    · rw [e]; exact Nat.lt_succ_self _
    · rw [List.mem_singleton.mp hb]
      exact Nat.lt_succ_of_lt (Nat.lt_succ_of_lt dlt)
  · obtain ⟨t, rfl⟩ := val _ v hP
    obtain ⟨b1, b2⟩ := argBest_gt (fun i => ms.getD i 0) (us.length - 1)
    refine ⟨.int _, H1, I1.kept (t' := tk) fun b u e => kept b u (fun hm => ?_) (Heap.get?_push_of_some _ (up b u e)), ⟨t, rfl⟩, q _ ?_ fun j hj => ?_⟩
    · have e1 : b = (s1.heap.push view).objs.size := List.mem_singleton.mp hm
      have e2 := Heap.lt_size e
      rw [size1] at e1
      rw [e1] at e2
      exact absurd e2 (Nat.not_lt.mpr (Nat.le_succ _))
    · rw [List.getD_eq_getElem?_getD, List.getElem?_eq_getElem (show argBest (fun i j => decide (ms.getD i 0 > ms.getD j 0)) (us.length - 1) < ms.length by omega)]
      exact List.getElem_mem _
    · obtain ⟨i, hi, e⟩ := List.mem_iff_getElem.mp hj
      have e2 : ms.getD i 0 = j := by rw [List.getD_eq_getElem?_getD, List.getElem?_eq_getElem hi, ← e]; rfl
      rw [← e2]
      exact b2 i (by omega)
end
def tLowVals (td : TE) : TE := fun σ H Q => td σ H fun x H1 => ∃ a es ms, x = V.ref a ∧ Rd H1 a (.dK es) ∧ es.map (·.2) = ms.map V.int ∧ ms ≠ [] ∧ ∀ m, m ∈ ms → (∀ j ∈ ms, m ≤ j) → Q (.int m) H1
section
variable {X : Cx} {o : Expr} {np np2 ap mp : Pos} {td : TE}
theorem pe_lowVals (calm : X.calm = true) (gl : Gl X "min") (mm : X.mg "min" = none) (td_ok : PE X o td) (base : attributeBase o "values" X.env (eval o X.env) = eval o X.env := by rfl) (line : (ap.endLine == mp.line) = true := by rfl)
    (each : starEach [Expr.Call (.Attribute o "values" ap) [] [] mp] X.env = [(false, eval (Expr.Call (.Attribute o "values" ap) [] [] mp) X.env)] := by rfl) :
    PE X (.Call (.Name "min" np) [.Call (.Attribute o "values" ap) [] [] mp] [] np2) (tLowVals td) := by
  refine ⟨fun pins s σ H Q Iv hq => ?_⟩
  refine wpAny_Call_Name_kw (ld_blt Iv gl mm (u := .builtin "min") (by first | rfl | decide +kernel) ?_ (by first | decide +kernel | decide) (by first | decide +kernel | decide))
  rw [each]
  refine PySem.callWith_builtin1 (wpAny_Call_method0_late base line (thn (td_ok.run pins s σ H _ Iv hq) fun v s1 ⟨y, H1, I1, ry, d, es, ms, ey, hd, hv, ne, q⟩ => ?_))
  subst ey
  obtain rfl : v = Value.ref d := ry
  obtain ⟨_, hsys, us, rel, dof⟩ := dk_rd I1.hok hd
  obtain ⟨ep, dat⟩ := dof.dictAt
  obtain ⟨ob, _, ho, hx, _, _, _, _⟩ := id dat
  refine ⟨"dict", "dict.values", F.plainAttrs_dict, F.slot_dict_values, F.type_dict_values, ⟨ob, ho, hx.1⟩, fun b e => ?_, Calls.callWith_builtin rfl (PySem.evalArgs_none ?_)⟩
  · cases e
    exact ⟨ob, ho, hx.2.1⟩
  refine call_meetsIn F.slot_dict_values ⟨ob, ho, hx.1⟩ F.entry_dict_values (F.args_dict_values_1 _) (meets_dict_values (mixKind X.prog X.w) d hsys) ⟨⟨us, dof⟩, ?_⟩
  generalize hview : ({ cls := .type "dict_values", data := .fields #[.ref d] } : Obj) = view
  have up : ∀ b u, s1.heap.get? b = some u → (s1.heap.push view).get? b = some u := fun b u e => Heap.get?_push_of_some _ e
  have dat1 : (s1.heap.push view).DictAt (mixKind X.prog X.w) d us ep := dat.keep up
  have len2 : us.length = ms.length := by
    have e1 := congrArg List.length hv
    rw [List.length_map, List.length_map] at e1
    exact (KV.length rel).symm.trans e1
  have pos : 0 < us.length := by rw [len2]; exact List.length_pos_iff.mpr ne
  have val : ∀ (i : Nat) (v : Value), (∃ k, us[i]? = some (k, v)) → ∃ t, v = Value.int (ms.getD i 0) t := fun i v ⟨k, hk⟩ => by
    obtain ⟨y, h1, t0, h2⟩ : ∃ y, es[i]? = some (k, y) ∧ ∃ _t : Unit, RelV y v := by
      obtain ⟨y, h1, h2⟩ := KV.at' rel hk
      exact ⟨y, h1, (), h2⟩
    have e1 : (es.map (·.2))[i]? = some y := by rw [List.getElem?_map, h1]; rfl
    rw [hv, List.getElem?_map] at e1
    obtain ⟨j, hj, rfl⟩ := Option.map_eq_some_iff.mp e1
    obtain ⟨t, rfl⟩ := h2
    exact ⟨t, by rw [List.getD_eq_getElem?_getD, hj]; rfl⟩
  have dlt : d < s1.heap.objs.size := Heap.lt_size ho
  have size1 : (s1.heap.push view).objs.size = s1.heap.objs.size + 1 := Heap.size_push _ _
  have isv : (s1.heap.push view).get? s1.heap.objs.size = some view := Heap.get?_push_size _ (by rw [← hview]; rfl)
  refine call_min_walk (wpAny_pyIter_values (v := s1.heap.objs.size) (d := d) ⟨view, isv, by rw [← hview], by rw [← hview]⟩ dat1 ?_)
  refine ⟨_, _, _, _, _, _, _, rfl, Walks.dictValues (knd := mixKind X.prog X.w) (A := X.A.in1) (Iv.ok.hd calm) (s1.heap.push view).objs.size d (by rw [size1]; exact Nat.ne_of_lt (Nat.lt_succ_of_lt dlt)) us ep,
    ⟨⟨_, Heap.get?_push_size _ rfl, rfl, rfl⟩, dat1.keep fun b u e => Heap.get?_push_of_some _ e⟩, fun b hb => ?_, pos, CmpOf.ints_lt (fun i => ms.getD i 0) val, fun v h' tk hP kept => ?_⟩
  · rw [size1] at hb
    show b < ((s1.heap.push view).push _).objs.size
    rw [Heap.size_push, size1]
    rcases List.mem_cons.mp hb with e | hb
    · rw [e]; exact Nat.lt_succ_self _
    · rw [List.mem_singleton.mp hb]
      exact Nat.lt_succ_of_lt (Nat.lt_succ_of_lt dlt)
  · obtain ⟨t, rfl⟩ := val _ v hP
    obtain ⟨b1, b2⟩ := argBest_lt (fun i => ms.getD i 0) (us.length - 1)
    refine ⟨.int _, H1, I1.kept (t' := tk) fun b u e => kept b u (fun hm => ?_) (Heap.get?_push_of_some _ (up b u e)), ⟨t, rfl⟩, q _ ?_ fun j hj => ?_⟩
    · have e1 : b = (s1.heap.push view).objs.size := List.mem_singleton.mp hm
      have e2 := Heap.lt_size e
      rw [size1] at e1
      rw [e1] at e2
      exact absurd e2 (Nat.not_lt.mpr (Nat.le_succ _))
    · rw [List.getD_eq_getElem?_getD, List.getElem?_eq_getElem (show argBest (fun i j => decide (ms.getD i 0 < ms.getD j 0)) (us.length - 1) < ms.length by omega)]
      exact List.getElem_mem _
    · obtain ⟨i, hi, e⟩ := List.mem_iff_getElem.mp hj
      have e2 : ms.getD i 0 = j := by rw [List.getD_eq_getElem?_getD, List.getElem?_eq_getElem hi, ← e]; rfl
      rw [← e2]
      exact b2 i (by omega)
end
def maxV (d : D) : Res D := match d with
  | .dct es => (match intsOf (es.map (·.2)) with
    | some (n :: ns) => .ok (.int (maxI n ns))
    | _ => .bad)
  | _ => .bad
def minV (d : D) : Res D := match d with
  | .dct es => (match intsOf (es.map (·.2)) with
    | some (n :: ns) => .ok (.int (minI n ns))
    | _ => .bad)
  | _ => .bad
theorem maxI_is {n : Int} {ns : List Int} {m : Int} (hm : m ∈ n :: ns) (h : ∀ j ∈ n :: ns, j ≤ m) : m = maxI n ns := by
  obtain ⟨s1, s2, s3⟩ := maxI_spec ns n
  have a1 : maxI n ns ≤ m := by
    rcases s1 with e | e
    · rw [e]; exact h n (List.mem_cons_self ..)
    · exact h _ (List.mem_cons_of_mem _ e)
  have a2 : m ≤ maxI n ns := by
    rcases List.mem_cons.mp hm with e | e
    · rw [e]; exact s2
    · exact s3 m e
  omega
theorem minI_is {n : Int} {ns : List Int} {m : Int} (hm : m ∈ n :: ns) (h : ∀ j ∈ n :: ns, m ≤ j) : m = minI n ns := by
  obtain ⟨s1, s2, s3⟩ := minI_spec ns n
  have a1 : m ≤ minI n ns := by
    rcases s1 with e | e
    · rw [e]; exact h n (List.mem_cons_self ..)
    · exact h _ (List.mem_cons_of_mem _ e)
  have a2 : minI n ns ≤ m := by
    rcases List.mem_cons.mp hm with e | e
    · rw [e]; exact s2
    · exact s3 m e
  omega
section
variable {X : Cx} {p : Par} {W : WX} {O : List Nat} {np np2 ap mp : Pos} {o : Expr} {fa : Env → Res D}
theorem kv_ints {G : Hp} {es : List (Int × D)} {vs : List V} {ms : List Int} (rs : Reps p G vs (es.map (·.2))) (h : intsOf (es.map (·.2)) = some ms) : (dkv es vs).map (·.2) = ms.map V.int := by
  have e := ints_rep rs h
  have l := rs.length
  rw [List.length_map] at l
  rw [← e]
  unfold dkv
  rw [List.map_snd_zip]
  rw [List.length_map]
  omega
theorem r_maxVals (ha : PE X o (rdB p W O fa))
    (hpe : PE X o (rdB p W O fa) → PE X (.Call (.Name "max" np) [.Call (.Attribute o "values" ap) [] [] mp] [] np2) (tTopVals (rdB p W O fa))) :
    PE X (.Call (.Name "max" np) [.Call (.Attribute o "values" ap) [] [] mp] [] np2) (rdE p W O (eUn maxV fa)) := by
  refine pe_w (hpe ha) fun σ H Q ⟨Z, r, q⟩ => ⟨Z, r, post_imp (post_bind q) fun d G1 H1 g1 q1 v rv => ?_⟩
  unfold maxV at q1
  split at q1
  · rename_i es
    obtain ⟨a, vs, rfl, hr, rs⟩ := rv.dct_inv g1.below
    split at q1
    · rename_i n ns hn
      refine ⟨a, _, n :: ns, rfl, hr, kv_ints rs hn, by simp, fun m hm hj => ?_⟩
      rw [maxI_is hm hj]
      exact post_ok g1.below q1 _ (.int _)
    · exact q1.elim
  · exact q1.elim
theorem r_minVals (ha : PE X o (rdB p W O fa))
    (hpe : PE X o (rdB p W O fa) → PE X (.Call (.Name "min" np) [.Call (.Attribute o "values" ap) [] [] mp] [] np2) (tLowVals (rdB p W O fa))) :
    PE X (.Call (.Name "min" np) [.Call (.Attribute o "values" ap) [] [] mp] [] np2) (rdE p W O (eUn minV fa)) := by
  refine pe_w (hpe ha) fun σ H Q ⟨Z, r, q⟩ => ⟨Z, r, post_imp (post_bind q) fun d G1 H1 g1 q1 v rv => ?_⟩
  unfold minV at q1
  split at q1
  · rename_i es
    obtain ⟨a, vs, rfl, hr, rs⟩ := rv.dct_inv g1.below
    split at q1
    · rename_i n ns hn
      refine ⟨a, _, n :: ns, rfl, hr, kv_ints rs hn, by simp, fun m hm hj => ?_⟩
      rw [minI_is hm hj]
      exact post_ok g1.below q1 _ (.int _)
    · exact q1.elim
  · exact q1.elim
end
end PL
set_option Elab.async false
set_option linter.all false
set_option maxRecDepth 100000
set_option maxHeartbeats 4000000
namespace PL
open PySem PySem.Spec PyProof.Rows L2 HT
theorem back_adjust (n : Nat) : Builtin.Slice.sliceAdjust none none (-1) (n : Int) = ((n : Int) - 1, -1) := rfl
theorem back_places (n : Nat) : Builtin.Slice.slicePlaces ((n : Int) - 1) (-1) (-1) = n := by
  unfold Builtin.Slice.slicePlaces
  rw [if_neg (by decide : ¬ (-1 : Int) > 0)]
  by_cases h : (n : Int) - 1 > -1
  · rw [if_pos h, show (- -1 : Int) = 1 by decide, Int.ediv_one]
    omega
  · rw [if_neg h]
    omega
theorem back_pick (xs : Array Value) : (List.range xs.size).filterMap (fun (k : Nat) => xs[(((xs.size : Int) - 1) + (k : Int) * (-1)).toNat]?) = xs.toList.reverse := by
  have e1 : (fun (k : Nat) => xs[(((xs.size : Int) - 1) + (k : Int) * (-1)).toNat]?) = (fun i => xs[i]?) ∘ fun k => xs.size - 1 - k := by
    funext k
    show xs[_]? = xs[xs.size - 1 - k]?
    congr 1
    omega
  rw [e1, ← List.filterMap_map, PySem.W.krv_range, List.filterMap_reverse, PySem.W.krv_all]
section
variable {prog : Program} {w : World} {A : Around} {E : Value → Shared → Prop} {s : Shared}
theorem back_applied {sl : Addr} {u : Tok} {n : Nat} {Q : Int × Int × Nat → Shared → Prop} (hs : s.heap.IsSliceOf sl .none .none (.int (-1) u)) (h : Q ((n : Int) - 1, -1, n) s) :
    wpAny (model prog w) A (Builtin.Slice.sliceApplied (.ref sl) (pure (n : Int))) Q E s := by
  obtain ⟨ob, hob, hcl, hda⟩ := id hs
  unfold Builtin.Slice.sliceApplied Builtin.Slice.sliceFields
  refine wpAny_bind (wpAny_bind (wpAny_field hob hda (x := .none) rfl (wpAny_bind (wpAny_field hob hda (x := .none) rfl (wpAny_bind (wpAny_field hob hda (x := .int (-1) u) rfl (wpAny_pure ?_)))))))
  refine wpAny_bind (slicePart_int ?_)
  show wpAny _ _ (if ((-1 : Int) == 0) = true then _ else _) _ _ s
  rw [if_neg (by decide)]
  refine wpAny_bind (slicePart_none (wpAny_bind (slicePart_none (wpAny_bind (wpAny_pure ?_)))))
  show wpAny _ _ (match Builtin.Slice.sliceAdjust none none (-1) (n : Int) with | (lo, hi) => pure (lo, (-1 : Int), Builtin.Slice.slicePlaces lo hi (-1))) _ _ s
  rw [back_adjust]
  show wpAny _ _ (pure ((n : Int) - 1, (-1 : Int), Builtin.Slice.slicePlaces ((n : Int) - 1) (-1) (-1))) _ _ s
  rw [back_places]
  exact wpAny_pure h
theorem back_item {t sl : Addr} {items : Array Value} {u : Tok} {Q : Value → Shared → Prop} (tup : IsTup s.heap t items) (hs : s.heap.IsSliceOf sl .none .none (.int (-1) u))
    (h : Q (.ref s.heap.objs.size) { s with heap := s.heap.push { cls := .type "tuple", data := .seq items.toList.reverse.toArray } })
    (size : items.size ≤ sizeLine) : wpAny (model prog w) A (getItem (.ref t) (.ref sl)) Q E s := by
  have fits : sizeOk (.seq items.toList.reverse.toArray) := by
    show items.toList.reverse.toArray.size ≤ sizeLine
    rw [List.size_toArray, List.length_reverse, Array.length_toList]
    exact size
  obtain ⟨ob, hob, hcl, hda⟩ := id hs
  have isl : s.TypeIs (.ref sl) "slice" := ⟨ob, hob, hcl⟩
  unfold getItem
  try with_reducible refine wpAny_holding ?_
  first | refine wpAny_bind (wpAny_pure ?_) | skip
  refine wpAny_bind (wpAny_sequenceKey tup.typeIs (by decide) ?_)
  refine wpAny_bind (wpAny_callSpecial?_slot (name := Str.ofString "__getitem__") tup.typeIs PyProof.Rows.slot_tuple_getitem (wpAny_call_entry PyProof.Rows.slot_tuple_getitem tup.typeIs entry_tuple_getitem ?_ (args_tuple_getitem _ _)))
  show wpAny _ _ (Builtin.Tuple.tupleItemsOf (.ref t) >>= _) _ _ s
  refine wpAny_bind (tupleItemsOf_ tup ?_)
  refine wpAny_bind (wpAny_typeOf isl ?_)
  rw [if_pos (by decide)]
  refine wpAny_bind (back_applied hs ?_)
  have other : ¬ ((((items.size : Int) - 1) == 0 && (-1 : Int) == 1 && items.size == items.size) = true) := by
    rw [show ((-1 : Int) == 1) = false from rfl, Bool.and_false, Bool.false_and]
    exact Bool.false_ne_true
  show wpAny _ _ (if (((items.size : Int) - 1) == 0 && (-1 : Int) == 1 && items.size == items.size) = true then _ else _) _ _ s
  rw [if_neg other, back_pick]
  first
    | exact wpAny_bind (m := Builtin.Tuple.tupleExact _) (wpAny_newObj_type (wpAny_pure ⟨_, rfl, wpAny_pure h⟩) fits)
    | exact wpAny_bind (m := Builtin.Tuple.tupleExact _) (wpAny_newObj_type (wpAny_bind (wpAny_pure (wpAny_pure ⟨_, rfl, wpAny_pure h⟩))) fits)
    | exact wpAny_bind (wpAny_bind (m := Builtin.Tuple.tupleExact _) (wpAny_newObj_type (wpAny_pure (wpAny_pure ⟨_, rfl, wpAny_pure h⟩)) fits))
    | exact wpAny_bind (wpAny_bind (m := Builtin.Tuple.tupleExact _) (wpAny_newObj_type (wpAny_pure ⟨_, rfl, wpAny_pure h⟩) fits))
end
def tBackT (K : PySem.W.Frag) (te : TE) : TE := fun σ H Q => te σ H fun x H1 => ∃ a xs, x = .ref a ∧ SqT K H1 a xs ∧ ∀ p, H1 p = none → Q (.ref p) (upd H1 p (.tup xs.reverse))
theorem pe_backT {X : Cx} {e : Expr} {te : TE} {k : Nat} {p1 p2 p3 pos : Pos} (he : PE X e te) : PE X (.Subscript e (.Slice none none (some (.UnaryOp .USub (.Constant (.int 1) k p1) p2)) p3) pos) (tBackT X.K te) := by
  refine ⟨fun pins s σ H Q Iv hq => ?_⟩
  refine Subscript_ (thn (he.run pins s σ H _ Iv hq) fun v s1 ⟨x, H1, I1, r1, a, xs, ex, hx, q⟩ => ?_)
  subst ex
  cases r1
  have hst : PO X (some (.UnaryOp .USub (.Constant (.int 1) k p1) p2)) (tPart (tUn (rU fun i => .int (-i)) (tC (.int 1)))) := po_some (pe_un un_neg pe_int)
  refine wpAny_Slice (thn (po_none.run pins s1 σ H1 (fun o H2 => o = none ∧ H2 = H1) I1 ⟨rfl, rfl⟩) fun vl s2 ⟨l, H2, I2, pl, el, e2⟩ => ?_)
  subst el e2
  refine thn (po_none.run pins s2 σ H2 (fun o H3 => o = none ∧ H3 = H2) I2 ⟨rfl, rfl⟩) fun vu s3 ⟨u, H3, I3, pu, eu, e3⟩ => ?_
  subst eu e3
  refine thn (hst.run pins s3 σ H3 (fun o H4 => o = some (-1) ∧ H4 = H3) I3 ⟨1, rfl, -1, rfl, rfl, rfl⟩) fun vs s4 ⟨o, H4, I4, ps, eo, e4⟩ => ?_
  subst eo e4
  cases pl
  cases pu
  cases ps with
  | int _ u =>
    have I5 : Inv X pins σ H4 { s4 with heap := s4.heap.push { cls := .type "slice", data := .fields #[.none, .none, .int (-1) u] } } := I4.kept (t' := s4.toks) fun b ob q => Heap.get?_push_of_some _ q
    obtain ⟨its, r, ht, hz⟩ := I5.tuple hx
    have hlen := r.length
    show wpAny (model X.prog X.w) X.A (subscriptTail e (.Slice none none (some (.UnaryOp .USub (.Constant (.int 1) k p1) p2)) p3) (.ref a) (.ref s4.heap.objs.size)) (EP X pins σ Q) X.xe { s4 with heap := s4.heap.push { cls := .type "slice", data := .fields #[.none, .none, .int (-1) u] } }
    refine tail_any (ops := [.ref a, .ref s4.heap.objs.size]) ht.typeIs (PyProof.Rows.slot_tuple_getitem.lookup) ?_ (by with_unfolding_all rfl)
    refine back_item ht (Heap.IsSliceOf.new _ .none .none (.int (-1) u)) ?_ (by rw [List.size_toArray]; omega)
    exact ⟨.ref _, _, I5.laid (t' := s4.toks) (o := .tup xs.reverse) (fun b ob q => Heap.get?_push_of_some _ q) (Nat.le_refl _) ⟨by rw [List.length_reverse]; exact hz, _, r.reverse, IsTup.new _ _⟩, rfl, q _ (I5.hok.fresh (Nat.le_refl _))⟩
def revD : D → Res D
  | .tup ds => .ok (.tup ds.reverse)
  | _ => .bad
theorem r_rev {X : Cx} {p : Par} {W : WX} {O : List Nat} {e : Expr} {k : Nat} {p1 p2 p3 pos : Pos} {fa : Env → Res D} (hK : X.K = p.K) (ha : PE X e (rdB p W O fa)) :
    PE X (.Subscript e (.Slice none none (some (.UnaryOp .USub (.Constant (.int 1) k p1) p2)) p3) pos) (rdE p W O (eUn revD fa)) := by
  refine pe_w (pe_backT ha) fun σ H Q ⟨Z, r, q⟩ => ⟨Z, r, post_imp (post_bind q) fun d G1 H1 g1 q1 v rv => ?_⟩
  unfold revD at q1
  split at q1
  · rename_i ds
    obtain ⟨a, xs, rfl, hg, ha, rs⟩ := rv.tup_inv g1.below
    exact ⟨a, xs, rfl, .of ha, fun z hz => q1 _ _ (Grow.alloc g1.below hz) _ (.tup upd_same (rs.reverse.mono (Grow.alloc g1.below hz).sub))⟩
  · exact q1.elim
end PL
set_option Elab.async false
set_option linter.all false
set_option maxRecDepth 100000
set_option maxHeartbeats 4000000
namespace L2
open PySem PySem.Spec PyProof.Rows
section
variable {P : Program} {w : World} {A : Around} {E : Value → Shared → Prop} {s : Shared}
theorem call_set_lstI {l : Addr} {items : Array Value} (ns : List Int) {Q : Value → Shared → Prop} (hh : A.handled = none) (hl : s.heap.IsList l items) (hit : IntsAre items.toList ns) (hb : ns.length + 1 < scanBound)
    (h : ∀ (h' : Heap) (tk c : Nat), SetR w h' s.heap.objs.size (fun j => decide (j ∈ ns)) c → c ≤ ns.length → (∀ b o, s.heap.get? b = some o → h'.get? b = some o) → Q (.ref s.heap.objs.size) { s with heap := h', toks := tk }) :
    wpAny (model P w) A (call (.type "set") [.ref l]) Q E s := by
  have hisz : items.size = ns.length := by
    have q := IntsAre.length hit
    rw [Array.length_toList] at q
    exact q
  obtain ⟨c, tl, hmro⟩ := F.called_set.mro
  have hmade := F.called_set.made
  have hsub := F.called_set.sub
  refine wpAny_call (codeAny_of_tree ?_)
  show wpAny _ _ (callAny (.type "set") _) _ _ _
  refine wpAny_pure ⟨Code.quiet_builtin _ (by decide +kernel), codeAny_builtin F.entry_type_call ?_⟩
  rw [Around.under_plain (weight_type_call_type "set" [.ref l] []) rfl]
  have h1 := F.called_set.notType
  have h2 := F.called_set.canCreate
  have hct := F.typeCall_set_1 (.ref l)
  repeat (any_goals (first | assumption | wp_step))
  refine codeAny_mono (code_set_led1 (.ref l) (E := E) (Q₁ := fun obj s₁ => obj = .ref s.heap.objs.size ∧ s₁ = { s with heap := s.heap.push { cls := .type "set", dict := none, data := .set #[] 0 (.fresh 0 0 (!w.params.followText "set-order")) } }) ⟨rfl, rfl⟩) fun r s₁ hr => ?_
  cases r with
  | error e => exact hr
  | ok fl =>
    cases fl with
    | ret obj =>
      obtain ⟨rfl, rfl⟩ := hr
      have hS : (s.heap.push { cls := .type "set", dict := none, data := .set #[] 0 (.fresh 0 0 (!w.params.followText "set-order")) }).get? s.heap.objs.size = some { cls := .type "set", dict := none, data := .set #[] 0 (.fresh 0 0 (!w.params.followText "set-order")) } := Heap.get?_push_size _ rfl
      have hT : Shared.TypeIs { s with heap := s.heap.push { cls := .type "set", dict := none, data := .set #[] 0 (.fresh 0 0 (!w.params.followText "set-order")) } } (.ref s.heap.objs.size) "set" := ⟨_, hS, rfl⟩
      have hli := F.called_set.init.lookup
      have hbi := F.called_set.init.bind (.ref s.heap.objs.size)
      repeat (any_goals (first | assumption | wp_step))
      refine codeAny_mono (codeAny_call_builtin (R := wants (fun r s₂ => r = .none ∧ ∃ h' tk c, s₂ = { s with heap := h', toks := tk } ∧ SetR w h' s.heap.objs.size (fun j => decide (j ∈ ns)) c ∧ c ≤ ns.length ∧
          (∀ b o, s.heap.get? b = some o → h'.get? b = some o)) E) F.called_set.init.plain F.entry_set_init (check_set_init_1 hT ?_)) fun r₂ s₂ hr₂ => ?_
      · obtain ⟨ol, hol, hcl, nl, hdl⟩ := hl
        obtain ⟨ocls, odict, odata, oslots⟩ := ol
        simp only at hcl hdl
        subst hcl; subst hdl
        have hol' : (s.heap.push { cls := .type "set", dict := none, data := .set #[] 0 (.fresh 0 0 (!w.params.followText "set-order")) }).get? l = some { cls := .type "list", dict := odict, data := .seq items nl, slots := oslots } := Heap.get?_push_of_some _ hol
        have hsls := F.sub_list_set
        have hslf := F.sub_list_frozenset
        have hne : (Value.type "list" == Value.type "dict") = false := by decide
        have hl1 : (s.heap.push { cls := .type "set", dict := none, data := .set #[] 0 (.fresh 0 0 (!w.params.followText "set-order")) }).IsList l items := ⟨_, hol', rfl, nl, rfl⟩
        unfold Builtin.«set.__init__» noKeywords Builtin.Frozenset.updateFrom
        generalize hPI : pyIter = PI
        wp_walk
        subst hPI
        refine wpAny_pyIter_list hl1 ?_
        refine wpAny_bind (wpAny_runValue ?_)
        have hlS : l < s.heap.objs.size := Heap.lt_size hol
        have hh3 : A.in1.in1.in1.handled = none := by simp [hh]
        have hz1 : (s.heap.push { cls := .type "set", dict := none, data := .set #[] 0 (.fresh 0 0 (!w.params.followText "set-order")) }).objs.size = s.heap.objs.size + 1 := Heap.size_push ..
        have hneI : l ≠ (s.heap.push { cls := .type "set", dict := none, data := .set #[] 0 (.fresh 0 0 (!w.params.followText "set-order")) }).objs.size := by
          rw [Heap.size_push]; exact Nat.ne_of_lt (Nat.lt_succ_of_lt hlS)
        have hSf : s.heap.objs.size ∉ [(s.heap.push { cls := .type "set", dict := none, data := .set #[] 0 (.fresh 0 0 (!w.params.followText "set-order")) }).objs.size, l] := by
          rw [Heap.size_push]; simp only [List.mem_cons, List.mem_singleton, List.not_mem_nil, or_false, not_or]
          exact ⟨Nat.ne_of_lt (Nat.lt_succ_self _), Nat.ne_of_gt hlS⟩
        have hval : ∀ (i : Nat) (v : Value), items[i]? = some v → ∃ k t, ns[i]? = some k ∧ v = .int k t := fun i v hv => by
          have hi : i < ns.length := by rw [← hisz]; exact (Array.getElem?_eq_some_iff.mp hv).1
          obtain ⟨t, e⟩ := PyProof.Rows.IntsAre.int_at hit i v (by rw [Array.getElem?_toList]; exact hv)
          refine ⟨ns[i], t, List.getElem?_eq_getElem hi, ?_⟩
          rw [e, List.getD_eq_getElem?_getD, List.getElem?_eq_getElem hi] <;> rfl
        refine set_update_ints ((Walks.list hh3 _ l hneI items).toS) s.heap.objs.size
          hSf ns hisz hb hval (items.size - 0) 0 _ (by omega) (Nat.zero_le _)
          ⟨⟨_, Heap.get?_push_size _ rfl, rfl, rfl⟩, (hl1.push _)⟩ ?hS0 ?hR
        case hS0 =>
          have hget : ((s.heap.push { cls := .type "set", dict := none, data := .set #[] 0 (.fresh 0 0 (!w.params.followText "set-order")) }).push { cls := .type "list_iterator", data := .fields #[.ref l, .int 0 0] }).get? s.heap.objs.size
              = some { cls := .type "set", dict := none, data := .set #[] 0 (.fresh 0 0 (!w.params.followText "set-order")) } := Heap.get?_push_of_some _ hS
          exact ⟨0, Nat.le_refl 0, setR_new_at hget⟩
        case hR =>
          intro s' c' hm hc' hS'
          obtain ⟨h', g2, d', tk', os'⟩ := s'
          have eg : g2 = s.gens := hm.gens
          have ed : d' = s.drawn := hm.drawn
          have eo : os' = s.os := hm.os
          subst eg; subst ed; subst eo
          show wpAny _ _ _ _ _ _
          refine wpAny_pure ?_
          show wpAny _ _ (ret Value.none) _ _ _
          rw [hisz] at hc'
          refine wpAny_pure ⟨rfl, h', tk', c', rfl, hS', hc', fun b o e => ?_⟩
          have hb0 : b < s.heap.objs.size := Heap.lt_size e
          have hb1 : b ≠ s.heap.objs.size := Nat.ne_of_lt hb0
          have hb2 : b ≠ (s.heap.push { cls := .type "set", dict := none, data := .set #[] 0 (.fresh 0 0 (!w.params.followText "set-order")) }).objs.size := by
            rw [Heap.size_push]; exact Nat.ne_of_lt (Nat.lt_succ_of_lt hb0)
          exact hm.heap b o (by simp only [List.mem_cons, List.mem_singleton, List.not_mem_nil, or_false, not_or]; exact ⟨hb1, hb2⟩) (Heap.get?_push_of_some _ (Heap.get?_push_of_some _ e))
      · cases r₂ with
        | error e => exact hr₂
        | ok fl₂ =>
          cases fl₂ with
          | ret r =>
            obtain ⟨rfl, h', tk, c', rfl, hS', hc', hk'⟩ := hr₂
            repeat (any_goals (first | assumption | wp_step))
            exact h _ _ _ hS' hc' hk'
          | _ => exact hr₂.elim
    | _ => exact hr.elim
theorem sorted_setB {a : Addr} {S : Int → Bool} {n : Nat} {Q : Value → Shared → Prop} (R : SetR w s.heap a S n) (hh : A.handled = none)
    (hQ : ∀ s' p (out : Array Value) (c : Nat) (ns : List Int), (∀ b o, s.heap.get? b = some o → s'.heap.get? b = some o) → s'.gens = s.gens → s'.os = s.os → s.heap.objs.size ≤ p →
      s'.heap.get? p = some (seqObj "list" out c) → IntsAre out.toList ns → ns.Pairwise (· < ·) → (∀ k, k ∈ ns ↔ S k = true) → ns.length = n → Q (.ref p) s') :
    wpAny (model P w) A (call (.builtin "sorted") [.ref a]) Q E s := by
  obtain ⟨o, es, ep, t, ho, hex, hd, g, nd, hm, hb, hf, hn, hr, hl⟩ := R
  refine Calls.call_function_entry kind_sorted plain_sorted entry_sorted (args_sorted1 _) ?_
  unfold Builtin.«sorted»
  refine wpAny_bind (m := checkCount "sorted" 1 1 _) (wpAny_pure ?_)
  refine wpAny_bind (collect_set (A := A.in1) hh ⟨o, ho, hex.1, hd⟩ hf hb hr hl fun s1 vs k1 hz g1 o1 pm => ?_)
  have hvl : vs.length = n := by rw [pm.length_eq, List.length_map, Array.length_toList]; exact hn
  have hI : IntsAre vs (vs.map Builtin.Re.reRawOf) := ints_of vs fun v hv => by
    obtain ⟨e, he, q⟩ := List.mem_map.mp (pm.mem_iff.mp hv)
    obtain ⟨k, tk, h1, _⟩ := g e he
    exact ⟨k, tk, by rw [← q]; exact h1⟩
  have pk : (vs.map Builtin.Re.reRawOf).Perm (es.toList.map keyOf) := by
    have q := pm.map Builtin.Re.reRawOf
    rw [List.map_map] at q
    exact q
  have hsl : vs.length ≤ sizeLine := by
    rw [pm.length_eq, List.length_map, Array.length_toList]
    exact fits_of_scanBound hb
  refine wpAny_bind (wpAny_newList ?_ hsl)
  have hoL : (s1.heap.push (seqObj "list" vs.toArray 0)).get? s1.heap.objs.size = some (seqObj "list" vs.toArray 0) := Heap.get?_push_size _ rfl
  refine wpAny_bind (wpAny_holding (wpAny_call_entry slot_list_sort ⟨_, hoL, rfl⟩ entry_list_sort (SrtO.list_sort_ord SrtO.swo_int hoL hsl (fun h2 => SrtO.ints_sortable hI h2) fun out hs hst => ⟨_, rfl, ?_⟩) (args_list_sort _)))
  obtain ⟨a1, a2, a3⟩ := SrtO.ints_out hI hs hst
  obtain ⟨c, hc⟩ := sortedHeap_at (vs := vs) (out := out.toArray) hoL
  have pn : (out.map SrtO.iv).Perm (es.toList.map keyOf) := a2.trans pk
  refine wpAny_pure ⟨_, rfl, hQ _ s1.heap.objs.size out.toArray c (out.map SrtO.iv) (fun b u e => ?_) g1 o1 hz hc a1 (lt_of_le_nodup _ a3 (pn.nodup_iff.mpr nd)) (fun k => by rw [pn.mem_iff, ← hm k]) ?_⟩
  · have q := k1 b u e
    have hlt := Heap.lt_size q
    show (sortedHeap (s1.heap.push (seqObj "list" vs.toArray 0)) s1.heap.objs.size vs out.toArray).get? b = some u
    rw [sortedHeap_old (Nat.ne_of_lt hlt) (by rw [size_push']; exact Nat.lt_succ_of_lt hlt)]
    exact Heap.get?_push_of_some _ q
  · rw [pn.length_eq, List.length_map, Array.length_toList]; exact hn
end
def rSetLi (K : PySem.W.Frag) (w : World) : List V → Hp → VK → Prop := fun vs H Q => ∃ (l : Addr) (ns : List Int), vs = [V.ref l] ∧ SqL K H l (ns.map V.int) ∧ ns.length + 1 < scanBound ∧
  ∀ (a : Addr) (c : Nat), H a = none → Q (.ref a) (upd H a (SetO w a (fun j => decide (j ∈ ns)) c))
def rSortedSetB (w : World) : List V → Hp → VK → Prop := fun vs H Q => ∃ (a : Addr) (S : Int → Bool) (n : Nat), vs = [V.ref a] ∧ H a = some (SetO w a S n) ∧
  ∀ (ns : List Int) (p : Addr), ns.Pairwise (· < ·) → (∀ k : Int, k ∈ ns ↔ S k = true) → H p = none → Q (.ref p) (upd H p (.lst (ns.map V.int)))
section
variable {X : Cx}
theorem cr_setLi (hc : X.calm = true) : CallR X (.type "set") (rSetLi X.K X.w) := by
  intro pins s σ H vs us Q I r h
  obtain ⟨l, ns, rfl, hs, hb, q⟩ := h
  obtain ⟨its, rv, hl, hz⟩ := I.list hs
  rw [Vals.ref1 r]
  refine call_set_lstI ns (I.ok.hd hc) hl.isList (by simpa using rv.ints) hb fun h' tk c R hc2 k => ?_
  exact ⟨.ref _, upd H s.heap.objs.size (SetO X.w s.heap.objs.size (fun j => decide (j ∈ ns)) c), I.laid (t' := tk) k (Nat.le_refl _) (setO_new R), rfl, q _ _ (I.hok.fresh (Nat.le_refl _))⟩
theorem cr_sortedSetB (hc : X.calm = true) : CallR X (.builtin "sorted") (rSortedSetB X.w) := by
  intro pins s σ H vs us Q I r h
  obtain ⟨a, S, n, rfl, ha, q⟩ := h
  have R := setO_get I ha
  rw [Vals.ref1 r]
  have hb : n < scanBound := by
    obtain ⟨o, es, ep, t, ho, hex, hd, g, nd, hm, hb, hf, hn, hr, hl⟩ := R
    rw [← hn]; exact hb
  refine sorted_setB R (I.ok.hd hc) fun s' p out c ns k g o hp hg hi hs hm hl => ?_
  have hlen : (ns.map V.int).length ≤ sizeLine := by rw [List.length_map, hl]; exact fits_of_scanBound hb
  have hn : H p = none := I.hok.fresh hp
  have J : Inv X pins σ (upd H p (.lst (ns.map V.int))) { s with heap := s'.heap, gens := s'.gens, drawn := s'.drawn, toks := s'.toks } :=
    I.call (ch := []) (Un.laid k hp hn) (I.hok.laid k hp ⟨hlen, out.toList, c, vals_of_ints hi, hg⟩) (by rw [g]; exact I.bare) (fun _ z => nomatch z)
  have e : s' = { s with heap := s'.heap, gens := s'.gens, drawn := s'.drawn, toks := s'.toks } := by
    cases s'
    cases s
    cases o
    rfl
  rw [e]
  exact ⟨.ref p, _, J, rfl, q ns p hs hm hn⟩
end
end L2
namespace PL
open PySem PySem.Spec PyProof.Rows L2
def ddp : List Int → List Int
  | [] => []
  | x :: xs => if x ∈ xs then ddp xs else x :: ddp xs
theorem mem_ddp : ∀ {l : List Int} {x : Int}, x ∈ ddp l ↔ x ∈ l
  | [], x => Iff.rfl
  | y :: l, x => by
    unfold ddp
    split
    · rename_i h
      rw [mem_ddp, List.mem_cons]
      exact ⟨.inr, fun e => e.elim (fun e => e ▸ h) id⟩
    · rw [List.mem_cons, List.mem_cons, mem_ddp]
theorem ddp_nodup : ∀ l : List Int, (ddp l).Nodup
  | [] => .nil
  | y :: l => by
    unfold ddp
    split
    · exact ddp_nodup l
    · rename_i h
      exact List.nodup_cons.mpr ⟨fun e => h (mem_ddp.mp e), ddp_nodup l⟩
theorem ddp_len : ∀ l : List Int, (ddp l).length ≤ l.length
  | [] => Nat.le_refl _
  | y :: l => by
    have := ddp_len l
    unfold ddp
    split <;> simp only [List.length_cons] <;> omega
theorem lt_uniq : ∀ {l m : List Int}, l.Pairwise (· < ·) → m.Pairwise (· < ·) → (∀ x, x ∈ l ↔ x ∈ m) → l = m
  | [], [], _, _, _ => rfl
  | [], y :: m, _, _, h => absurd ((h y).mpr (List.mem_cons_self ..)) (by simp)
  | x :: l, [], _, _, h => absurd ((h x).mp (List.mem_cons_self ..)) (by simp)
  | x :: l, y :: m, hl, hm, h => by
    obtain ⟨a1, a2⟩ := List.pairwise_cons.mp hl
    obtain ⟨b1, b2⟩ := List.pairwise_cons.mp hm
    have hxy : x = y := by
      have h1 := (h x).mp (List.mem_cons_self ..)
      have h2 := (h y).mpr (List.mem_cons_self ..)
      rcases List.mem_cons.mp h1 with e | e
      · exact e
      · rcases List.mem_cons.mp h2 with e2 | e2
        · exact e2.symm
        · have := b1 x e
          have := a1 y e2
          omega
    subst hxy
    have : l = m := lt_uniq a2 b2 fun z => by
      constructor
      · intro hz
        rcases List.mem_cons.mp ((h z).mp (List.mem_cons_of_mem _ hz)) with e | e
        · have := a1 z hz; omega
        · exact e
      · intro hz
        rcases List.mem_cons.mp ((h z).mpr (List.mem_cons_of_mem _ hz)) with e | e
        · have := b1 z hz; omega
        · exact e
    rw [this]
def sset (ns : List Int) : List Int := isort ltI (ddp ns)
theorem sset_mem {ns : List Int} {x : Int} : x ∈ sset ns ↔ x ∈ ns := ((isort_perm ltI (ddp ns)).mem_iff).trans mem_ddp
theorem sset_lt (ns : List Int) : (sset ns).Pairwise (· < ·) := by
  refine lt_of_le_nodup _ ?_ ((isort_perm ltI (ddp ns)).nodup_iff.mpr (ddp_nodup ns))
  exact (isort_srt swoI (ddp ns)).imp fun {a b} h => Int.not_lt.mp (of_decide_eq_false h)
theorem sset_len (ns : List Int) : (sset ns).length ≤ ns.length := by
  unfold sset
  rw [(isort_perm ltI (ddp ns)).length_eq]
  exact ddp_len ns
theorem sset_eq {ns m : List Int} (hm : m.Pairwise (· < ·)) (h : ∀ x, x ∈ m ↔ x ∈ ns) : sset ns = m := lt_uniq (sset_lt ns) hm fun x => sset_mem.trans (h x).symm
def ssetD : List D → Res D
  | [.lst ds] => (match intsOf ds with
    | some ns => if ns.length < 4000 then .ok (.lst ((sset ns).map D.int)) else .bad
    | none => .bad)
  | _ => .bad
section
variable {X : Cx} {p : Par} {W : WX} {O : List Nat} {pos pos2 p' p2 : Pos} {e : Expr} {fs : Env → Res (List D)}
theorem r_sset (hK : X.K = p.K) (hc : X.calm = true) (hg : Gl X "sorted") (hm : X.mg "sorted" = none) (hg2 : Gl X "set") (hm2 : X.mg "set" = none) (ha : PA X [e] (rdAB p W O fs)) (he : starEach [e] X.env = (false, eval e X.env) :: starEach [] X.env := by rfl)
    (he2 : starEach [.Call (.Name "set" p2) [e] [] pos2] X.env = (false, eval (.Call (.Name "set" p2) [e] [] pos2) X.env) :: starEach [] X.env := by rfl) :
    PE X (.Call (.Name "sorted" p') [.Call (.Name "set" p2) [e] [] pos2] [] pos) (rdF p W O (eArgs ssetD fs)) := by
  have h1 := pe_callTy (p := p2) (pos := pos2) (cr_setLi hc) hg2 hm2 (by decide +kernel) ha (he := he)
  have h2 := pe_callB (p := p') (pos := pos) (cr_sortedSetB hc) hg hm (by decide +kernel) (pa_cons h1 pa_nil he2) (he := he2)
  refine pe_w h2 fun σ H Q ⟨Z, r, q⟩ => ?_
  refine ⟨Z, r, post_imp (post_bind q) fun ds G1 H1 g1 q1 vs rs => ?_⟩
  unfold ssetD at q1
  split at q1
  · obtain ⟨v, rfl, rv⟩ := paired1 rs
    obtain ⟨a, xs, rfl, ha, r2⟩ := rv.lst_inv g1.below
    split at q1
    · rename_i ns hn
      split at q1
      · rename_i hlt
        have ex := ints_rep r2 hn
        subst ex
        refine ⟨a, ns, rfl, by rw [hK]; exact .of ha, by unfold scanBound; omega, fun b c hb => ?_⟩
        refine ⟨b, _, c, rfl, upd_same, fun ms z hs hk hz => ?_⟩
        have e : ms = sset ns := (sset_eq hs fun x => by rw [hk x, decide_eq_true_eq]).symm
        subst e
        have g2 := Grow.allocO (o := SetO X.w b (fun j => decide (j ∈ ns)) c) g1.below hb
        exact q1 _ _ (.refl g1.below) z _ (g2.trans (Grow.allocO g2.below hz)) (by
          rw [upd_ne (fun e => by rw [e, upd_same] at hz; cases hz)] at hz
          exact hz) (.inl ⟨_, _, rfl, upd_same, Reps.of_ints _⟩)
      · exact q1.elim
    · exact q1.elim
  · exact q1.elim
end
end PL
set_option Elab.async false
set_option linter.all false
set_option maxRecDepth 100000
set_option maxHeartbeats 4000000
namespace PL
open PySem PySem.Spec PyProof.Rows L2
def repT : D → D → Res D
  | .tup s, .int k => if s ≠ [] ∧ 2 ≤ k ∧ k ≤ 1000 ∧ s.length ≤ 1000 then .ok (.tup (List.replicate k.toNat s).flatten) else .bad
  | _, _ => .bad
section
variable {p : Par}
theorem ok_repT : OpOk p (rRepT p.K) repT := by
  intro W σ G H Q x y dx dy b rx ry q
  unfold repT at q
  split at q
  · split at q
    · rename_i s k hl
      obtain ⟨a, xs, rfl, hg, ha, r1⟩ := rx.tup_inv b
      obtain rfl := ry.int_inv
      refine ⟨a, k, xs, rfl, rfl, .of ha, fun e => ?_, hl.2.1, hl.2.2.1, by rw [r1.length]; exact hl.2.2.2, fun z hz => ?_⟩
      · subst e
        have := r1.length
        exact hl.1 (List.length_eq_zero_iff.mp this.symm)
      · exact q _ _ (Grow.alloc b hz) _ (.tup upd_same ((r1.mono (Grow.alloc b hz).sub).rep _))
    · exact q.elim
  · exact q.elim
end
section
variable {X : Cx} {p : Par} {W : WX} {O : List Nat} {pos : Pos} {e1 e2 : Expr} {fa fb : Env → Res D}
theorem r_repT (hK : X.K = p.K) (ha : PE X e1 (rdB p W O fa)) (hb : PE X e2 (rdB p W O fb)) : PE X (.BinOp e1 .Mult e2 pos) (rdE p W O (eBin repT fa fb)) := r_bin op_repT (by rw [hK]; exact ok_repT) ha hb
end
end PL
set_option Elab.async false
set_option linter.all false
set_option maxRecDepth 100000
set_option maxHeartbeats 4000000
namespace L2
open PySem PySem.Spec PyProof.Rows
theorem isT_str {P : Program} {w : World} (k : Str) (u : Tok) : (strKind P w).is k (.str k u) = true := by
  show Value.isStrOf k (.str k u) = true
  simp [Value.isStrOf]
def keyS (e : Int × Value) : Str := match e.2 with | .str k _ => k | _ => Str.empty
def GoodS (w : World) (e : Int × Value) : Prop := ∃ k tk, e.2 = Value.str k tk ∧ e.1 = hashStr w k
def SetS (w : World) (h : Heap) (a : Addr) (S : Str → Bool) (n : Nat) : Prop :=
  ∃ o es ep t, h.get? a = some o ∧ o.ExactSet ∧ o.data = .set es ep t ∧ (∀ e ∈ es.toList, GoodS w e) ∧ (es.toList.map keyS).Nodup ∧ (∀ k, S k = true ↔ k ∈ es.toList.map keyS) ∧
    es.size < scanBound ∧ t.fits es.size = true ∧ es.size = n ∧ Ris t.place.toList ∧ (w.params.followText "set-order" = true ∨ t.led = true)
section
variable {P : Program} {w : World} {h h' : Heap} {a : Addr} {S : Str → Bool} {n : Nat}
theorem SetS.at (R : SetS w h a S n) (k : ∀ o, h.get? a = some o → h'.get? a = some o) : SetS w h' a S n := by
  obtain ⟨o, es, ep, t, ho, r⟩ := R
  exact ⟨o, es, ep, t, k o ho, r⟩
theorem SetS.congr {S' : Str → Bool} (R : SetS w h a S n) (e : ∀ k, S' k = S k) : SetS w h a S' n := by
  rw [show S' = S from funext e]; exact R
theorem goodS_elems {l : List (Int × Value)} (g : ∀ e ∈ l, GoodS w e) : ElemsOf (strKind P w) l := fun e he => by
  obtain ⟨k, tk, h1, h2⟩ := g e he
  exact ⟨⟨k, by rw [h1]; exact isT_str k tk, h2⟩, by rw [h1] <;> rfl⟩
theorem goodS_is {e : Int × Value} (g : GoodS w e) (k : Str) : (strKind P w).is k e.2 = true ↔ keyS e = k := by
  obtain ⟨k0, tk, h1, _⟩ := g
  unfold keyS
  rw [h1]
  constructor
  · intro q
    exact (strKind P w).inj (.str k0 tk) k0 k (isT_str k0 tk) q
  · intro q
    have q : k0 = k := q
    rw [← q]
    exact isT_str k0 tk
theorem goodS_mem {l : List (Int × Value)} (g : ∀ e ∈ l, GoodS w e) (k : Str) : k ∈ l.map keyS ↔ ∃ e ∈ l, (strKind P w).is k e.2 = true := by
  rw [List.mem_map]
  constructor
  · rintro ⟨e, he, q⟩
    exact ⟨e, he, (goodS_is (g e he) k).2 q⟩
  · rintro ⟨e, he, q⟩
    exact ⟨e, he, (goodS_is (g e he) k).1 q⟩
end
section
variable {P : Program} {w : World} {A : Around} {E : Value → Shared → Prop} {s : Shared} {a : Addr} {S : Str → Bool} {n : Nat}
theorem setS_add_tail {g : Bool → Sem Unit} (hg : ∀ (b : Bool) (s₁ : Shared) (Q' : Unit → Shared → Prop), Q' () s₁ → wpAny (model P w) A (g b) Q' E s₁)
    {o : Obj} {es : Array (Int × Value)} {ep : Nat} {t : SetTable} (ho : s.heap.get? a = some o) (hex : o.ExactSet) (hd : o.data = .set es ep t)
    {es1 : Array (Int × Value)} {t2 : SetTable} {S' : Str → Bool} (g1 : ∀ e ∈ es1.toList, GoodS w e) (nd1 : (es1.toList.map keyS).Nodup) (m1 : ∀ k, S' k = true ↔ k ∈ es1.toList.map keyS)
    (hb1 : es1.size < scanBound) (hf2 : t2.fits es1.size = true) (hr : Ris t2.place.toList) (hl : w.params.followText "set-order" = true ∨ t2.led = true) {wasDummy : Bool} {R : Option Bool → Shared → Prop}
    (hR : ∀ h', Heap.SameBut a s.heap h' → SetS w h' a S' es1.size → R (some true) { s with heap := h' }) :
    wpAny (model P w) A (do
        storeSet a es1 t2
        if (!wasDummy && t2.tooFull) = true then do
            g (relayAll t2 es1 (SetTable.grown es1.size)).2.2
            storeSet a (relayAll t2 es1 (SetTable.grown es1.size)).1 (relayAll t2 es1 (SetTable.grown es1.size)).2.1
            pure (some true)
          else pure (some true)) R E s := by
  refine wpAny_bind (wpAny_storeSet_of ho hd ?_ (fits_of_scanBound hb1))
  have ho1 := store_at (es' := es1) (t' := t2) ho hd
  have sb1 := Heap.SameBut.update s.heap a (Obj.putSet es1 t2)
  split
  · have pm := relayAll_perm t2 es1 (SetTable.grown es1.size)
    have hf3 := relayAll_fits t2 es1 (SetTable.grown es1.size)
    have hr3 := relayAll_ris t2 es1 (SetTable.grown es1.size)
    have hl3 := relayAll_led t2 es1 (SetTable.grown es1.size)
    generalize relayAll t2 es1 (SetTable.grown es1.size) = Z at pm hf3 hr3 hl3 ⊢
    obtain ⟨es2, t3, gave⟩ := Z
    dsimp only at pm hf3 hr3 hl3 ⊢
    have hsz : es2.size = es1.size := by rw [← Array.length_toList, pm.length_eq, Array.length_toList]
    have hb2 : es2.size < scanBound := by rw [hsz]; exact hb1
    refine wpAny_bind (hg _ _ _ ?_)
    refine wpAny_bind (wpAny_storeSet_of ho1 rfl ?_ (fits_of_scanBound hb2))
    have ho2 := store_at (es' := es2) (t' := t3) ho1 rfl
    refine wpAny_pure (hR _ (sb1.trans (Heap.SameBut.update _ a _)) ?_)
    exact ⟨_, es2, _, t3, ho2, hex, rfl, fun e he => g1 e (pm.mem_iff.mp he), (pm.map keyS).nodup_iff.mpr nd1, fun k => (m1 k).trans (pm.map keyS).mem_iff.symm, hb2, hf3, hsz, hr3,
      hl.imp id fun z => by rw [hl3]; exact z⟩
  · exact wpAny_pure (hR _ sb1 ⟨_, es1, _, t2, ho1, hex, rfl, g1, nd1, m1, hb1, hf2, rfl, hr, hl⟩)
theorem setS_add_hashed {k : Str} {tk : Tok} {Q : Bool → Shared → Prop} (R : SetS w s.heap a S n) (room : n + 1 < scanBound)
    (hQ : ∀ h', Heap.SameBut a s.heap h' → SetS w h' a (fun j => S j || decide (j = k)) (if S k = true then n else n + 1) → Q (!S k) { s with heap := h' }) :
    wpAny (model P w) A (setAddHashed a (.str k tk) ((strKind P w).hash k)) Q E s := by
  obtain ⟨o, es, ep, t, ho, hex, hd, g, nd, hm, hb, hf, hn, hr, hl⟩ := R
  have hkey : (strKind P w).is k (.str k tk) = true := isT_str k tk
  have hsc : (Value.str k tk).scannable = true := rfl
  have hel : ElemsOf (strKind P w) es.toList := goodS_elems g
  unfold setAddHashed setAddHashedIn
  refine wpAny_holding (wpAny_bind (wpAny_setState_of ho hd hf ?_))
  dsimp only
  rw [byScan_of hsc hb hel]
  simp only [↓reduceIte]
  unfold setAddByScan
  refine wpAny_bind ?_
  refine wpAny_bind (wpAny_rule ?_)
  refine wpAny_bind (wpAny_setScan_of hkey ho hd hf hel ?_)
  cases hfi : List.findIdx? (fun e => (strKind P w).is k e.2) es.toList with
  | some j =>
    dsimp only
    obtain ⟨hj, pj, _⟩ := List.findIdx?_eq_some_iff_getElem.mp hfi
    have hSk : S k = true := (hm k).2 ((goodS_mem (P := P) (w := w) g k).2 ⟨es.toList[j], List.getElem_mem hj, pj⟩)
    refine wpAny_pure (wpAny_pure ?_)
    have q := hQ s.heap (Heap.SameBut.refl a s.heap) ⟨o, es, ep, t, ho, hex, hd, g, nd, fun i => by
      rw [Bool.or_eq_true, decide_eq_true_eq, ← hm i]
      exact ⟨fun z => z.elim id (fun e => e ▸ hSk), .inl⟩, hb, hf, by rw [if_pos hSk]; exact hn, hr, hl⟩
    rw [hSk] at q
    exact q
  | none =>
    dsimp only
    have hnk : k ∉ es.toList.map keyS := fun z => by
      obtain ⟨e, he, q⟩ := (goodS_mem (P := P) (w := w) g k).1 z
      have c := List.findIdx?_eq_none_iff.mp hfi e he
      rw [q] at c
      cases c
    have hSk : S k = false := by
      cases q : S k with
      | false => rfl
      | true => exact absurd ((hm k).1 q) hnk
    have hgw : ∀ (b : Bool) {s₁ : Shared} {Q' : Unit → Shared → Prop}, Q' () s₁ → wpAny (model P w) A (match b with | true => rule "set.scan.the-table-gave-way" | false => pure ()) Q' E s₁ :=
      fun b s₁ Q' q => by cases b <;> first | exact wpAny_pure q | exact wpAny_rule q
    have pm := layNew_perm t es ((strKind P w).hash k) (.str k tk)
    have hf1 := layNew_fits t es ((strKind P w).hash k) (.str k tk)
    have hr1 := layNew_ris t es ((strKind P w).hash k) (.str k tk) hr
    have hl1 := layNew_led t es ((strKind P w).hash k) (.str k tk)
    generalize layNew t es ((strKind P w).hash k) (.str k tk) = Z at pm hf1 hr1 hl1 ⊢
    obtain ⟨es1, t1, wasDummy, gave⟩ := Z
    dsimp only at pm hf1 hr1 hl1 ⊢
    rw [Array.toList_push] at pm
    have pc : es1.toList.Perm (((strKind P w).hash k, Value.str k tk) :: es.toList) := pm.trans (List.perm_append_singleton _ _)
    have pk : (es1.toList.map keyS).Perm (k :: es.toList.map keyS) := pc.map keyS
    have g1 : ∀ e ∈ es1.toList, GoodS w e := fun e he => by
      rcases List.mem_cons.mp (pc.mem_iff.mp he) with z | z
      · rw [z]; exact ⟨k, tk, rfl, rfl⟩
      · exact g e z
    have nd1 : (es1.toList.map keyS).Nodup := pk.nodup_iff.mpr (List.nodup_cons.mpr ⟨hnk, nd⟩)
    have m1 : ∀ i, (S i || decide (i = k)) = true ↔ i ∈ es1.toList.map keyS := fun i => by
      rw [Bool.or_eq_true, decide_eq_true_eq, hm i, pk.mem_iff, List.mem_cons]
      exact Or.comm
    have hsz : es1.size = n + 1 := by rw [← Array.length_toList, pc.length_eq, List.length_cons, Array.length_toList, hn]
    have hb1 : es1.size < scanBound := by rw [hsz]; exact room
    have hled : w.params.followText "set-order" = true ∨ t1.led = true := hl.imp id fun z => by rw [hl1]; exact z
    have fin : ∀ h', Heap.SameBut a s.heap h' → SetS w h' a (fun j => S j || decide (j = k)) es1.size → Q true { s with heap := h' } := fun h' sb r => by
      have q := hQ h' sb
      rw [hSk] at q
      rw [hsz] at r
      exact q r
    refine wpAny_bind (hgw _ ?_)
    split
    · refine wpAny_bind ?_
      rw [hashByValue_scannable 8 hsc]
      refine wpAny_pure ?_
      refine setS_add_tail ?_ ho hex hd g1 nd1 m1 hb1 ?_ ?_ ?_ ?_
      · intro b s₁ Q' q; cases b <;> first | exact wpAny_pure q | exact wpAny_rule q
      · first | (split <;> first | exact hf1 | exact SetTable.fits_plain_off hf1) | exact hf1
      · first | (split <;> exact hr1) | exact hr1
      · first | (split <;> exact hled) | exact hled
      · intro h' sb r; dsimp only; exact wpAny_pure (fin h' sb r)
    · refine wpAny_bind (wpAny_pure ?_)
      simp only [↓reduceIte]
      refine setS_add_tail ?_ ho hex hd g1 nd1 m1 hb1 hf1 hr1 hled ?_
      · intro b s₁ Q' q; cases b <;> first | exact wpAny_pure q | exact wpAny_rule q
      · intro h' sb r; dsimp only; exact wpAny_pure (fin h' sb r)
theorem setS_new_at {w : World} {h : Heap} {a : Addr} {ns : List Str} (ho : h.get? a = some { cls := .type "set", dict := none, data := .set #[] 0 (.fresh 0 0 (!w.params.followText "set-order")) }) : SetS w h a (fun j => decide (j ∈ ns.take 0)) 0 :=
  ⟨_, #[], 0, _, ho, ⟨rfl, rfl, rfl⟩, rfl, (fun e he => by simp at he), (by simp), (fun k => by simp), (by decide), (by rfl), rfl, List.Pairwise.nil, by
    show _ ∨ (!w.params.followText "set-order") = true
    cases w.params.followText "set-order"
    · exact .inr rfl
    · exact .inl rfl⟩
theorem set_update_strs {I : Addr} {fp wr : List Addr} {G : Array GenState → Array GenState → Prop} {n : Nat} {Pv : Nat → Value → Prop} {St : Nat → Shared → Prop} {R : Result → Shared → Prop}
    (W : WalksS P w A.in1 I fp wr G n Pv St) (S : Addr) (hSf : S ∉ fp) (ns : List Str) (hn : n = ns.length) (hb : ns.length + 1 < scanBound) (hval : ∀ i v, Pv i v → ∃ k t, ns[i]? = some k ∧ v = .str k t) :
    ∀ (k i : Nat) (s : Shared), n - i = k → i ≤ n → St i s → (∃ c, c ≤ i ∧ SetS w s.heap S (fun j => decide (j ∈ ns.take i)) c) →
      (∀ s' c, Moved (S :: wr) G s s' → c ≤ n → SetS w s'.heap S (fun j => decide (j ∈ ns)) c → R (.ok (.ret .none)) s') →
      codeAny (model P w) A (.builtin "set.update.loop" ⟨[.ref S, .ref I], []⟩) R s := by
  have hSw : S ∉ wr := fun h => hSf (W.sub _ h)
  have hsub : ∀ b ∈ wr, b ∈ S :: wr := fun b hb => List.mem_cons_of_mem _ hb
  intro k
  induction k with
  | zero =>
    intro i s hk' hi hst ⟨c, hc, hS⟩ hR
    have hin : i = n := by omega
    subst hin
    refine codeAny_builtin F.entry_set_update_loop ?_
    rw [Around.under_plainId F.plain_set_update_loop _]
    show wpAny _ A.in1 (pyNext (.ref I) >>= _) _ _ s
    refine wpAny_bind (W.done s _ _ hst fun s' hm => ?_)
    show wpAny _ A.in1 (ret Value.none) _ _ s'
    have e : ns.take i = ns := List.take_of_length_le (by omega)
    rw [e] at hS
    exact wpAny_pure (hR s' c (hm.mono hsub) hc (hS.at fun o e => hm.heap S o hSw e))
  | succ k ih =>
    intro i s hk' hi hst ⟨c, hc, hS⟩ hR
    have hlt : i < n := by omega
    refine codeAny_builtin F.entry_set_update_loop ?_
    rw [Around.under_plainId F.plain_set_update_loop _]
    show wpAny _ A.in1 (pyNext (.ref I) >>= _) _ _ s
    refine wpAny_bind (W.item i s _ _ hlt hst fun v s' hP hst' hm => ?_)
    obtain ⟨z, t, hz, rfl⟩ := hval i v hP
    have hS' : SetS w s'.heap S (fun j => decide (j ∈ ns.take i)) c := hS.at fun o e => hm.heap S o hSw e
    show wpAny _ A.in1 (holding [Value.str z t] (setAdd S (.str z t)) >>= _) _ _ s'
    refine wpAny_bind (wpAny_holding ?_)
    unfold setAdd
    refine wpAny_holding ?_
    refine wpAny_bind ((strKind P w).pyHash (k := z) (isT_str _ _) ?_)
    refine setS_add_hashed (s := { s' with toks := s'.toks + 1 }) hS' (by omega) fun h' hsb hS2 => ?_
    have hS3 : SetS w h' S (fun j => decide (j ∈ ns.take (i + 1))) (if decide (z ∈ ns.take i) = true then c else c + 1) := hS2.congr fun j => by
      rw [List.take_add_one, hz]
      simp [List.mem_append]
    have hc3 : (if decide (z ∈ ns.take i) = true then c else c + 1) ≤ i + 1 := by
      split <;> omega
    refine wpAny_pure ⟨plainId_quiet F.plain_set_update_loop _, ih (i + 1) _ (by omega) hlt (W.frame _ s' _ _ hst' (Nat.le_succ _) fun b hb o e => ?_) ⟨_, hc3, hS3⟩ fun s'' c2 hm'' hc'' hS'' => ?_⟩
    · rw [hsb.2 b (fun h : b = S => hSf (by rw [← h]; exact hb))]; exact e
    · refine hR s'' c2 (Moved.trans W.gtrans ((hm.mono hsub).then_heap (Nat.le_succ _) fun b o hb e => ?_) hm'') hc'' hS''
      rw [hsb.2 b (fun h : b = S => hb (by rw [h]; exact List.mem_cons_self))]; exact e
theorem call_set_lstT {l : Addr} {items : Array Value} (ns : List Str) {Q : Value → Shared → Prop} (hh : A.handled = none) (hl : s.heap.IsList l items) (hit : StrsAre items.toList ns) (hb : ns.length + 1 < scanBound)
    (h : ∀ (h' : Heap) (tk c : Nat), SetS w h' s.heap.objs.size (fun j => decide (j ∈ ns)) c → c ≤ ns.length → (∀ b o, s.heap.get? b = some o → h'.get? b = some o) → Q (.ref s.heap.objs.size) { s with heap := h', toks := tk }) :
    wpAny (model P w) A (call (.type "set") [.ref l]) Q E s := by
  have hisz : items.size = ns.length := by
    rw [← StrsAre.len_eq hit, Array.length_toList]
  obtain ⟨c, tl, hmro⟩ := F.called_set.mro
  have hmade := F.called_set.made
  have hsub := F.called_set.sub
  refine wpAny_call (codeAny_of_tree ?_)
  show wpAny _ _ (callAny (.type "set") _) _ _ _
  refine wpAny_pure ⟨Code.quiet_builtin _ (by decide +kernel), codeAny_builtin F.entry_type_call ?_⟩
  rw [Around.under_plain (weight_type_call_type "set" [.ref l] []) rfl]
  have h1 := F.called_set.notType
  have h2 := F.called_set.canCreate
  have hct := F.typeCall_set_1 (.ref l)
  repeat (any_goals (first | assumption | wp_step))
  refine codeAny_mono (code_set_led1 (.ref l) (E := E) (Q₁ := fun obj s₁ => obj = .ref s.heap.objs.size ∧ s₁ = { s with heap := s.heap.push { cls := .type "set", dict := none, data := .set #[] 0 (.fresh 0 0 (!w.params.followText "set-order")) } }) ⟨rfl, rfl⟩) fun r s₁ hr => ?_
  cases r with
  | error e => exact hr
  | ok fl =>
    cases fl with
    | ret obj =>
      obtain ⟨rfl, rfl⟩ := hr
      have hS : (s.heap.push { cls := .type "set", dict := none, data := .set #[] 0 (.fresh 0 0 (!w.params.followText "set-order")) }).get? s.heap.objs.size = some { cls := .type "set", dict := none, data := .set #[] 0 (.fresh 0 0 (!w.params.followText "set-order")) } := Heap.get?_push_size _ rfl
      have hT : Shared.TypeIs { s with heap := s.heap.push { cls := .type "set", dict := none, data := .set #[] 0 (.fresh 0 0 (!w.params.followText "set-order")) } } (.ref s.heap.objs.size) "set" := ⟨_, hS, rfl⟩
      have hli := F.called_set.init.lookup
      have hbi := F.called_set.init.bind (.ref s.heap.objs.size)
      repeat (any_goals (first | assumption | wp_step))
      refine codeAny_mono (codeAny_call_builtin (R := wants (fun r s₂ => r = .none ∧ ∃ h' tk c, s₂ = { s with heap := h', toks := tk } ∧ SetS w h' s.heap.objs.size (fun j => decide (j ∈ ns)) c ∧ c ≤ ns.length ∧
          (∀ b o, s.heap.get? b = some o → h'.get? b = some o)) E) F.called_set.init.plain F.entry_set_init (check_set_init_1 hT ?_)) fun r₂ s₂ hr₂ => ?_
      · obtain ⟨ol, hol, hcl, nl, hdl⟩ := hl
        obtain ⟨ocls, odict, odata, oslots⟩ := ol
        simp only at hcl hdl
        subst hcl; subst hdl
        have hol' : (s.heap.push { cls := .type "set", dict := none, data := .set #[] 0 (.fresh 0 0 (!w.params.followText "set-order")) }).get? l = some { cls := .type "list", dict := odict, data := .seq items nl, slots := oslots } := Heap.get?_push_of_some _ hol
        have hsls := F.sub_list_set
        have hslf := F.sub_list_frozenset
        have hne : (Value.type "list" == Value.type "dict") = false := by decide
        have hl1 : (s.heap.push { cls := .type "set", dict := none, data := .set #[] 0 (.fresh 0 0 (!w.params.followText "set-order")) }).IsList l items := ⟨_, hol', rfl, nl, rfl⟩
        unfold Builtin.«set.__init__» noKeywords Builtin.Frozenset.updateFrom
        generalize hPI : pyIter = PI
        wp_walk
        subst hPI
        refine wpAny_pyIter_list hl1 ?_
        refine wpAny_bind (wpAny_runValue ?_)
        have hlS : l < s.heap.objs.size := Heap.lt_size hol
        have hh3 : A.in1.in1.in1.handled = none := by simp [hh]
        have hz1 : (s.heap.push { cls := .type "set", dict := none, data := .set #[] 0 (.fresh 0 0 (!w.params.followText "set-order")) }).objs.size = s.heap.objs.size + 1 := Heap.size_push ..
        have hneI : l ≠ (s.heap.push { cls := .type "set", dict := none, data := .set #[] 0 (.fresh 0 0 (!w.params.followText "set-order")) }).objs.size := by
          rw [Heap.size_push]; exact Nat.ne_of_lt (Nat.lt_succ_of_lt hlS)
        have hSf : s.heap.objs.size ∉ [(s.heap.push { cls := .type "set", dict := none, data := .set #[] 0 (.fresh 0 0 (!w.params.followText "set-order")) }).objs.size, l] := by
          rw [Heap.size_push]; simp only [List.mem_cons, List.mem_singleton, List.not_mem_nil, or_false, not_or]
          exact ⟨Nat.ne_of_lt (Nat.lt_succ_self _), Nat.ne_of_gt hlS⟩
        have hval : ∀ (i : Nat) (v : Value), items[i]? = some v → ∃ k t, ns[i]? = some k ∧ v = .str k t := fun i v hv => by
          have hi : i < ns.length := by rw [← hisz]; exact (Array.getElem?_eq_some_iff.mp hv).1
          obtain ⟨t, e⟩ := SS.strs_at hit i v (by rw [Array.getElem?_toList]; exact hv)
          refine ⟨ns[i], t, List.getElem?_eq_getElem hi, ?_⟩
          rw [e, List.getD_eq_getElem?_getD, List.getElem?_eq_getElem hi] <;> rfl
        refine set_update_strs ((Walks.list hh3 _ l hneI items).toS) s.heap.objs.size
          hSf ns hisz hb hval (items.size - 0) 0 _ (by omega) (Nat.zero_le _)
          ⟨⟨_, Heap.get?_push_size _ rfl, rfl, rfl⟩, (hl1.push _)⟩ ?hS0 ?hR
        case hS0 =>
          have hget : ((s.heap.push { cls := .type "set", dict := none, data := .set #[] 0 (.fresh 0 0 (!w.params.followText "set-order")) }).push { cls := .type "list_iterator", data := .fields #[.ref l, .int 0 0] }).get? s.heap.objs.size
              = some { cls := .type "set", dict := none, data := .set #[] 0 (.fresh 0 0 (!w.params.followText "set-order")) } := Heap.get?_push_of_some _ hS
          exact ⟨0, Nat.le_refl 0, setS_new_at hget⟩
        case hR =>
          intro s' c' hm hc' hS'
          obtain ⟨h', g2, d', tk', os'⟩ := s'
          have eg : g2 = s.gens := hm.gens
          have ed : d' = s.drawn := hm.drawn
          have eo : os' = s.os := hm.os
          subst eg; subst ed; subst eo
          show wpAny _ _ _ _ _ _
          refine wpAny_pure ?_
          show wpAny _ _ (ret Value.none) _ _ _
          rw [hisz] at hc'
          refine wpAny_pure ⟨rfl, h', tk', c', rfl, hS', hc', fun b o e => ?_⟩
          have hb0 : b < s.heap.objs.size := Heap.lt_size e
          have hb1 : b ≠ s.heap.objs.size := Nat.ne_of_lt hb0
          have hb2 : b ≠ (s.heap.push { cls := .type "set", dict := none, data := .set #[] 0 (.fresh 0 0 (!w.params.followText "set-order")) }).objs.size := by
            rw [Heap.size_push]; exact Nat.ne_of_lt (Nat.lt_succ_of_lt hb0)
          exact hm.heap b o (by simp only [List.mem_cons, List.mem_singleton, List.not_mem_nil, or_false, not_or]; exact ⟨hb1, hb2⟩) (Heap.get?_push_of_some _ (Heap.get?_push_of_some _ e))
      · cases r₂ with
        | error e => exact hr₂
        | ok fl₂ =>
          cases fl₂ with
          | ret r =>
            obtain ⟨rfl, h', tk, c', rfl, hS', hc', hk'⟩ := hr₂
            repeat (any_goals (first | assumption | wp_step))
            exact h _ _ _ hS' hc' hk'
          | _ => exact hr₂.elim
    | _ => exact hr.elim
end
end L2
namespace PL
open PySem PySem.Spec PyProof.Rows L2
theorem permN {α : Type} [DecidableEq α] {l m : List α} (hl : l.Nodup) (hm : m.Nodup) (h : ∀ x, x ∈ l ↔ x ∈ m) : l.Perm m := by
  refine List.perm_iff_count.mpr fun x => ?_
  rw [hl.count, hm.count]
  by_cases hx : x ∈ l
  · rw [if_pos hx, if_pos ((h x).mp hx)]
  · rw [if_neg hx, if_neg fun hh => hx ((h x).mpr hh)]
theorem strN {x y : Str} (h : x.cps.toList = y.cps.toList) : x = y := congrArg (fun l : List Nat => (⟨l.toArray⟩ : Str)) h
section
variable {P : Program} {w : World} {A : Around} {E : Value → Shared → Prop} {s : Shared}
theorem sorted_setT {a : Addr} {S : Str → Bool} {n : Nat} {Q : Value → Shared → Prop} (R : SetS w s.heap a S n) (hh : A.handled = none)
    (hQ : ∀ s' p (out : List Value) (c : Nat) (ss : List (List Nat)), (∀ b o, s.heap.get? b = some o → s'.heap.get? b = some o) → s'.gens = s.gens → s'.os = s.os → s.heap.objs.size ≤ p →
      s'.heap.get? p = some (seqObj "list" out.toArray c) → StrsAre out (ss.map fun z => (⟨z.toArray⟩ : Str)) → ss.Pairwise (fun a b => ltS b a = false) → ss.Nodup → (∀ z, z ∈ ss ↔ S ⟨z.toArray⟩ = true) → ss.length = n → Q (.ref p) s') :
    wpAny (model P w) A (call (.builtin "sorted") [.ref a]) Q E s := by
  obtain ⟨o, es, ep, t, ho, hex, hd, g, nd, hm, hb, hf, hn, hr, hl⟩ := R
  refine Calls.call_function_entry kind_sorted plain_sorted entry_sorted (args_sorted1 _) ?_
  unfold Builtin.«sorted»
  refine wpAny_bind (m := checkCount "sorted" 1 1 _) (wpAny_pure ?_)
  refine wpAny_bind (collect_set (A := A.in1) hh ⟨o, ho, hex.1, hd⟩ hf hb hr hl fun s1 vs k1 hz g1 o1 pm => ?_)
  have hvl : vs.length = n := by rw [pm.length_eq, List.length_map, Array.length_toList]; exact hn
  have hvs : ∀ v ∈ vs, ∃ x t, v = Value.str x t := fun v hv => by
    obtain ⟨e, he, q⟩ := List.mem_map.mp (pm.mem_iff.mp hv)
    obtain ⟨k, tk, h1, _⟩ := g e he
    exact ⟨k, tk, by rw [← q]; exact h1⟩
  have hI := strs_sv hvs
  have eK : es.toList.map (fun e => svS e.2) = (es.toList.map keyS).map (fun x : Str => x.cps.toList) := by
    rw [List.map_map]
    refine List.map_congr_left fun e he => ?_
    obtain ⟨k, tk, h1, _⟩ := g e he
    show svS e.2 = (keyS e).cps.toList
    unfold keyS
    rw [h1]
    rfl
  have pk : (vs.map svS).Perm ((es.toList.map keyS).map (fun x : Str => x.cps.toList)) := by
    have q := pm.map svS
    rw [List.map_map] at q
    rw [← eK]
    exact q
  have nd2 : ((es.toList.map keyS).map (fun x : Str => x.cps.toList)).Nodup := List.pairwise_map.mpr (nd.imp fun h e => h (strN e))
  have hsl : vs.length ≤ sizeLine := by
    rw [pm.length_eq, List.length_map, Array.length_toList]
    exact fits_of_scanBound hb
  refine wpAny_bind (wpAny_newList ?_ hsl)
  have hoL : (s1.heap.push (seqObj "list" vs.toArray 0)).get? s1.heap.objs.size = some (seqObj "list" vs.toArray 0) := Heap.get?_push_size _ rfl
  refine wpAny_bind (wpAny_holding (wpAny_call_entry slot_list_sort ⟨_, hoL, rfl⟩ entry_list_sort (SrtO.list_sort_ord swoSv hoL hsl (fun h2 => strs_sortable hI h2) fun out hs hst => ⟨_, rfl, ?_⟩) (args_list_sort _)))
  obtain ⟨c, hc⟩ := sortedHeap_at (vs := vs) (out := out.toArray) hoL
  have po : (out.map svS).Perm ((es.toList.map keyS).map (fun x : Str => x.cps.toList)) := (hst.perm.map svS).trans pk
  have hos : StrsAre out ((out.map svS).map fun z => (⟨z.toArray⟩ : Str)) := by
    rw [List.map_map]
    exact strs_sv fun v hv => hvs v (hst.perm.mem_iff.mp hv)
  refine wpAny_pure ⟨_, rfl, hQ _ s1.heap.objs.size out c (out.map svS) (fun b u e => ?_) g1 o1 hz hc hos (List.pairwise_map.mpr (hs.imp fun h => h)) (po.nodup_iff.mpr nd2) (fun z => ?_) ?_⟩
  · have q := k1 b u e
    have hlt := Heap.lt_size q
    show (sortedHeap (s1.heap.push (seqObj "list" vs.toArray 0)) s1.heap.objs.size vs out.toArray).get? b = some u
    rw [sortedHeap_old (Nat.ne_of_lt hlt) (by rw [size_push']; exact Nat.lt_succ_of_lt hlt)]
    exact Heap.get?_push_of_some _ q
  · rw [po.mem_iff, hm, List.mem_map]
    constructor
    · rintro ⟨x, hx, rfl⟩; exact hx
    · intro hx; exact ⟨_, hx, rfl⟩
  · rw [po.length_eq, List.length_map, List.length_map, Array.length_toList]; exact hn
end
def SetTx (w : World) (a : Addr) (S : Str → Bool) (n : Nat) : HO := .ext fun h => SetS w h a S n
section
variable {X : Cx}
theorem setTx_new {w : World} {P : Program} {H : Hp} {h : Heap} {a : Addr} {S : Str → Bool} {n : Nat} (R : SetS w h a S n) : ObjOk P w H h a (SetTx w a S n) := by
  have ⟨o, _, _, _, ho, _⟩ := R
  exact ⟨R, ⟨o, ho⟩, fun h1 h2 p k => SetS.at p k⟩
theorem setTx_get {pins : List (Addr × Obj)} {σ : L2.St} {H : Hp} {s : Shared} {a : Addr} {S : Str → Bool} {n : Nat} (I : Inv X pins σ H s) (ha : H a = some (SetTx X.w a S n)) : SetS X.w s.heap a S n := (I.hok a _ ha).1
def rSetLt (K : PySem.W.Frag) (w : World) : List V → Hp → VK → Prop := fun vs H Q => ∃ (l : Addr) (ns : List Str), vs = [V.ref l] ∧ SqL K H l (ns.map V.str) ∧ ns.length + 1 < scanBound ∧
  ∀ (a : Addr) (c : Nat), H a = none → Q (.ref a) (upd H a (SetTx w a (fun j => decide (j ∈ ns)) c))
def rSortedSetT (w : World) : List V → Hp → VK → Prop := fun vs H Q => ∃ (a : Addr) (S : Str → Bool) (n : Nat), vs = [V.ref a] ∧ H a = some (SetTx w a S n) ∧
  ∀ (ss : List (List Nat)) (p : Addr), ss.Pairwise (fun a b => ltS b a = false) → ss.Nodup → (∀ z, z ∈ ss ↔ S ⟨z.toArray⟩ = true) → H p = none → Q (.ref p) (upd H p (.lst (ss.map fun z => V.str ⟨z.toArray⟩)))
theorem cr_setLt (hc : X.calm = true) : CallR X (.type "set") (rSetLt X.K X.w) := by
  intro pins s σ H vs us Q I r h
  obtain ⟨l, ns, rfl, hs, hb, q⟩ := h
  obtain ⟨its, rv, hl, hz⟩ := I.list hs
  rw [Vals.ref1 r]
  refine call_set_lstT ns (I.ok.hd hc) hl.isList (by simpa using rv.strs) hb fun h' tk c R hc2 k => ?_
  exact ⟨.ref _, upd H s.heap.objs.size (SetTx X.w s.heap.objs.size (fun j => decide (j ∈ ns)) c), I.laid (t' := tk) k (Nat.le_refl _) (setTx_new R), rfl, q _ _ (I.hok.fresh (Nat.le_refl _))⟩
theorem cr_sortedSetT (hc : X.calm = true) : CallR X (.builtin "sorted") (rSortedSetT X.w) := by
  intro pins s σ H vs us Q I r h
  obtain ⟨a, S, n, rfl, ha, q⟩ := h
  have R := setTx_get I ha
  rw [Vals.ref1 r]
  have hb : n < scanBound := by
    obtain ⟨o, es, ep, t, ho, hex, hd, g, nd, hm, hb, hf, hn, hr, hl⟩ := R
    rw [← hn]; exact hb
  refine sorted_setT R (I.ok.hd hc) fun s' p out c ss k g o hp hg hi hs hnd hm hl => ?_
  have hlen : (ss.map fun z => V.str ⟨z.toArray⟩).length ≤ sizeLine := by rw [List.length_map, hl]; exact fits_of_scanBound hb
  have hn : H p = none := I.hok.fresh hp
  have e2 : (ss.map fun z => (⟨z.toArray⟩ : Str)).map V.str = ss.map fun z => V.str ⟨z.toArray⟩ := by rw [List.map_map]; rfl
  have J : Inv X pins σ (upd H p (.lst (ss.map fun z => V.str ⟨z.toArray⟩))) { s with heap := s'.heap, gens := s'.gens, drawn := s'.drawn, toks := s'.toks } :=
    I.call (ch := []) (Un.laid k hp hn) (I.hok.laid k hp ⟨hlen, out, c, by rw [← e2]; exact vals_of_strs hi, hg⟩) (by rw [g]; exact I.bare) (fun _ z => nomatch z)
  have e : s' = { s with heap := s'.heap, gens := s'.gens, drawn := s'.drawn, toks := s'.toks } := by
    cases s'
    cases s
    cases o
    rfl
  rw [e]
  exact ⟨.ref p, _, J, rfl, q ss p hs hnd hm hn⟩
end
def ddpS : List (List Nat) → List (List Nat)
  | [] => []
  | x :: xs => if x ∈ xs then ddpS xs else x :: ddpS xs
theorem mem_ddpS : ∀ {l : List (List Nat)} {x : List Nat}, x ∈ ddpS l ↔ x ∈ l
  | [], x => Iff.rfl
  | y :: l, x => by
    unfold ddpS
    split
    · rename_i h
      rw [mem_ddpS, List.mem_cons]
      exact ⟨.inr, fun e => e.elim (fun e => e ▸ h) id⟩
    · rw [List.mem_cons, List.mem_cons, mem_ddpS]
theorem ddpS_nodup : ∀ l : List (List Nat), (ddpS l).Nodup
  | [] => .nil
  | y :: l => by
    unfold ddpS
    split
    · exact ddpS_nodup l
    · rename_i h
      exact List.nodup_cons.mpr ⟨fun e => h (mem_ddpS.mp e), ddpS_nodup l⟩
def ssetT (ss : List (List Nat)) : List (List Nat) := isort ltS (ddpS ss)
theorem ssetT_eq {ss m : List (List Nat)} (hs : m.Pairwise (fun a b => ltS b a = false)) (hn : m.Nodup) (h : ∀ x, x ∈ m ↔ x ∈ ss) : m = ssetT ss :=
  isort_uniq swoS antiS (permN hn (ddpS_nodup ss) fun x => (h x).trans mem_ddpS.symm) hs
def ssetS : List D → Res D
  | [.lst ds] => (match strsOf ds with
    | some ss => if ss.length < 4000 then .ok (.lst ((ssetT ss).map D.str)) else .bad
    | none => .bad)
  | _ => .bad
section
variable {X : Cx} {p : Par} {W : WX} {O : List Nat} {pos pos2 p' p2 : Pos} {e : Expr} {fs : Env → Res (List D)}
theorem r_ssetS (hK : X.K = p.K) (hc : X.calm = true) (hg : Gl X "sorted") (hm : X.mg "sorted" = none) (hg2 : Gl X "set") (hm2 : X.mg "set" = none) (ha : PA X [e] (rdAB p W O fs)) (he : starEach [e] X.env = (false, eval e X.env) :: starEach [] X.env := by rfl)
    (he2 : starEach [.Call (.Name "set" p2) [e] [] pos2] X.env = (false, eval (.Call (.Name "set" p2) [e] [] pos2) X.env) :: starEach [] X.env := by rfl) :
    PE X (.Call (.Name "sorted" p') [.Call (.Name "set" p2) [e] [] pos2] [] pos) (rdF p W O (eArgs ssetS fs)) := by
  have h1 := pe_callTy (p := p2) (pos := pos2) (cr_setLt hc) hg2 hm2 (by decide +kernel) ha (he := he)
  have h2 := pe_callB (p := p') (pos := pos) (cr_sortedSetT hc) hg hm (by decide +kernel) (pa_cons h1 pa_nil he2) (he := he2)
  refine pe_w h2 fun σ H Q ⟨Z, r, q⟩ => ?_
  refine ⟨Z, r, post_imp (post_bind q) fun ds G1 H1 g1 q1 vs rs => ?_⟩
  unfold ssetS at q1
  split at q1
  · obtain ⟨v, rfl, rv⟩ := paired1 rs
    obtain ⟨a, xs, rfl, ha, r2⟩ := rv.lst_inv g1.below
    split at q1
    · rename_i ss hn
      split at q1
      · rename_i hlt
        have ex := strs_rep r2 hn
        subst ex
        refine ⟨a, ss.map fun z => (⟨z.toArray⟩ : Str), rfl, by rw [hK, List.map_map]; exact .of ha, by rw [List.length_map]; unfold scanBound; omega, fun b c hb => ?_⟩
        refine ⟨b, _, c, rfl, upd_same, fun ms z hs hnd hk hz => ?_⟩
        have e : ms = ssetT ss := ssetT_eq hs hnd fun x => by
          rw [hk x, decide_eq_true_eq, List.mem_map]
          constructor
          · rintro ⟨y, hy, e⟩
            have : y = x := congrArg (fun s : Str => s.cps.toList) e
            exact this ▸ hy
          · exact fun h => ⟨x, h, rfl⟩
        subst e
        have g2 := Grow.allocO (o := SetTx X.w b (fun j => decide (j ∈ ss.map fun z => (⟨z.toArray⟩ : Str))) c) g1.below hb
        exact q1 _ _ (.refl g1.below) z _ (g2.trans (Grow.allocO g2.below hz)) (by
          rw [upd_ne (fun e => by rw [e, upd_same] at hz; cases hz)] at hz
          exact hz) (.inl ⟨_, _, rfl, upd_same, strs_reps _⟩)
      · exact q1.elim
    · exact q1.elim
  · exact q1.elim
end
inductive Ty where
  | int | bl | str | tup | lst
def Ty.nm : Ty → String
  | .int => "int"
  | .bl => "bool"
  | .str => "str"
  | .tup => "tuple"
  | .lst => "list"
def isiD : Ty → D → Res D
  | T, .non => .ok (.bl (match T with | .int => false | .bl => false | .str => false | .tup => false | .lst => false))
  | T, .bl _ => .ok (.bl (match T with | .int => true | .bl => true | .str => false | .tup => false | .lst => false))
  | T, .int _ => .ok (.bl (match T with | .int => true | .bl => false | .str => false | .tup => false | .lst => false))
  | T, .str _ => .ok (.bl (match T with | .int => false | .bl => false | .str => true | .tup => false | .lst => false))
  | T, .tup _ => .ok (.bl (match T with | .int => false | .bl => false | .str => false | .tup => true | .lst => false))
  | T, .lst _ => .ok (.bl (match T with | .int => false | .bl => false | .str => false | .tup => false | .lst => true))
  | T, .dct _ => .ok (.bl (match T with | .int => false | .bl => false | .str => false | .tup => false | .lst => false))
  | _, _ => .bad
section
variable {X : Cx} {p : Par} {W : WX} {O : List Nat} {pos p' pt : Pos} {e : Expr} {fa : Env → Res D}
theorem kit_all (T : Ty) : kitB "NoneType" T.nm = some (match T with | .int => false | .bl => false | .str => false | .tup => false | .lst => false) ∧ kitB "bool" T.nm = some (match T with | .int => true | .bl => true | .str => false | .tup => false | .lst => false) ∧
    kitB "int" T.nm = some (match T with | .int => true | .bl => false | .str => false | .tup => false | .lst => false) ∧ kitB "str" T.nm = some (match T with | .int => false | .bl => false | .str => true | .tup => false | .lst => false) ∧
    kitB "tuple" T.nm = some (match T with | .int => false | .bl => false | .str => false | .tup => true | .lst => false) ∧ kitB "list" T.nm = some (match T with | .int => false | .bl => false | .str => false | .tup => false | .lst => true) ∧
    kitB "dict" T.nm = some (match T with | .int => false | .bl => false | .str => false | .tup => false | .lst => false) := by
  cases T <;> decide +kernel
theorem r_isi (T : Ty) (hK : X.K = p.K) (hg : Gl X "isinstance") (hm : X.mg "isinstance" = none) {x : Str} (hgt : Gl X x) (hmt : X.mg x = none) (hx : bootBuiltins x = some (.type T.nm)) (ha : PE X e (rdB p W O fa))
    (hxn : x ≠ "__name__" := by decide) (hxd : (x == ("__debug__" : Str)) = false := by decide)
    (he : starEach [e, .Name x pt] X.env = (false, eval e X.env) :: starEach [.Name x pt] X.env := by rfl) (he2 : starEach [.Name x pt] X.env = (false, eval (.Name x pt) X.env) :: starEach [] X.env := by rfl) (hpl : (backTo pos (starEach [.Name x pt] X.env)).any (·.1) = false := by rfl) :
    PE X (.Call (.Name "isinstance" p') [e, .Name x pt] [] pos) (rdE p W O (eUn (isiD T) fa)) := by
  have ht : PE X (.Name x pt) (tC (.ty T.nm)) := pe_bltn hgt hmt hx rfl hxn hxd
  have h2 := pe_callB (p := p') (pos := pos) call_isi hg hm (by decide +kernel) (pa_cons ha (pa_cons ht pa_nil he2) he) (he := he) (hpl := hpl)
  refine pe_w h2 fun σ H Q ⟨Z, r, q⟩ => ⟨Z, r, post_imp (post_bind q) fun d G1 H1 g1 q1 v rv => ?_⟩
  obtain ⟨k1, k2, k3, k4, k5, k6, k7⟩ := kit_all T
  have fin : ∀ (t : String) (b : Bool), TyX X.K H1 v (.type t) → kitB t T.nm = some b → isiD T d = .ok (.bl b) → rIsi X.K [v, .ty T.nm] H1 Q := fun t b hty hk hd => by
    rw [hd] at q1
    exact ⟨v, _, _, _, b, rfl, .ty _, hty, kit_ty hk, post_ok g1.below q1 _ (.bl b)⟩
  show rIsi X.K [v, .ty T.nm] H1 Q
  cases d with
  | non => obtain rfl := rv.non_inv; exact fin _ _ (.base .non) k1 rfl
  | bl b => obtain rfl := rv.bl_inv; exact fin _ _ (.base (.bl _)) k2 rfl
  | int i => obtain rfl := rv.int_inv; exact fin _ _ (.base (.int _)) k3 rfl
  | str s => obtain rfl := rv.str_inv; exact fin _ _ (.base (.str _)) k4 rfl
  | tup ds => obtain ⟨a, xs, rfl, _, ha, _⟩ := rv.tup_inv g1.below; exact fin _ _ (.base (.tup ha)) k5 rfl
  | lst ds => obtain ⟨a, xs, rfl, ha, _⟩ := rv.lst_inv g1.below; exact fin _ _ (.base (.lst ha)) k6 rfl
  | dct es =>
    rcases rv with h | ⟨a, e, h⟩
    · cases h with
      | dct h _ => exact fin _ _ (.fDict (g1.below _ _ h)) k7 rfl
    · rcases h with ⟨_, _, e2, _⟩ | ⟨es', vs, e2, h, _⟩
      · cases e2
      · subst e; exact fin _ _ (.base (.dK h)) k7 rfl
  | scr ns => exact q1.elim
  | ins c ds => exact q1.elim
end
def sumT : List D → Res D
  | [.tup ds] => (match intsOf ds with
    | some ns => .ok (.int ns.sum)
    | none => .bad)
  | _ => .bad
def rSumT (K : PySem.W.Frag) : List V → Hp → VK → Prop := fun vs H Q => ∃ (a : Addr) (ns : List Int), vs = [V.ref a] ∧ SqT K H a (ns.map V.int) ∧ Q (.int ns.sum) H
theorem cr_sumT {X : Cx} (hc : X.calm = true) : CallR X (.builtin "sum") (rSumT X.K) := by
  intro pins s σ H vs us Q I r h
  obtain ⟨a, ns, rfl, hs, q⟩ := h
  obtain ⟨its, rv, hl, _⟩ := I.tuple hs
  rw [Vals.ref1 r]
  have hi := rv.ints
  obtain ⟨xs, e⟩ := hi.allInts.items
  have hn : numsOf (intItems xs).toList = ns := by rw [← e]; exact hi.numsOf
  rw [nums_intItems] at hn
  rw [e] at hl
  refine PySem.W.ktm_sumG (I.ok.hd hc) hl fun h' tk t' hk => ?_
  rw [preSum_eq, List.take_of_length_le (by simp), hn]
  exact ⟨.int _, H, I.kept hk, ⟨_, rfl⟩, q⟩
theorem ok_sumT {p : Par} : CallOk p (rSumT p.K) sumT := by
  intro W σ G H Q vs ds b rs q
  unfold sumT at q
  split at q
  · obtain ⟨v, rfl, r⟩ := paired1 rs
    obtain ⟨a, xs, rfl, _, ha, r2⟩ := r.tup_inv b
    split at q
    · rename_i ns hn
      have ex := ints_rep r2 hn
      subst ex
      exact ⟨a, ns, rfl, .of ha, post_ok b q _ (.int _)⟩
    · exact q.elim
  · exact q.elim
section
variable {X : Cx} {p : Par} {W : WX} {O : List Nat} {pos p' : Pos} {e : Expr} {fs : Env → Res (List D)}
theorem r_sumT (hK : X.K = p.K) (hc : X.calm = true) (hg : Gl X "sum") (hm : X.mg "sum" = none) (ha : PA X [e] (rdAB p W O fs)) (he : starEach [e] X.env = (false, eval e X.env) :: starEach [] X.env := by rfl) : PE X (.Call (.Name "sum" p') [e] [] pos) (rdE p W O (eArgs sumT fs)) := by
  have h : CallR X (.builtin "sum") (rSumT p.K) := by rw [← hK]; exact cr_sumT hc
  exact r_blt h ok_sumT hg hm (by decide +kernel) ha (he := he)
end
end PL
set_option Elab.async false
set_option linter.all false
set_option maxRecDepth 100000
set_option maxHeartbeats 4000000
namespace L2
open PySem PySem.Spec PyProof.Rows GenW
section
variable {M : Model} {A : Around} {R : GenEnd} {Y : Protocol} {n : Nat} {s₀ : Shared} {c : Code} {fs : List Frame} {s : Shared} {env : Env}
  {K : Flow → Sem PySem.Fin} {H : Value → Sem PySem.Fin} {gd : Bool → Bool} {lv : List Value → List Value}
theorem seg_For {target iter : Expr} {body orelse : List Stmt} {pos : Pos}
    (h : wpAny M (A.over c fs) (eval iter env) (fun x s₁ => wpAny M (A.over c fs) (pyIter x) (fun it s₂ => ∀ p, Seg M A R Y n s₀ (.forLoop target it body orelse env) (M.den (.forLoop target it body orelse env))
      (.ret (fun r => ((match r with | .ok f => (.pure f : Sem Flow) | .error e => .raise e).onRaise (cameBack env)).wrap K H gd lv) none (gd false) (lv []) c p [] :: fs) s₂)
        (fun x s' => Seg M A R Y n s₀ c (H x) fs s') s₁) (fun x s' => Seg M A R Y n s₀ c (H x) fs s') s)
    (hs : ∀ x, foldedSetIterable iter env x = pure x) :
    Seg M A R Y n s₀ c ((exec (.For target iter body orelse pos) env).wrap K H gd lv) fs s := by
  rw [exec_For]
  refine seg_bind_wrap (wpAny_standAt ?_)
  refine seg_bind_wrap (wpAny_mono h (fun x s₁ h₁ => ?_) fun _ _ e => e)
  refine seg_bind_wrap (wpAny_of_eq (hs x) ?_)
  refine seg_bind_wrap (wpAny_standAt ?_)
  refine seg_bind_wrap (wpAny_holding (wpAny_mono h₁ (fun it s₂ h₂ => ?_) fun _ _ e => e))
  exact seg_call h₂
end
def lpExc (env : Env) (e : Value) : Sem PySem.Fin := ((do noteFrame e env; theTreesLotGoes e : Sem Unit).bind fun _ => (Sem.raise e : Sem PySem.Fin))
section
variable {prog : Program} {w : World} {A : Around} {R : GenEnd} {Y : Protocol} {n : Nat} {s₀ : Shared} {fs : List Frame} {s : Shared} {env : Env}
theorem seg_forLoop {target : Expr} {it : Value} {body : List Stmt}
    (h : wpAny (model prog w) (A.over (.forLoop target it body [] env) fs) (pyNext it) (fun r s₁ => match r with
        | none => ∀ c, Seg (model prog w) A R Y n s₀ c (.pure (.done .next)) fs s₁
        | some v => wpAny (model prog w) (A.over (.forLoop target it body [] env) fs) (letOwnedTupleGo target it v) (fun _ s₁' => wpAny (model prog w) (A.over (.forLoop target it body [] env) fs) (assign target env v) (fun _ s₂ =>
            Seg (model prog w) A R Y n s₀ (.forLoop target it body [] env) ((execs body env).wrap (fun f => match f with
              | .next | .cont => .pure (.again (.forLoop target it body [] env))
              | .brk => .pure (.done .next)
              | .ret v => .pure (.done (.ret v))) (lpExc env) id id) fs s₂)
            (fun x s' => Seg (model prog w) A R Y n s₀ (.forLoop target it body [] env) (lpExc env x) fs s') s₁')
            (fun x s' => Seg (model prog w) A R Y n s₀ (.forLoop target it body [] env) (lpExc env x) fs s') s₁)
        (fun x s' => Seg (model prog w) A R Y n s₀ (.forLoop target it body [] env) (lpExc env x) fs s') s) :
    Seg (model prog w) A R Y n s₀ (.forLoop target it body [] env) ((model prog w).den (.forLoop target it body [] env)) fs s := by
  show Seg _ A R Y n s₀ _ ((forTurn target it body [] env).onRaise (fun x => do noteFrame x env; theTreesLotGoes x)) fs s
  unfold forTurn
  rw [Sem.onRaise_eq_wrap]
  refine seg_bind_wrap (wpAny_standAt ?_)
  refine seg_bind_wrap (wpAny_onRaise (wpAny_mono h (fun r s₁ h₁ => ?_) fun x s' hx => wpAny_standAt hx))
  cases r with
  | none => exact seg_again (c' := .block [] env) rfl (h₁ _)
  | some v =>
    refine seg_bind_wrap (wpAny_mono h₁ (fun _ s₁' h₁' => ?_) fun x s' hx => hx)
    refine seg_bind_wrap (wpAny_mono h₁' (fun _ s₂ h₂ => ?_) fun x s' hx => hx)
    rw [Sem.bind_eq_wrap', Sem.wrap_wrap]
    refine Eq.mpr (congrArg (fun t => Seg (model prog w) A R Y n s₀ (.forLoop target it body [] env) t fs s₂) (Sem.wrap_congr (execs body env) (K' := fun f => match f with
            | .next | .cont => .pure (.again (.forLoop target it body [] env))
            | .brk => .pure (.done .next)
            | .ret v => .pure (.done (.ret v))) (H' := lpExc env) _ _ (fun f => ?_) (fun e => ?_))) h₂
    · cases f <;> rfl
    · rfl
end
def tGFor (wi : TI) (g : TG) (tb : TGn) : TGn := fun D ys σ H => wi σ H fun J H1 => ∃ W : Nat → Nat → List V → St → Hp → Prop, (∃ m, W 0 m ys σ H1) ∧ ∀ i m ys σ H, W i m ys σ H →
  (J.stop i H ∧ D.nx ys σ H) ∨ (J.go i H ∧ ∃ N : List V → St → Hp → Prop, (∀ ys' σ' H', N ys' σ' H' → ∃ m', m' < m ∧ W (i + 1) m' ys' σ' H') ∧ ∀ x H', J.yld i H x H' → g x σ H' fun σ2 H2 => tb { D with nx := N, ct := N, bk := D.nx } ys σ2 H2)
section
variable {X : Cx}
theorem GI.unpin {S : Addr} {ip pl : List (Addr × Obj)} {ys : List V} {σ : St} {H : Hp} {s : Shared} (h : GI X S (ip ++ pl) ys σ H s) : GI X S ip ys σ H s := by
  obtain ⟨acc, c, r, I⟩ := h
  exact ⟨acc, c, r, Inv.unpinned (pins := (S, lstObj acc c) :: ip) (pl := pl) I⟩
theorem gs_for {tg iter : Expr} {body : List Stmt} {wi : TI} {g : TG} {tb : TGn} {pos : Pos} (hp : PassesOwn (model X.prog X.w) X.A X.env X.xe) (hc : X.calm = true) (hi : PI X tg iter wi) (hg : PG X tg g) (hb : GSs X body tb)
    (hs : ∀ x, foldedSetIterable iter X.env x = pure x := by intro _; rfl) : GS X (.For tg iter body [] pos) (tGFor wi g tb) := by
  refine ⟨fun A S ip R n ys s₀ c fs K J gd lv s σ H D gc hn k hI ht => ?_⟩
  obtain ⟨acc0, cc0, r0, I0⟩ := hI
  refine seg_For ?_ hs
  rw [gc.over]
  refine wpAny_mono (hi.run _ s σ H _ I0 ht) (fun v s1 h1 => wpAny_mono h1 (fun itv s2 h2 => ?_) fun x s' hx => k.exc n s₀ x s' hx) fun x s' hx => k.exc n s₀ x s' hx
  obtain ⟨it, fp, tn, Jt, H2, e, I2, T, st2, f2, W, ⟨m0, w0⟩, turn⟩ := h2
  subst e
  intro p
  have gl := fun (kk : Result → Sem PySem.Fin) => gc_loop (k := kk) (c' := .forLoop tg (.ref it) body [] X.env) (l := lv []) (kp := []) (p := p) gc rfl rfl
  have stat : ∀ {acc : Array Value} {cc : Nat} {H' : Hp}, (∀ b ∈ fp, H' b = none) → ∀ b ∈ fp, FpOk X ((S, lstObj acc cc) :: ip) H' b := fun hn b hb => by
    obtain ⟨_, f1, f3, f4, f5, f6⟩ := f2 b hb
    refine ⟨hn b hb, f1, f3, f4, f5, fun q hq => ?_⟩
    rcases List.mem_append.mp hq with hq | hq
    · exact f6 q (List.mem_append_left _ hq)
    · rcases List.mem_cons.mp hq with hq | hq
      · rw [hq]; exact f6 (S, lstObj acc0 cc0) (List.mem_append_right _ (List.mem_cons_self ..))
      · exact f6 q (List.mem_append_right _ (List.mem_cons_of_mem _ hq))
  have hSfp : ∀ b ∈ fp, b ≠ S := fun b hb e => by
    obtain ⟨_, _, _, _, _, f6⟩ := f2 b hb
    exact f6 (S, lstObj acc0 cc0) (List.mem_append_right _ (List.mem_cons_self ..)) e.symm
  have loop : ∀ (m i n : Nat) (ys : List V) (s₀ s : Shared) (σ : St) (H : Hp), n + ys.length = sizeLine → W i m ys σ H → GI X S ip ys σ H s → tn i s.heap → (∀ b ∈ fp, H b = none) →
      Seg (model X.prog X.w) A R (GY X S) n s₀ (.forLoop tg (.ref it) body [] X.env) ((model X.prog X.w).den (.forLoop tg (.ref it) body [] X.env))
        (.ret (fun r => ((match r with | .ok f => (.pure f : Sem Flow) | .error e => .raise e).onRaise (cameBack X.env)).wrap K J gd lv) none (gd false) (lv []) c p [] :: fs) s := by
    intro m
    induction m using Nat.strongRecOn with
    | ind m ih =>
      intro i n ys s₀ s σ H hn w hI st fr
      have ee : ∀ (n : Nat) (s₀ : Shared) (x : Value) (s' : Shared), X.xe x s' → Seg (model X.prog X.w) A R (GY X S) n s₀ (.forLoop tg (.ref it) body [] X.env) (lpExc X.env x)
          (.ret (fun r => ((match r with | .ok f => (.pure f : Sem Flow) | .error e => .raise e).onRaise (cameBack X.env)).wrap K J gd lv) none (gd false) (lv []) c p [] :: fs) s' := fun n s₀ x s' hx => by
        unfold lpExc
        rw [Sem.bind_eq_wrap]
        refine seg_wrap ?_
        rw [(gl _).over]
        refine wpAny_bind (wpAny_mono (hp x s' hx) (fun _ s'' hcb => wpAny_theTreesLotGoes ?_) fun y s'' hcb => ?_)
        · exact seg_leaf (.error x) (seg_cameBack gc k hcb)
        · exact seg_leaf (.error y) (seg_cameBack gc k hcb)
      obtain ⟨acc, cc, r, I⟩ := hI
      refine seg_forLoop ?_
      rw [(gl _).over]
      rcases turn i m ys σ H w with ⟨stop, qn⟩ | ⟨go, N, hN, step⟩
      · refine wpAny_mono (T.done X rfl rfl rfl hc i _ s σ H X.xe I (stat fr) st stop) (fun r' s4 ⟨hr, I4⟩ => ?_) fun x s' hx => ee n s₀ x s' hx
        subst hr
        exact fun c' => seg_leaf (.ok .next) (k.ok n ys s₀ s4 .next hn ⟨σ, H, ⟨acc, cc, r, I4⟩, qn⟩)
      · refine wpAny_mono (T.item X rfl rfl rfl hc i _ s σ H X.xe I (stat fr) st go) (fun r' s4 ⟨u, hr, h4⟩ => ?_) fun x s' hx => ee n s₀ x s' hx
        subst hr
        refine wpAny_mono h4 (fun _ s5 ⟨x, H5, I5, r5, y5, st5, fr5⟩ => ?_) fun x s' hx => ee n s₀ x s' hx
        have I5' := I5.pinned (stat fr5) (T.obj _ _ st5)
        refine wpAny_mono (hg.run _ s5 σ H5 x u _ I5' r5 (step x H5 y5)) (fun _ s6 ⟨σ6, H6, I6, q6⟩ => ?_) fun x s' hx => ee n s₀ x s' hx
        have again : ∀ {ys' : List V} {σ7 : St} {H7 : Hp} {n' : Nat} {s₀' s7 : Shared}, n' + ys'.length = sizeLine → GI X S (ip ++ pinsAt fp s5.heap) ys' σ7 H7 s7 → N ys' σ7 H7 →
            Seg (model X.prog X.w) A R (GY X S) n' s₀' (.forLoop tg (.ref it) body [] X.env) (.pure (.again (.forLoop tg (.ref it) body [] X.env)))
              (.ret (fun r => ((match r with | .ok f => (.pure f : Sem Flow) | .error e => .raise e).onRaise (cameBack X.env)).wrap K J gd lv) none (gd false) (lv []) c p [] :: fs) s7 := fun {ys' σ7 H7 n' s₀' s7} hn' G7 n7 => by
          obtain ⟨m', hm, w7⟩ := hN ys' σ7 H7 n7
          obtain ⟨acc7, cc7, r7, I7⟩ := id G7
          refine seg_again rfl (ih m' hm (i + 1) n' ys' s₀' s7 σ7 H7 hn' w7 G7.unpin (T.keep _ _ _ st5 fun b hb o e => (I7.pin (b, o) (List.mem_append_right _ (List.mem_cons_of_mem _ (List.mem_append_right _ (mem_pinsAt hb e))))).1) fun b hb => ?_)
          obtain ⟨o, e, d⟩ := T.obj _ _ st5 b hb
          exact (I7.pin (b, o) (List.mem_append_right _ (List.mem_cons_of_mem _ (List.mem_append_right _ (mem_pinsAt hb e))))).2.1
        have gl2 := gl (fun r => ((match r with | .ok f => (.pure f : Sem Flow) | .error e => .raise e).onRaise (cameBack X.env)).wrap K J gd lv)
        refine hb.run A S (ip ++ pinsAt fp s5.heap) R n ys s₀ _ _ _ _ id id s6 σ6 H6 { D with nx := N, ct := N, bk := D.nx } ⟨gl2.pn, fun q hq => ?_, gl2.apart, gl2.over, gl2.split, gl2.guard, gl2.gd⟩ hn ⟨fun n' ys' s₀' s7 f hn' hs' => ?_, fun n' s₀' x s3 hx => ee n' s₀' x s3 hx⟩ ⟨acc, cc, r, I6⟩ q6
        · rcases List.mem_append.mp hq with hq | hq
          · exact gl2.ip q hq
          · exact hSfp q.1 (of_pinsAt hq).1
        · cases f with
          | next =>
            obtain ⟨σ7, H7, G7, n7⟩ := hs'
            exact again hn' G7 n7
          | cont =>
            obtain ⟨σ7, H7, G7, n7⟩ := hs'
            exact again hn' G7 n7
          | brk =>
            obtain ⟨σ7, H7, G7, q7⟩ := hs'
            exact seg_leaf (.ok .next) (k.ok n' ys' s₀' s7 .next hn' ⟨σ7, H7, G7.unpin, q7⟩)
          | ret v =>
            obtain ⟨x7, σ7, H7, G7, r7, q7⟩ := hs'
            exact seg_leaf (.ok (.ret v)) (k.ok n' ys' s₀' s7 (.ret v) hn' ⟨x7, σ7, H7, G7.unpin, r7, q7⟩)
  exact loop m0 0 n ys s₀ s2 σ H2 hn w0 ⟨acc0, cc0, r0, I2⟩ st2 fun b hb => (f2 b hb).1
end
end L2
set_option Elab.async false
set_option linter.all false
set_option maxRecDepth 100000
set_option maxHeartbeats 4000000
namespace PL
open PySem PySem.Spec PyProof.Rows L2 GenW
inductive GO where
  | next (ρ : Env) (ys : List D)
  | bad
abbrev GSm := List D → Env → GO
def postG (p : Par) (O' : List Nat) (Z : Gh) (o : GO) (Dd : GEnds) : Prop := match o with
  | .next ρ' ds => ∀ G' H' σ' ys, Same Z.G G' → Rel p O' ⟨ρ', G', Z.H0, Z.G0⟩ σ' H' → Reps p G' ys ds → Dd.nx ys σ' H'
  | .bad => False
theorem postG_mono {p : Par} {O' : List Nat} {Z : Gh} {o : GO} {Dd : GEnds} {G' : Hp} {ρ' : Env} (s : Same Z.G G') (h : postG p O' Z o Dd) : postG p O' ⟨ρ', G', Z.H0, Z.G0⟩ o Dd := by
  cases o with
  | next ρ' ds => exact fun G' H' σ' ys s' r rs => h G' H' σ' ys (s.trans s') r rs
  | bad => exact h
def rdG (p : Par) (O O' : List Nat) (f : GSm) : TGn := fun Dd ys σ H => ∃ Z ds, Rel p O Z σ H ∧ Reps p Z.G ys ds ∧ postG p O' Z (f ds Z.ρ) Dd
theorem gs_w {X : Cx} {st : Stmt} {t t' : TGn} (h : GS X st t) (w : ∀ Dd ys σ H, t' Dd ys σ H → t Dd ys σ H) : GS X st t' :=
  ⟨fun A S ip R n ys s₀ c fs K J gd lv s σ H D g hn k hI ht => h.run A S ip R n ys s₀ c fs K J gd lv s σ H D g hn k hI (w D ys σ H ht)⟩
theorem gss_w {X : Cx} {st : List Stmt} {t t' : TGn} (h : GSs X st t) (w : ∀ Dd ys σ H, t' Dd ys σ H → t Dd ys σ H) : GSs X st t' :=
  ⟨fun A S ip R n ys s₀ c fs K J gd lv s σ H D g hn k hI ht => h.run A S ip R n ys s₀ c fs K J gd lv s σ H D g hn k hI (w D ys σ H ht)⟩
def gYield (e : Env → Res D) : GSm := fun ds ρ => match e ρ with
  | .ok d => if ds.length < LIM then .next ρ (ds ++ [d]) else .bad
  | _ => .bad
def gNil : GSm := fun ds ρ => .next ρ ds
def gSeq (f g : GSm) : GSm := fun ds ρ => match f ds ρ with
  | .next ρ' ds' => g ds' ρ'
  | .bad => .bad
def gPl (f : Env → Out) : GSm := fun ds ρ => match f ρ with
  | .next ρ' => .next ρ' ds
  | _ => .bad
def gForL (g : D → Env → Res Env) (b : GSm) : List D → GSm
  | [], ds, ρ => .next ρ ds
  | d :: l, ds, ρ => match g d ρ with
    | .ok ρ1 => (match b ds ρ1 with
      | .next ρ2 ds2 => gForL g b l ds2 ρ2
      | .bad => .bad)
    | _ => .bad
def gFor (fi : Env → Res (List D)) (g : D → Env → Res Env) (b : GSm) : GSm := fun ds ρ => match fi ρ with
  | .ok l => gForL g b l ds ρ
  | _ => .bad
section
variable {X : Cx} {p : Par} {W : WX} {O O1 O2 : List Nat} {pos yp : Pos} {tg e iter : Expr} {st : Stmt} {rest body : List Stmt} {fa : Env → Res D} {fi : Env → Res (List D)} {f h : GSm} {fo : Env → Out} {is : List Nat}
theorem g_yield (he : PE X e (rdE p W O fa)) (hco : X.env.scope.isCoroutine = false := by rfl) (hi : interactive X.env = false := by rfl) : GS X (.Expr (.Yield (some e) yp) pos) (rdG p O O (gYield fa)) :=
  gs_w (gs_yield he hco hi) fun Dd ys σ H ⟨Z, ds, r, rs, q⟩ => by
    unfold gYield at q
    cases hf : fa Z.ρ with
    | ok d =>
      rw [hf] at q
      dsimp only at q
      split at q
      · rename_i hl
        refine ⟨by rw [rs.length]; exact lim_line' (Nat.le_of_lt hl), Z, r, ?_⟩
        rw [hf]
        intro G' H' g v rv
        exact q G' H' σ (ys ++ [v]) g.sub (r.grow g) ((rs.mono g.sub).append (.cons rv .nil))
      · exact q.elim
    | exc c => rw [hf] at q; exact q.elim
    | bad => rw [hf] at q; exact q.elim
theorem g_nil : GSs X [] (rdG p O O gNil) := gss_w gss_nil fun Dd ys σ H ⟨Z, ds, r, rs, q⟩ => q Z.G H σ ys (.refl _) r rs
theorem g_cons (a : GS X st (rdG p O O1 f)) (b : GSs X rest (rdG p O1 O2 h)) : GSs X (st :: rest) (rdG p O O2 (gSeq f h)) :=
  gss_w (gss_cons a b) fun Dd ys σ H ⟨Z, ds, r, rs, q⟩ => by
    refine ⟨Z, ds, r, rs, ?_⟩
    unfold gSeq at q
    revert q
    cases f ds Z.ρ with
    | bad => exact fun q => q
    | next ρ' ds' =>
      intro q G' H' σ' ys' s' r' rs'
      exact ⟨_, ds', r', rs', postG_mono s' q⟩
theorem g_plain (a : PS X st (rdS p W O O1 fo)) : GS X st (rdG p O O1 (gPl fo)) :=
  gs_w (gs_ps a) fun Dd ys σ H ⟨Z, ds, r, rs, q⟩ => by
    refine ⟨Z, r, ?_⟩
    unfold gPl at q
    revert q
    cases fo Z.ρ with
    | next ρ' =>
      intro q G' H' σ' s' r'
      exact q G' H' σ' ys s' r' (rs.mono s')
    | ret d => exact fun q => q.elim
    | exc c => exact fun q => q.elim
    | bad => exact fun q => q
theorem g_for {t : TG} {g : D → Env → Res Env} (hp : PassesOwn (model X.prog X.w) X.A X.env X.xe) (hc : X.calm = true) (hi : PI X tg iter (rdI p W O fi)) (hg : PG X tg t) (hgp : GtP p is t g) (hb : GSs X body (rdG p (remAll is O) O f))
    (hs : ∀ x, foldedSetIterable iter X.env x = pure x := by intro _; rfl) : GS X (.For tg iter body [] pos) (rdG p O O (gFor fi g f)) :=
  gs_w (gs_for hp hc hi hg hb hs) fun Dd ys σ H ⟨Z, ds, r, rs, q⟩ => ⟨Z, r, by
    unfold gFor at q
    revert q
    cases fi Z.ρ with
    | exc c => exact fun q => q.elim
    | bad => exact fun q => q
    | ok l =>
      intro q G1 H1 g1 J w
      refine ⟨fun i m ys' σ' H' => m = l.length - i ∧ i ≤ l.length ∧ ∃ Z' ds', Rel p O Z' σ' H' ∧ Reps p Z'.G ys' ds' ∧ Same G1 Z'.G ∧ postG p O Z' (gForL g f (l.drop i) ds' Z'.ρ) Dd, ⟨l.length, by simp, Nat.zero_le _, Z.up G1, ds, r.grow g1, rs.mono g1.sub, .refl _, by rw [List.drop_zero]; exact postG_mono g1.sub q⟩, ?_⟩
      rintro i m ys' σ' H' ⟨rfl, hi, Z', ds', r', rs', s', q'⟩
      by_cases hlt : i < l.length
      · refine .inr ⟨w.goes i H' Z'.G s' r'.below hlt, fun ys2 σ2 H2 => i + 1 ≤ l.length ∧ ∃ Z' ds', Rel p O Z' σ2 H2 ∧ Reps p Z'.G ys2 ds' ∧ Same G1 Z'.G ∧ postG p O Z' (gForL g f (l.drop (i + 1)) ds' Z'.ρ) Dd, fun ys2 σ2 H2 h2 => ⟨l.length - (i + 1), by omega, rfl, h2.1, h2.2⟩, fun x H2 y => ?_⟩
        obtain ⟨G2, d, hd, g2, rx⟩ := w.yields i H' x H2 Z'.G s' r'.below hlt y
        have hds : l.drop i = d :: l.drop (i + 1) := by
          obtain ⟨h1, h2⟩ := List.getElem?_eq_some_iff.mp hd
          rw [← h2]
          exact List.drop_eq_getElem_cons h1
        rw [hds] at q'
        unfold gForL at q'
        cases hgt : g d Z'.ρ with
        | exc c => rw [hgt] at q'; exact q'.elim
        | bad => rw [hgt] at q'; exact q'.elim
        | ok ρ1 =>
          rw [hgt] at q'
          dsimp only at q'
          refine hgp O (Z'.up G2) σ' H2 x d ρ1 _ (r'.grow g2) rx hgt fun σ3 r3 _ => ⟨_, ds', r3, rs'.mono g2.sub, ?_⟩
          revert q'
          show _ → postG p O ⟨ρ1, G2, Z'.H0, Z'.G0⟩ (f ds' ρ1) _
          cases f ds' ρ1 with
          | next ρ2 ds2 =>
            intro q' G3 H3 σ4 ys4 s3 r4 rs4
            exact ⟨hlt, _, ds2, r4, rs4, (s'.trans g2.sub).trans s3, postG_mono (Z := Z') (g2.sub.trans s3) q'⟩
          | bad => exact fun q' => q'
      · have e : i = l.length := by omega
        subst e
        rw [List.drop_length] at q'
        exact .inl ⟨w.stops H' Z'.G s' r'.below, q' _ _ _ _ (.refl _) r' rs'⟩⟩
end
def runG (n m : Nat) (b : GSm) (ds : List D) : Res (List D) := if ds.length = n then (match b [] (ds.map some ++ List.replicate (m - n) none) with
  | .next _ ys => .ok ys
  | .bad => .bad) else .bad
def spG (p : Par) (f : List D → Res (List D)) : SpG := fun vs H cont E => ∃ G ds, Same G H ∧ Reps p G vs ds ∧ (match f ds with
  | .ok out => ∀ G' H' ys, Grow G H G' H' → Reps p G' ys out → cont ys H'
  | _ => False)
theorem gfn_ok {P : Program} {w : World} {p : Par} {mg : Str → Option Value} {base : Heap} {x qual : Str} {st : Stmt} {f : Addr} {fd : FuncData} {N ps : List Str} {k n m : Nat} {b : GSm} {O' : List Nat}
    (F : Fun p.K x qual st f fd) (S : GScope N ps (defScope st)) (hn : ps.length = n) (hm : N.length = m)
    (hb : ∀ (cdv : Value) (A : Around) (outer : List PySem.Env) (s : Shared) (H : Hp) (E : XK) (pn : List (Addr × Obj)), Room k (A.deeper (envOfC qual (defScope st) s.heap.objs.size f cdv)) →
      GSs (gcxOf P w p.K mg base N qual (defScope st) f cdv A outer s H E pn) (defBody st) (rdG p [] O' b)) :
    GFn P w p.K mg base (k + 1) f fd ps (spG p (runG n m b)) := by
  subst hn hm
  obtain ⟨oc, od, kV, doc, pm, an, cdv, ct, osl, rfl, lk, hcd⟩ := F.ex
  refine gfn_of lk hcd S (fun vs H Q E h => ?_) fun A outer s H vs Q E pn hr h => ⟨_, hb cdv A outer s H E pn hr, ?_⟩
  · obtain ⟨G, ds, _, rs, q⟩ := h
    unfold runG at q
    split at q
    · rename_i out hq
      split at hq
      · rename_i hl
        rw [rs.length, hl]
      · cases hq
    · exact q.elim
  · obtain ⟨G, ds, bl, rs, q⟩ := h
    unfold runG at q
    by_cases hl : ds.length = ps.length
    · rw [if_pos hl] at q
      have hvl := rs.length
      have hpl : ps.length ≤ N.length := by have := congrArg List.length S.pre; rw [List.length_take] at this; omega
      refine ⟨⟨ds.map some ++ List.replicate (N.length - ps.length) none, G, H, G⟩, [], ⟨bl, .refl H, fun _ _ => rfl, .refl G, ?_, fun i d hd => ?_, fun i j a d e h1 => ?_⟩, .nil, ?_⟩
      · unfold L2.start
        simp only [List.length_append, List.length_map, List.length_replicate]
        omega
      · have hi : i < ds.length := by
          by_cases hi : i < ds.length
          · exact hi
          · exfalso
            have hd' : (ds.map some ++ List.replicate (N.length - ps.length) none)[i]? = some (some d) := hd
            rw [List.getElem?_append_right (by simpa using hi), List.getElem?_replicate] at hd'
            split at hd' <;> cases hd'
        have hd' : (ds.map some ++ List.replicate (N.length - ps.length) none)[i]? = some (some d) := hd
        rw [List.getElem?_append_left (by simpa using hi), List.getElem?_map] at hd'
        cases hg : ds[i]? with
        | none => rw [hg] at hd'; cases hd'
        | some d0 =>
          rw [hg] at hd'
          cases hd'
          obtain ⟨v, h1, h2⟩ := rs.get hg
          refine ⟨v, ?_, ?_⟩
          · unfold L2.start
            rw [List.getElem?_append_left (by rw [List.length_map]; omega), List.getElem?_map, h1]
            rfl
          · unfold Slot
            rw [if_neg (by simp)]
            exact h2
      · simp at h1
      · revert q
        show _ → postG p O' _ (b [] (ds.map some ++ List.replicate (N.length - ps.length) none)) _
        cases b [] (ds.map some ++ List.replicate (N.length - ps.length) none) with
        | next ρ' ys => exact fun q G' H' σ' ys' s' r' rs' => q G' H' ys' ⟨r'.frame, r'.sub, r'.fixed, r'.below⟩ rs'
        | bad => exact fun q => q
    · rw [if_neg hl] at q
      exact q.elim
structure CalleeG (P : Program) (w : World) (p : Par) (mg : Str → Option Value) (base : Heap) (x : Str) (k : Nat) (g : List D → Res (List D)) : Prop where
  ex : ∃ (f : Addr) (fd : FuncData) (ps : List Str), GFn P w p.K mg base k f fd ps (spG p g) ∧ mg x = some (.ref f) ∧ PySem.W.keepIn p.K (.ref f) = true ∧ L2.Binds p.K fd ps []
def listG (g : List D → Res (List D)) (ds : List D) : Res D := match g ds with
  | .ok out => lstD out
  | _ => .bad
theorem cx_noS {P : Program} {w : World} {st : List PySem.Env} {H : Hp} {s : Shared} {e : Value} {s' : Shared} (h : L2.CX P w st H s (fun _ _ _ => False) e s') : False := by
  obtain ⟨_, _, _, _, _, _, _, _, _, _, _, _, h⟩ := h
  exact h
section
variable {X : Cx} {p : Par} {W : WX} {O : List Nat} {pos pos2 pos' p2 : Pos} {e : Expr} {es : List Expr} {fs : Env → Res (List D)}
theorem r_listG {k j : Nat} {x : Str} {g : List D → Res (List D)} (C : CalleeG X.prog X.w p X.mg X.base x k g) (hr : Room j X.A) (hj : k + 3 ≤ j) (hK : X.K = p.K) (hg : Gl X x) (hg2 : Gl X "list") (hm2 : X.mg "list" = none) (ha : PA X (e :: es) (rdA p W O fs))
    (hdb : (x == ("__debug__" : Str)) = false := by decide) (he : starEach (e :: es) X.env = (false, eval e X.env) :: starEach es X.env := by rfl) (hpl : (backTo pos (starEach es X.env)).any (·.1) = false := by rfl)
    (he2 : starEach [.Call (.Name x pos') (e :: es) [] pos] X.env = (false, eval (.Call (.Name x pos') (e :: es) [] pos) X.env) :: starEach [] X.env := by rfl) :
    PE X (.Call (.Name "list" p2) [.Call (.Name x pos') (e :: es) [] pos] [] pos2) (rdF p W O (eArgs (listG g) fs)) := by
  obtain ⟨f, fd, ps, F, hm, hk, hb⟩ := C.ex
  rw [← hK] at F hk hb
  have h1 : PGen X k (.Call (.Name x pos') (e :: es) [] pos) (tCallG (spG p g) [] (fun _ _ _ => False) (rdA p W O fs)) (fun _ _ _ => False) := pgen_call F (hr.mono (by omega)) hg hm hk hb .nil ha hdb he hpl
  have h2 := pe_listG (p := p2) (pos := pos2) h1 (fun pins σ H s e s' I c => (cx_noS c).elim) (fun cls d H h => h.elim) (hr.mono hj) hg2 hm2 (by decide +kernel) (he := he2)
  refine pe_w h2 fun σ H Q ⟨Z, r, q⟩ => ⟨Z, r, post_imp (post_bind q) fun ds G1 H1 g1 q1 vs rs => ⟨G1, ds, g1.below, by rw [List.append_nil]; exact rs, ?_⟩⟩
  unfold listG at q1
  revert q1
  cases g ds with
  | exc c => exact fun q1 => q1.elim
  | bad => exact fun q1 => q1.elim
  | ok out =>
    intro q1 G' H' ys gr rys z hz
    dsimp only at q1
    unfold lstD at q1
    split at q1
    · exact q1 G' H' gr z _ (Grow.allocO gr.below hz) hz (.inl ⟨_, _, rfl, upd_same, rys⟩)
    · exact q1.elim
end
end PL
set_option Elab.async false
set_option linter.all false
set_option maxRecDepth 100000
set_option maxHeartbeats 4000000
namespace PL
open PySem PySem.Spec PyProof.Rows L2
def idxOf (ds : List D) (y : D) : Res D := if flt y = true ∧ ds.all flt = true then (match ds.findIdx? (fun z => eqv z y) with
  | some j => .ok (.int (j : Nat))
  | none => .bad) else .bad
def eIndex (a b : Env → Res D) : Env → Res D := fun ρ => (a ρ).bind fun d => (lstOf d).bind fun ds => (b ρ).bind fun y => idxOf ds y
section
variable {X : Cx} {p : Par} {W : WX} {O : List Nat} {pos p' apos cpos : Pos} {e e1 e2 e3 : Expr} {es : List Expr} {fa fb fc : Env → Res D} {fs : Env → Res (List D)}
theorem r_index (hK : X.K = p.K) (ha : PE X e1 (rdB p W O fa)) (hb : PE X e2 (rdE p W O fb))
    (hpe : PE X e1 (rdB p W O fa) → PE X e2 (rdE p W O fb) → PE X (.Call (.Attribute e1 "index" apos) [e2] [] cpos) (tBM X.K "list" (rIndex X.K) (rdB p W O fa) (tCons (rdE p W O fb) tNil)) := by
      exact fun a b => pe_bm PySem.F.plainAttrs_list PySem.F.slot_list_index PySem.F.type_list_index mt_index a (pa_cons b pa_nil)) :
    PE X (.Call (.Attribute e1 "index" apos) [e2] [] cpos) (rdE p W O (eIndex fa fb)) := by
  refine pe_w (hpe ha hb) fun σ H Q ⟨Z, r, q⟩ => ⟨Z, r, post_imp (post_bind q) fun dx G1 H1 g1 q1 x rx => ?_⟩
  cases dx with
  | lst ds =>
    obtain ⟨a, xs, rfl, hl, rs⟩ := rx.lst_inv g1.below
    refine ⟨.inl ⟨rfl, _, .of hl⟩, Z.up G1, r.grow g1, post_imp (post_bind (r := fb Z.ρ) q1) fun dy G2 H2 g2 q2 y ry => ?_⟩
    unfold idxOf at q2
    split at q2
    · rename_i hf
      split at q2
      · rename_i j hj
        obtain ⟨hlt, h1, h2⟩ := List.findIdx?_eq_some_iff_getElem.mp hj
        have rs2 := rs.mono g2.sub
        obtain ⟨z, hz, rz⟩ := rs2.get (List.getElem?_eq_getElem hlt)
        have fz := List.all_eq_true.mp hf.2 _ (List.getElem_mem hlt)
        refine ⟨a, xs, y, j, z, rfl, rfl, .of (g2.same _ _ hl), flt_V ry hf.1, flt_all rs2 hf.2, hz, ?_, fun m z' hm hz' => ?_, post_ok g2.below q2 _ (.int _)⟩
        · rw [flt_eq rz ry fz hf.1]; exact h1
        · obtain ⟨d', hd', rz'⟩ := rs2.get' hz'
          obtain ⟨hml, e⟩ := List.getElem?_eq_some_iff.mp hd'
          have fz' := List.all_eq_true.mp hf.2 _ (List.mem_of_getElem? hd')
          rw [flt_eq rz' ry fz' hf.1, ← e]
          have := h2 m hm
          simpa using this
      · exact q2.elim
    · exact q2.elim
  | _ => exact q1.elim
end
end PL
set_option Elab.async false
set_option linter.all false
set_option maxRecDepth 100000
set_option maxHeartbeats 4000000
namespace PL
open PySem PySem.Spec PyProof.Rows L2
def Out.res : Out → Res D
  | .next _ => .ok .non
  | .ret d => .ok d
  | .exc c => .exc c
  | .bad => .bad
def Out.thn (o : Out) (g : Env → Out) : Out := match o with
  | .next ρ' => g ρ'
  | .ret d => .ret d
  | .exc c => .exc c
  | .bad => .bad
@[simp] theorem thn_next (ρ : Env) (g : Env → Out) : (Out.next ρ).thn g = g ρ := id rfl
@[simp] theorem thn_ret (d : D) (g : Env → Out) : (Out.ret d).thn g = .ret d := id rfl
@[simp] theorem thn_exc (c : Nat) (g : Env → Out) : (Out.exc c).thn g = .exc c := id rfl
@[simp] theorem thn_bad (g : Env → Out) : Out.bad.thn g = .bad := id rfl
@[simp] theorem res_next (ρ : Env) : (Out.next ρ).res = .ok .non := id rfl
@[simp] theorem res_ret (d : D) : (Out.ret d).res = .ok d := id rfl
@[simp] theorem res_exc (c : Nat) : (Out.exc c).res = .exc c := id rfl
@[simp] theorem res_bad : Out.bad.res = .bad := id rfl
def Res.cnd (r : Res Bool) (x y : Out) : Out := match r with
  | .ok true => x
  | .ok false => y
  | .exc c => .exc c
  | .bad => .bad
@[simp] theorem cnd_ok (b : Bool) (x y : Out) : (Res.ok b).cnd x y = if b = true then x else y := by cases b <;> rfl
@[simp] theorem cnd_exc (c : Nat) (x y : Out) : (Res.exc c : Res Bool).cnd x y = .exc c := id rfl
@[simp] theorem cnd_bad (x y : Out) : (Res.bad : Res Bool).cnd x y = .bad := id rfl
theorem runD_eq {n m : Nat} {b : Env → Out} {ds : List D} (h : ds.length = n) : runD n m b ds = (b (ds.map some ++ List.replicate (m - n) none)).res := by
  unfold runD
  rw [if_pos h]
  cases b (ds.map some ++ List.replicate (m - n) none) <;> rfl
@[simp] theorem ev_seq (f g : Env → Out) (ρ : Env) : sSeq f g ρ = (f ρ).thn g := id rfl
@[simp] theorem ev_nil (ρ : Env) : sNil ρ = .next ρ := id rfl
@[simp] theorem ev_set (i : Nat) (e : Env → Res D) (ρ : Env) : sSet i e ρ = ((e ρ).bind fun d => .ok (ρ.set i (some d))).env := id rfl
@[simp] theorem env_ok (ρ : Env) : (Res.ok ρ).env = .next ρ := id rfl
@[simp] theorem env_exc (c : Nat) : (Res.exc c : Res Env).env = .exc c := id rfl
@[simp] theorem env_bad : (Res.bad : Res Env).env = .bad := id rfl
@[simp] theorem ev_ret (e : Env → Res D) (ρ : Env) : sRet e ρ = (e ρ).out := id rfl
@[simp] theorem out_ok (d : D) : (Res.ok d).out = .ret d := id rfl
@[simp] theorem out_exc (c : Nat) : (Res.exc c : Res D).out = .exc c := id rfl
@[simp] theorem out_bad : (Res.bad : Res D).out = .bad := id rfl
@[simp] theorem ev_if (t : Env → Res Bool) (f g : Env → Out) (ρ : Env) : sIf t f g ρ = (t ρ).cnd (f ρ) (g ρ) := by
  unfold sIf Res.cnd
  rfl
def Res.forI (r : Res (List D)) (f : List D → Out) : Out := match r with
  | .ok ds => f ds
  | .exc c => .exc c
  | .bad => .bad
@[simp] theorem forI_ok (ds : List D) (f : List D → Out) : (Res.ok ds).forI f = f ds := id rfl
@[simp] theorem ev_for (it : Env → Res (List D)) (g : D → Env → Res Env) (b : Env → Out) (ρ : Env) : sFor it g b ρ = (it ρ).forI fun ds => forL g b ds ρ := id rfl
@[simp] theorem ev_var0 (d : D) (ρ : Env) : eVar 0 (some d :: ρ) = .ok d := id rfl
@[simp] theorem ev_varS (i : Nat) (x : Option D) (ρ : Env) : eVar (i + 1) (x :: ρ) = eVar i ρ := id rfl
@[simp] theorem ev_cst (d : D) (ρ : Env) : eCst d ρ = .ok d := id rfl
@[simp] theorem ev_un (f : D → Res D) (a : Env → Res D) (ρ : Env) : eUn f a ρ = (a ρ).bind f := id rfl
@[simp] theorem ev_bin (f : D → D → Res D) (a b : Env → Res D) (ρ : Env) : eBin f a b ρ = (a ρ).bind fun x => (b ρ).bind (f x) := id rfl
@[simp] theorem ev_eif (t : Env → Res Bool) (a b : Env → Res D) (ρ : Env) : eIf t a b ρ = (t ρ).bind fun c => if c = true then a ρ else b ρ := id rfl
@[simp] theorem ev_tst (t : Env → Res Bool) (ρ : Env) : eTst t ρ = (t ρ).bind fun b => .ok (.bl b) := id rfl
@[simp] theorem blD_bl (b : Bool) : blD (.bl b) = .ok b := id rfl
@[simp] theorem ev_tval (a : Env → Res D) (ρ : Env) : tVal a ρ = (a ρ).bind blD := id rfl
@[simp] theorem ev_cmp (f : D → D → Res Bool) (a b : Env → Res D) (ρ : Env) : tCmp f a b ρ = (a ρ).bind fun x => (b ρ).bind (f x) := id rfl
@[simp] theorem ev_chn (f g : D → D → Res Bool) (a b c : Env → Res D) (ρ : Env) : tChn f g a b c ρ = (a ρ).bind fun x => (b ρ).bind fun y => (f x y).bind fun k => if k = true then (c ρ).bind (g y) else .ok false := id rfl
@[simp] theorem ev_tnot (t : Env → Res Bool) (ρ : Env) : PL.tNot t ρ = (t ρ).bind fun b => .ok (!b) := id rfl
@[simp] theorem ev_tand (t u : Env → Res Bool) (ρ : Env) : PL.tAnd t u ρ = (t ρ).bind fun b => if b = true then u ρ else .ok false := id rfl
@[simp] theorem ev_tor (t u : Env → Res Bool) (ρ : Env) : PL.tOr t u ρ = (t ρ).bind fun b => if b = true then .ok true else u ρ := id rfl
@[simp] theorem ev_anil (ρ : Env) : aNil ρ = .ok [] := id rfl
@[simp] theorem ev_acons (a : Env → Res D) (b : Env → Res (List D)) (ρ : Env) : aCons a b ρ = (a ρ).bind fun x => (b ρ).bind fun xs => .ok (x :: xs) := id rfl
@[simp] theorem ev_args (f : List D → Res D) (a : Env → Res (List D)) (ρ : Env) : eArgs f a ρ = (a ρ).bind f := id rfl
@[simp] theorem ev_eand (a b : Env → Res D) (ρ : Env) : eAnd a b ρ = (a ρ).bind fun x => (blD x).bind fun k => if k = true then b ρ else .ok (.bl false) := id rfl
@[simp] theorem ev_eor (a b : Env → Res D) (ρ : Env) : eOr a b ρ = (a ρ).bind fun x => (blD x).bind fun k => if k = true then .ok (.bl true) else b ρ := id rfl
@[simp] theorem notD_bl (b : Bool) : notD (.bl b) = .ok (.bl (!b)) := id rfl
@[simp] theorem addD_int (i j : Int) : addD (.int i) (.int j) = .ok (.int (i + j)) := id rfl
@[simp] theorem subD_int (i j : Int) : subD (.int i) (.int j) = .ok (.int (i - j)) := id rfl
@[simp] theorem negD_int (i : Int) : negD (.int i) = .ok (.int (-i)) := id rfl
@[simp] theorem ltD_int (i j : Int) : ltD (.int i) (.int j) = .ok (decide (i < j)) := id rfl
@[simp] theorem leD_int (i j : Int) : leD (.int i) (.int j) = .ok (decide (i ≤ j)) := id rfl
@[simp] theorem gtD_int (i j : Int) : gtD (.int i) (.int j) = .ok (decide (j < i)) := id rfl
@[simp] theorem geD_int (i j : Int) : geD (.int i) (.int j) = .ok (decide (j ≤ i)) := id rfl
@[simp] theorem eqD_int (i j : Int) : eqD (.int i) (.int j) = .ok (decide (i = j)) := by
  show Res.ok (i == j) = _
  rfl
@[simp] theorem neD_int (i j : Int) : neD (.int i) (.int j) = .ok (!decide (i = j)) := by
  show Res.ok (!(i == j)) = _
  rfl
@[simp] theorem ev_app (i : Nat) (e : Env → Res D) (ρ : Env) : sApp i e ρ = (((eVar i ρ).bind fun d => (lstOf d).bind fun ds => (e ρ).bind fun x => if ds.length < LIM then .ok (D.lst (ds ++ [x])) else .bad).bind fun d => .ok (ρ.set i (some d))).env := id rfl
@[simp] theorem lstOf_lst (ds : List D) : lstOf (.lst ds) = .ok ds := id rfl
@[simp] theorem dctOf_dct (es : List (Int × D)) : dctOf (.dct es) = .ok es := id rfl
@[simp] theorem ev_par2 (i j : Nat) (a b : Env → Res D) (ρ : Env) : sPar2 i j a b ρ = ((a ρ).bind fun x => (b ρ).bind fun y => .ok ((ρ.set i (some x)).set j (some y))).env := id rfl
@[simp] theorem noX_ok {α : Type} (a : α) : noX (.ok a) = .ok a := id rfl
@[simp] theorem ev_unp (g : D → Env → Res Env) (e : Env → Res D) (ρ : Env) : sUnp g e ρ = ((e ρ).bind fun d => noX (g d ρ)).env := id rfl
@[simp] theorem gtN_eq (i : Nat) (d : D) (ρ : Env) : gtN i d ρ = .ok (ρ.set i (some d)) := id rfl
@[simp] theorem gtT2 (i j : Nat) (a b : D) (ρ : Env) : gtT [i, j] (.tup [a, b]) ρ = .ok ((ρ.set i (some a)).set j (some b)) := id rfl
@[simp] theorem tup2 (a b : D) : tupD [a, b] = .ok (.tup [a, b]) := id rfl
@[simp] theorem tup1 (a : D) : tupD [a] = .ok (.tup [a]) := id rfl
@[simp] theorem tup0 : tupD [] = .ok (.tup []) := id rfl
@[simp] theorem lst0 : lstD [] = .ok (.lst []) := id rfl
@[simp] theorem lst1 (a : D) : lstD [a] = .ok (.lst [a]) := id rfl
@[simp] theorem idx_pair0 (a b : D) : idxD (.tup [a, b]) (.int 0) = .ok a := id rfl
@[simp] theorem idx_pair1 (a b : D) : idxD (.tup [a, b]) (.int 1) = .ok b := id rfl
theorem app_lim {ds : List D} {x : D} (h : ds.length < LIM) : (if ds.length < LIM then Res.ok (D.lst (ds ++ [x])) else .bad) = .ok (.lst (ds ++ [x])) := if_pos h
def Res.forB (r : Res Env) (f : Env → Out) : Out := match r with
  | .ok a => f a
  | .exc _ => .bad
  | .bad => .bad
@[simp] theorem forB_ok (a : Env) (f : Env → Out) : (Res.ok a).forB f = f a := id rfl
theorem forL_nil (g : D → Env → Res Env) (b : Env → Out) (ρ : Env) : forL g b [] ρ = .next ρ := id rfl
theorem forL_cons (g : D → Env → Res Env) (b : Env → Out) (d : D) (ds : List D) (ρ : Env) : forL g b (d :: ds) ρ = (g d ρ).forB fun ρ1 => (b ρ1).thn (forL g b ds) := by
  show (match g d ρ with | .ok ρ1 => (match b ρ1 with | .next ρ2 => forL g b ds ρ2 | .ret d => .ret d | .exc c => .exc c | .bad => .bad) | .exc c => .bad | .bad => .bad) = _
  cases g d ρ with
  | ok ρ1 =>
    rw [forB_ok]
    dsimp only
    cases b ρ1 <;> rfl
  | exc c => rfl
  | bad => rfl
@[simp] theorem setAll_cons (i : Nat) (is : List Nat) (d : D) (ds : List D) (ρ : Env) : setAll (i :: is) (d :: ds) ρ = setAll is ds (ρ.set i (some d)) := id rfl
@[simp] theorem setAll_nil (ds : List D) (ρ : Env) : setAll [] ds ρ = ρ := by unfold setAll; rfl
theorem forL_step {g : D → Env → Res Env} {b : Env → Out} {d : D} {ds : List D} {ρ ρ1 ρ2 : Env} (h1 : g d ρ = .ok ρ1) (h2 : b ρ1 = .next ρ2) : forL g b (d :: ds) ρ = forL g b ds ρ2 := by
  rw [forL_cons, h1, forB_ok, h2, thn_next]
theorem forL_ret {g : D → Env → Res Env} {b : Env → Out} {d x : D} {ds : List D} {ρ ρ1 : Env} (h1 : g d ρ = .ok ρ1) (h2 : b ρ1 = .ret x) : forL g b (d :: ds) ρ = .ret x := by
  rw [forL_cons, h1, forB_ok, h2, thn_ret]
def enI {α : Type} (k : Nat) : List α → List (Nat × α)
  | [] => []
  | x :: xs => (k, x) :: enI (k + 1) xs
theorem enI_eq {α : Type} : ∀ (xs : List α) (k : Nat), ((List.range' k xs.length).zip xs) = enI k xs
  | [], k => rfl
  | x :: xs, k => by
    rw [List.length_cons, List.range'_succ, List.zip_cons_cons, enI_eq xs (k + 1)]
    rfl
theorem enI_map {α β : Type} (f : α → β) : ∀ (xs : List α) (k : Nat), enI k (xs.map f) = (enI k xs).map fun e => (e.1, f e.2)
  | [], _ => rfl
  | x :: xs, k => by show _ :: _ = _ :: _; rw [enI_map f xs (k + 1)]
def enD (f : α → D) (e : Nat × α) : D := .tup [.int (e.1 : Nat), f e.2]
theorem enum_lst {α : Type} (f : α → D) (xs : List α) : enumD [.lst (xs.map f)] = .ok ((enI 0 xs).map (enD f)) := by
  show Res.ok _ = _
  rw [List.range_eq_range', enI_eq, enI_map, List.map_map]
  rfl
theorem enum_tup {α : Type} (f : α → D) (xs : List α) : enumD [.tup (xs.map f)] = .ok ((enI 0 xs).map (enD f)) := by
  show Res.ok _ = _
  rw [List.range_eq_range', enI_eq, enI_map, List.map_map]
  rfl
theorem rng1_eq {n : Nat} (h : n < 1000000000) : rng1 [.int n] = .ok ((List.range n).map fun i => .int (i : Nat)) := by
  show (if (n : Int).natAbs < 4000000000000000000 then _ else _) = _
  rw [if_pos (by omega)]
  simp only [Int.toNat_natCast, Int.zero_add]
@[simp] theorem ev_comp (it : Env → Res (List D)) (g : D → Env → Res Env) (c : Env → Res Bool) (e : Env → Res D) (vs : List Nat) (ρ : Env) : eComp it g c e vs ρ = (it ρ).bind fun ds => (compL g c e (wipeE vs ρ) ds).bind lstD := id rfl
@[simp] theorem wipeE_cons (v : Nat) (vs : List Nat) (ρ : Env) : wipeE (v :: vs) ρ = (wipeE vs ρ).set v none := id rfl
@[simp] theorem wipeE_nil (ρ : Env) : wipeE [] ρ = ρ := id rfl
@[simp] theorem ev_ttrue (ρ : Env) : tTrue ρ = .ok true := id rfl
@[simp] theorem ev_slice (a : Env → Res D) (lo hi : Env → Res (Option Int)) (ρ : Env) : eSlice a lo hi ρ = (a ρ).bind fun d => (lo ρ).bind fun l => (hi ρ).bind fun h => sliceD d l h := id rfl
@[simp] theorem ev_onone (ρ : Env) : oNone ρ = .ok none := id rfl
@[simp] theorem ev_osome (f : Env → Res D) (ρ : Env) : oSome f ρ = (f ρ).bind intOf := id rfl
@[simp] theorem intOf_int (i : Int) : intOf (.int i) = .ok (some i) := id rfl
theorem compL_map {α : Type} {f : α → D} {g : D → Env → Res Env} {c : Env → Res Bool} {e : Env → Res D} {ρ : Env} (q : α → Bool) (h : α → D) : ∀ xs : List α, (∀ x ∈ xs, ∃ ρ1, g (f x) ρ = .ok ρ1 ∧ c ρ1 = .ok (q x) ∧ (q x = true → e ρ1 = .ok (h x))) →
    compL g c e ρ (xs.map f) = .ok ((xs.filter q).map h)
  | [], _ => rfl
  | x :: xs, hx => by
    obtain ⟨ρ1, h1, h2, h3⟩ := hx x (List.mem_cons_self ..)
    have ih := compL_map q h xs fun y hy => hx y (List.mem_cons_of_mem _ hy)
    rw [List.map_cons]
    unfold compL
    rw [h1, noX_ok, bind_ok, h2, noX_ok, bind_ok, ih]
    cases hq : q x with
    | true =>
      rw [if_pos rfl, h3 hq, noX_ok, bind_ok, bind_ok, List.filter_cons_of_pos hq]
      rfl
    | false =>
      rw [if_neg Bool.false_ne_true, List.filter_cons_of_neg (by rw [hq]; exact Bool.false_ne_true)]
theorem lst_ok {α : Type} {f : α → D} {xs : List α} (h : xs.length ≤ 1000000) : lstD (xs.map f) = .ok (.lst (xs.map f)) := by
  unfold lstD
  rw [List.length_map, if_pos (by unfold LIM; omega)]
theorem cut_to {α : Type} (xs : List α) (k : Nat) : PL.cut xs none (some (k : Int)) = xs.take k := by
  unfold PL.cut
  rw [HT.sIx_none, HT.sIx_nat, List.drop_zero, Nat.sub_zero]
  rcases Nat.le_total k xs.length with h | h
  · rw [Nat.min_eq_left h]
  · rw [Nat.min_eq_right h, List.take_length, List.take_of_length_le h]
theorem cut_from {α : Type} (xs : List α) (k : Nat) : PL.cut xs (some (k : Int)) none = xs.drop k := by
  unfold PL.cut
  rw [HT.sIx_none, HT.sIx_nat]
  rcases Nat.le_total k xs.length with h | h
  · rw [Nat.min_eq_left h, List.take_of_length_le (by rw [List.length_drop]; exact Nat.le_refl _)]
  · rw [Nat.min_eq_right h, List.drop_length, List.drop_eq_nil_of_le h, List.take_nil]
theorem slT_to (ds : List D) (k : Nat) : sliceD (.tup ds) none (some (k : Int)) = .ok (.tup (ds.take k)) := by
  show Res.ok (D.tup (PL.cut ds none (some (k : Int)))) = _
  rw [cut_to]
theorem slT_from (ds : List D) (k : Nat) : sliceD (.tup ds) (some (k : Int)) none = .ok (.tup (ds.drop k)) := by
  show Res.ok (D.tup (PL.cut ds (some (k : Int)) none)) = _
  rw [cut_from]
theorem slL_to (ds : List D) (k : Nat) : sliceD (.lst ds) none (some (k : Int)) = .ok (.lst (ds.take k)) := by
  show Res.ok (D.lst (PL.cut ds none (some (k : Int)))) = _
  rw [cut_to]
theorem slL_from (ds : List D) (k : Nat) : sliceD (.lst ds) (some (k : Int)) none = .ok (.lst (ds.drop k)) := by
  show Res.ok (D.lst (PL.cut ds (some (k : Int)) none)) = _
  rw [cut_from]
@[simp] theorem revD_tup (ds : List D) : revD (.tup ds) = .ok (.tup ds.reverse) := id rfl
@[simp] theorem ev_count (a b : Env → Res D) (ρ : Env) : eCount a b ρ = (a ρ).bind fun d => (strOf d).bind fun s => (b ρ).bind fun y => cntS s y := id rfl
@[simp] theorem strOf_str (s : List Nat) : strOf (.str s) = .ok s := id rfl
@[simp] theorem cntS_ch (s : List Nat) (c : Nat) : cntS s (.str [c]) = .ok (.int (s.count c : Nat)) := id rfl
def putI (r : List (Int × Int)) (k v : Int) : List (Int × Int) :=
  if (r.any fun e => e.1 == k) = true then r.map fun e => if e.1 = k then (e.1, v) else e else r ++ [(k, v)]
def getI (r : List (Int × Int)) (k : Int) : Option Int := (r.find? fun e => e.1 == k).map (·.2)
def kvD (e : Int × Int) : Int × D := (e.1, .int e.2)
def dctI (r : List (Int × Int)) : D := .dct (r.map kvD)
theorem putD_kv (r : List (Int × Int)) (k v : Int) : putD (r.map kvD) k (.int v) = (putI r k v).map kvD := by
  unfold putD putI
  rw [List.any_map]
  have e : ((fun e : Int × D => e.1 == k) ∘ kvD) = fun e : Int × Int => e.1 == k := rfl
  rw [e]
  split
  · rw [List.map_map, List.map_map]
    refine List.map_congr_left fun x _ => ?_
    show (if (kvD x).1 = k then ((kvD x).1, D.int v) else kvD x) = kvD (if x.1 = k then (x.1, v) else x)
    by_cases h : x.1 = k
    · rw [if_pos h, if_pos (show (kvD x).1 = k from h)]; rfl
    · rw [if_neg h, if_neg (show ¬ (kvD x).1 = k from h)]
  · rw [List.map_append]; rfl
theorem look_kv (r : List (Int × Int)) (k : Int) : look (r.map kvD) k = (getI r k).map D.int := by
  unfold look getI
  rw [List.find?_map]
  have e : ((fun e : Int × D => e.1 == k) ∘ kvD) = fun e : Int × Int => e.1 == k := rfl
  rw [e]
  cases r.find? fun e => e.1 == k <;> rfl
theorem dset_int (r : List (Int × Int)) (k v : Int) (h : r.length < LIM) : dsetD (r.map kvD) (.int v) (.int k) = .ok (dctI (putI r k v)) := by
  show (if (r.map kvD).length < LIM then Res.ok (D.dct (putD (r.map kvD) k (.int v))) else .bad) = _
  rw [List.length_map, if_pos h, putD_kv]
  rfl
@[simp] theorem ev_dset (i : Nat) (k e : Env → Res D) (ρ : Env) : sDSet i k e ρ = ((e ρ).bind fun x => ((eVar i ρ).bind fun d => (dctOf d).bind fun es => (k ρ).bind fun y => dsetD es x y).bind fun d => .ok (ρ.set i (some d))).env := id rfl
@[simp] theorem ev_daug (i : Nat) (k e : Env → Res D) (ρ : Env) : PL.sDAug i k e ρ = (((eVar i ρ).bind fun d => (dctOf d).bind fun es => (k ρ).bind fun y => (augGet es y).bind fun jn => (e ρ).bind fun z => augPut es jn z).bind fun d => .ok (ρ.set i (some d))).env := id rfl
def getOr (es : List (Int × D)) (y z : D) : Res D := match y with
  | .int j => .ok ((look es j).getD z)
  | _ => .bad
@[simp] theorem getOr_int (es : List (Int × D)) (j : Int) (z : D) : getOr es (.int j) z = .ok ((look es j).getD z) := id rfl
@[simp] theorem ev_get2 (a k x : Env → Res D) (ρ : Env) : eGet2 a k x ρ = (a ρ).bind fun d => (dctOf d).bind fun es => (k ρ).bind fun y => (x ρ).bind fun z => getOr es y z := id rfl
@[simp] theorem dctOf_I (r : List (Int × Int)) : dctOf (dctI r) = .ok (r.map kvD) := id rfl
theorem getD_int (r : List (Int × Int)) (k z : Int) : ((getI r k).map D.int).getD (.int z) = .int ((getI r k).getD z) := by
  cases getI r k <;> rfl
def keys (r : List (Int × Int)) : List Int := r.map (·.1)
theorem putI_keys (r : List (Int × Int)) (k v : Int) : keys (putI r k v) = if k ∈ keys r then keys r else keys r ++ [k] := by
  unfold putI keys
  by_cases h : (r.any fun e => e.1 == k) = true
  · have hk : k ∈ r.map (·.1) := by
      obtain ⟨e, he, h2⟩ := List.any_eq_true.mp h
      exact List.mem_map.mpr ⟨e, he, eq_of_beq h2⟩
    rw [if_pos h, if_pos hk, List.map_map]
    refine List.map_congr_left fun x _ => ?_
    show (if x.1 = k then (x.1, v) else x).1 = x.1
    split <;> rfl
  · have hk : k ∉ r.map (·.1) := by
      intro hk
      obtain ⟨e, he, h2⟩ := List.mem_map.mp hk
      exact h (List.any_eq_true.mpr ⟨e, he, beq_iff_eq.mpr h2⟩)
    rw [if_neg h, if_neg hk, List.map_append]
    rfl
theorem putI_mem (r : List (Int × Int)) (k v j : Int) : j ∈ keys (putI r k v) ↔ j ∈ keys r ∨ j = k := by
  rw [putI_keys]
  split
  · constructor
    · exact .inl
    · rintro (h | h)
      · exact h
      · rw [h]; assumption
  · rw [List.mem_append, List.mem_singleton]
theorem putI_nodup {r : List (Int × Int)} (k v : Int) (h : (keys r).Nodup) : (keys (putI r k v)).Nodup := by
  rw [putI_keys]
  split
  · exact h
  · rename_i hk
    refine List.nodup_append.mpr ⟨h, by simp, fun a ha b hb => ?_⟩
    rw [List.mem_singleton] at hb
    rintro rfl
    exact hk (hb ▸ ha)
theorem putI_length (r : List (Int × Int)) (k v : Int) : (putI r k v).length = if k ∈ keys r then r.length else r.length + 1 := by
  have e := congrArg List.length (putI_keys r k v)
  unfold keys at e
  rw [List.length_map] at e
  rw [e]
  unfold keys
  split <;> simp
theorem getI_map (v k j : Int) : ∀ r : List (Int × Int), k ∈ keys r → getI (r.map fun e => if e.1 = k then (e.1, v) else e) j = if j = k then some v else getI r j
  | [], h => by simp [keys] at h
  | x :: r, h => by
    unfold getI
    rw [List.map_cons, List.find?_cons, List.find?_cons]
    by_cases hx : x.1 = k
    · rw [if_pos hx]
      by_cases hj : j = k
      · subst hj
        have hb : (x.1 == j) = true := beq_iff_eq.mpr hx
        simp [hb]
      · have hb : (x.1 == j) = false := beq_eq_false_iff_ne.mpr fun e => hj (e.symm.trans hx)
        rw [if_neg hj]
        dsimp only
        rw [hb]
        by_cases h2 : k ∈ keys r
        · have := getI_map v k j r h2
          rw [if_neg hj] at this
          exact this
        · have : r.map (fun e => if e.1 = k then (e.1, v) else e) = r := by
            conv => rhs; rw [← List.map_id r]
            exact List.map_congr_left fun e he => if_neg fun h3 => h2 (List.mem_map.mpr ⟨e, he, h3⟩)
          rw [this]
    · rw [if_neg hx]
      have h2 : k ∈ keys r := by
        rcases List.mem_cons.mp h with h | h
        · exact absurd h.symm hx
        · exact h
      by_cases hj : x.1 = j
      · have hb : (x.1 == j) = true := beq_iff_eq.mpr hj
        rw [hb]
        have : ¬ j = k := fun e => hx (hj.trans e)
        rw [if_neg this]
      · have hb : (x.1 == j) = false := beq_eq_false_iff_ne.mpr hj
        rw [hb]
        exact getI_map v k j r h2
theorem getI_putI (r : List (Int × Int)) (k v j : Int) : getI (putI r k v) j = if j = k then some v else getI r j := by
  unfold putI
  split
  · rename_i h
    refine getI_map v k j r ?_
    obtain ⟨e, he, h2⟩ := List.any_eq_true.mp h
    exact List.mem_map.mpr ⟨e, he, eq_of_beq h2⟩
  · rename_i h
    have hz : ∀ e ∈ r, ¬ e.1 = k := fun e he h3 => h (List.any_eq_true.mpr ⟨e, he, beq_iff_eq.mpr h3⟩)
    unfold getI
    rw [List.find?_append]
    by_cases hj : j = k
    · subst hj
      have : r.find? (fun e => e.1 == j) = none := List.find?_eq_none.mpr fun e he => by simpa using hz e he
      rw [this, if_pos rfl]
      simp
    · rw [if_neg hj]
      have : ([(k, v)] : List (Int × Int)).find? (fun e => e.1 == j) = none := by
        have hb : (k == j) = false := beq_eq_false_iff_ne.mpr fun e => hj e.symm
        simp [List.find?_cons, hb]
      rw [this]
      cases r.find? fun e => e.1 == j <;> rfl
theorem getI_none {r : List (Int × Int)} {k : Int} (h : k ∉ keys r) : getI r k = none := by
  unfold getI
  have : r.find? (fun e => e.1 == k) = none := List.find?_eq_none.mpr fun e he => by
    have : ¬ e.1 = k := fun h3 => h (List.mem_map.mpr ⟨e, he, h3⟩)
    simpa using this
  rw [this]
  rfl
def GO.out : GO → Res (List D)
  | .next _ ys => .ok ys
  | .bad => .bad
theorem runG_eq {n m : Nat} {b : GSm} {ds : List D} (h : ds.length = n) : runG n m b ds = (b [] (ds.map some ++ List.replicate (m - n) none)).out := by
  unfold runG
  rw [if_pos h]
  cases b [] (ds.map some ++ List.replicate (m - n) none) <;> rfl
end PL
set_option Elab.async false
set_option linter.all false
set_option maxRecDepth 100000
set_option maxHeartbeats 4000000
namespace PL
open PySem PySem.Spec PyProof.Rows L2
def B_steps : Env → Out :=
  (sSeq (sSet 4 (eArgs lstD aNil))
    (sSeq (sIf (tChn leD leD (eBin idxD (eVar 0) (eCst (.int 0))) (eVar 2) (eBin idxD (eVar 0) (eCst (.int 1)))) (sSeq (sApp 4 (eArgs tupD (aCons (eCst (.str [108])) (aCons (eBin addD (eVar 1) (eVar 2)) aNil))))
    sNil) sNil)
    (sSeq (sIf (tAnd (tNot (tVal (eVar 3))) (tChn leD leD (eBin idxD (eVar 0) (eCst (.int 0))) (eBin subD (eVar 2) (eVar 1)) (eBin idxD (eVar 0) (eCst (.int 1))))) (sSeq (sApp 4 (eArgs tupD (aCons (eCst (.str [116])) (aCons (eVar 2) aNil))))
    sNil) sNil)
    (sRet (eVar 4)))))
def S_steps : List D → Res D := runD 4 5 B_steps
theorem R_steps (a0 a1 a2 a3 : D) : S_steps [a0, a1, a2, a3] = (B_steps [some a0, some a1, some a2, some a3, none]).res := runD_eq (by rfl)
def B_forward_1 : Env → Out :=
  (sSeq (sDSet 5 (eVar 9) (eBin addD (eGet2 (eVar 5) (eVar 9) (eCst (.int 0))) (eVar 7)))
    sNil)
def B_forward_2 : Env → Out :=
  (sSeq (sFor (fun ρ => ((eArgs S_steps (aCons (eVar 0) (aCons (eVar 6) (aCons (eVar 4) (aCons (eTst (tCmp eqD (eVar 3) (eCst (.int 0)))) aNil))))) ρ).bind itemsD) (gtT [8, 9]) B_forward_1)
    sNil)
def B_forward_3 : Env → Out :=
  (sSeq (sSet 5 (eCst (.dct [])))
    (sSeq (sFor (fun ρ => ((eBin idxD (eVar 2) (eUn negD (eCst (.int 1)))) ρ).bind itemsOf) (gtT [6, 7]) B_forward_2)
    (sSeq (sApp 2 (eVar 5))
    sNil)))
def B_forward : Env → Out :=
  (sSeq (sSet 2 (eArgs lstD (aCons (eDct1 0 (eCst (.int 1))) aNil)))
    (sSeq (sFor (fun ρ => ((aCons (eVar 1) aNil) ρ).bind enumD) (gtT [3, 4]) B_forward_3)
    (sRet (eVar 2))))
def S_forward : List D → Res D := runD 2 10 B_forward
theorem R_forward (a0 a1 : D) : S_forward [a0, a1] = (B_forward [some a0, some a1, none, none, none, none, none, none, none, none]).res := runD_eq (by rfl)
def B_backward_1 : Env → Out :=
  (sSeq (sDSet 3 (eVar 4) (eCst (.int 1)))
    sNil)
def B_backward_2 : Env → Out :=
  (sSeq (PL.sDAug 7 (eVar 4) (eBin idxD (eBin idxD (eVar 5) (eCst (.int 0))) (eVar 9)))
    sNil)
def B_backward_3 : Env → Out :=
  (sSeq (sDSet 7 (eVar 4) (eCst (.int 0)))
    (sSeq (sFor (fun ρ => ((eArgs S_steps (aCons (eVar 0) (aCons (eVar 4) (aCons (eBin idxD (eVar 1) (eVar 6)) (aCons (eTst (tCmp eqD (eVar 6) (eCst (.int 0)))) aNil))))) ρ).bind itemsD) (gtT [8, 9]) B_backward_2)
    sNil))
def B_backward_4 : Env → Out :=
  (sSeq (sSet 7 (eCst (.dct [])))
    (sSeq (sFor (fun ρ => ((eBin idxD (eVar 2) (eVar 6)) ρ).bind itemsD) (gtN 4) B_backward_3)
    (sSeq (sSet 5 (eBin addD (eArgs lstD (aCons (eVar 7) aNil)) (eVar 5)))
    sNil)))
def B_backward : Env → Out :=
  (sSeq (sSet 2 (eArgs S_forward (aCons (eVar 0) (aCons (eVar 1) aNil))))
    (sSeq (sSet 3 (eCst (.dct [])))
    (sSeq (sFor (fun ρ => ((eBin idxD (eVar 2) (eUn negD (eCst (.int 1)))) ρ).bind itemsD) (gtN 4) B_backward_1)
    (sSeq (sSet 5 (eArgs lstD (aCons (eVar 3) aNil)))
    (sSeq (sFor (fun ρ => ((aCons (eBin subD (eArgs lenD (aCons (eVar 1) aNil)) (eCst (.int 1))) (aCons (eUn negD (eCst (.int 1))) (aCons (eUn negD (eCst (.int 1))) aNil))) ρ).bind rng3) (gtN 6) B_backward_4)
    (sRet (eVar 5)))))))
def S_backward : List D → Res D := runD 2 10 B_backward
theorem R_backward (a0 a1 : D) : S_backward [a0, a1] = (B_backward [some a0, some a1, none, none, none, none, none, none, none, none]).res := runD_eq (by rfl)
def B_count_readings : Env → Out :=
  (sRet (eBin idxD (eBin idxD (eArgs S_backward (aCons (eVar 0) (aCons (eVar 1) aNil))) (eCst (.int 0))) (eCst (.int 0))))
def S_count_readings : List D → Res D := runD 2 2 B_count_readings
theorem R_count_readings (a0 a1 : D) : S_count_readings [a0, a1] = (B_count_readings [some a0, some a1]).res := runD_eq (by rfl)
def B_reading_at_1 : Env → Out :=
  (sIf (tCmp eqD (eArgs lenD (aCons (eVar 5) aNil)) (eVar 6)) (sIf (tCmp ltD (eVar 2) (eBin idxD (eBin idxD (eVar 3) (eBin addD (eVar 6) (eCst (.int 1)))) (eVar 9))) (sSeq (sPar2 5 4 (eBin addD (eVar 5) (eVar 8)) (eVar 9))
    sNil) (sSeq (sSet 2 (eBin subD (eVar 2) (eBin idxD (eBin idxD (eVar 3) (eBin addD (eVar 6) (eCst (.int 1)))) (eVar 9))))
    sNil)) sNil)
def B_reading_at_2 : Env → Out :=
  (sSeq (sFor (fun ρ => ((eArgs S_steps (aCons (eVar 0) (aCons (eVar 4) (aCons (eVar 7) (aCons (eTst (tCmp eqD (eVar 6) (eCst (.int 0)))) aNil))))) ρ).bind itemsD) (gtT [8, 9]) B_reading_at_1)
    sNil)
def B_reading_at : Env → Out :=
  (sSeq (sSet 3 (eArgs S_backward (aCons (eVar 0) (aCons (eVar 1) aNil))))
    (sSeq (sIf (tNot (tChn leD ltD (eCst (.int 0)) (eVar 2) (eBin idxD (eBin idxD (eVar 3) (eCst (.int 0))) (eCst (.int 0))))) (sRet (eCst .non)) sNil)
    (sSeq (sUnp (gtT [4, 5]) (eArgs tupD (aCons (eCst (.int 0)) (aCons (eCst (.str [])) aNil))))
    (sSeq (sFor (fun ρ => ((aCons (eVar 1) aNil) ρ).bind enumD) (gtT [6, 7]) B_reading_at_2)
    (sRet (eVar 5))))))
def S_reading_at : List D → Res D := runD 3 10 B_reading_at
theorem R_reading_at (a0 a1 a2 : D) : S_reading_at [a0, a1, a2] = (B_reading_at [some a0, some a1, some a2, none, none, none, none, none, none, none]).res := runD_eq (by rfl)
def B_number_of_1 : Env → Out :=
  (sIf (tCmp eqD (eVar 10) (eBin idxD (eVar 2) (eVar 6))) (sSeq (sSet 9 (eVar 11))
    sNil) (sIf (tCmp isND (eVar 9) (eCst .non)) (sSeq (sSet 8 (eBin idxD (eBin idxD (eVar 3) (eBin addD (eVar 6) (eCst (.int 1)))) (eVar 11)))
    sNil) sNil))
def B_number_of_2 : Env → Out :=
  (sSeq (sUnp (gtT [8, 9]) (eArgs tupD (aCons (eCst (.int 0)) (aCons (eCst .non) aNil))))
    (sSeq (sFor (fun ρ => ((eArgs S_steps (aCons (eVar 0) (aCons (eVar 4) (aCons (eVar 7) (aCons (eTst (tCmp eqD (eVar 6) (eCst (.int 0)))) aNil))))) ρ).bind itemsD) (gtT [10, 11]) B_number_of_1)
    (sSeq (sIf (tCmp isND (eVar 9) (eCst .non)) (sRet (eCst .non)) sNil)
    (sSeq (sPar2 4 5 (eVar 9) (eBin addD (eVar 5) (eVar 8)))
    sNil))))
def B_number_of : Env → Out :=
  (sSeq (sSet 3 (eArgs S_backward (aCons (eVar 0) (aCons (eVar 1) aNil))))
    (sSeq (sUnp (gtT [4, 5]) (eArgs tupD (aCons (eCst (.int 0)) (aCons (eCst (.int 0)) aNil))))
    (sSeq (sFor (fun ρ => ((aCons (eVar 1) aNil) ρ).bind enumD) (gtT [6, 7]) B_number_of_2)
    (sRet (eVar 5)))))
def S_number_of : List D → Res D := runD 3 12 B_number_of
theorem R_number_of (a0 a1 a2 : D) : S_number_of [a0, a1, a2] = (B_number_of [some a0, some a1, some a2, none, none, none, none, none, none, none, none, none]).res := runD_eq (by rfl)
def G_readings_1 : GSm :=
  (gSeq (gYield (eArgs S_reading_at (aCons (eVar 0) (aCons (eVar 1) (aCons (eVar 2) aNil)))))
    gNil)
def B_readings : GSm :=
  (gSeq (gFor (fun ρ => ((aCons (eArgs S_count_readings (aCons (eVar 0) (aCons (eVar 1) aNil))) aNil) ρ).bind rng1) (gtN 2) G_readings_1)
    gNil)
def S_readings : List D → Res (List D) := runG 2 3 B_readings
theorem R_readings (a0 a1 : D) : S_readings [a0, a1] = (B_readings [] [some a0, some a1, none]).out := runG_eq (by rfl)
def B__law_cell : Env → Out :=
  (sSeq (sIf (tCmp ltD (eVar 1) (eArgs lenD (aCons (eVar 0) aNil))) (sRet (eBin idxD (eVar 0) (eVar 1))) sNil)
    (sSeq (sIf (tCmp eqD (eArgs lenD (aCons (eVar 0) aNil)) (eCst (.int 0))) (sRet (eBin addD (eBin mulD (eCst (.int 7919)) (eVar 1)) (eCst (.int 101)))) sNil)
    (sRet (eBin addD (eBin modD (eBin idxD (eVar 0) (eBin modD (eVar 1) (eArgs lenD (aCons (eVar 0) aNil)))) (eCst (.int 1000003))) (eBin mulD (eCst (.int 7919)) (eVar 1))))))
def S__law_cell : List D → Res D := runD 2 2 B__law_cell
theorem R__law_cell (a0 a1 : D) : S__law_cell [a0, a1] = (B__law_cell [some a0, some a1]).res := runD_eq (by rfl)
def B__law_digits_1 : Env → Out :=
  (sSeq (sSet 9 (eBin mulD (eBin modD (eVar 5) (eBin idxD (eVar 4) (eBin modD (eVar 8) (eCst (.int 8))))) (eBin addD (eCst (.int 48271)) (eBin mulD (eBin mulD (eCst (.int 2)) (eVar 8)) (eVar 8)))))
    (sSeq (sSet 9 (eBin addD (eBin addD (eVar 9) (eBin mulD (eBin mulD (eCst (.int 7919)) (eBin addD (eVar 8) (eCst (.int 1)))) (eBin addD (eVar 8) (eCst (.int 1))))) (eBin mulD (eCst (.int 104729)) (eVar 1))))
    (sSeq (sSet 9 (eBin modD (eVar 9) (eBin idxD (eVar 4) (eBin modD (eBin addD (eBin mulD (eCst (.int 3)) (eVar 8)) (eVar 1)) (eCst (.int 8))))))
    (sSeq (sSet 9 (eBin modD (eBin mulD (eBin mulD (eVar 9) (eVar 9)) (eVar 9)) (eBin idxD (eVar 4) (eBin modD (eBin addD (eVar 8) (eCst (.int 5))) (eCst (.int 8))))))
    (sSeq (sIf (tCmp gtD (eVar 6) (eCst (.int 0))) (sSeq (sSet 9 (eVar 6))
    sNil) sNil)
    (sSeq (sApp 7 (eBin modD (eVar 9) (eVar 3)))
    (sSeq (sSet 6 (eBin divD (eVar 6) (eVar 3)))
    sNil)))))))
def B__law_digits : Env → Out :=
  (sSeq (sSet 4 (eArgs tupD (aCons (eCst (.int 2147483647)) (aCons (eCst (.int 2147483629)) (aCons (eCst (.int 2147483587)) (aCons (eCst (.int 2147483579)) (aCons (eCst (.int 2147483563)) (aCons (eCst (.int 2147483549)) (aCons (eCst (.int 2147483543)) (aCons (eCst (.int 2147483497)) aNil))))))))))
    (sSeq (sSet 5 (eArgs S__law_cell (aCons (eVar 0) (aCons (eVar 1) aNil))))
    (sSeq (sSet 6 (eIf (tCmp geD (eVar 5) (eBin powD (eCst (.int 10)) (eCst (.int 18)))) (eVar 5) (eCst (.int 0))))
    (sSeq (sSet 7 (eArgs lstD aNil))
    (sSeq (sFor (fun ρ => ((aCons (eVar 2) aNil) ρ).bind rng1) (gtN 8) B__law_digits_1)
    (sRet (eVar 7)))))))
def S__law_digits : List D → Res D := runD 4 10 B__law_digits
theorem R__law_digits (a0 a1 a2 a3 : D) : S__law_digits [a0, a1, a2, a3] = (B__law_digits [some a0, some a1, some a2, some a3, none, none, none, none, none, none]).res := runD_eq (by rfl)
def B__law_bounds : Env → Out :=
  (sSeq (sSet 1 (eBin addD (eCst (.int 1)) (eBin modD (eBin idxD (eVar 0) (eCst (.int 0))) (eBin idxD (eArgs lstD (aCons (eCst (.int 6)) (aCons (eCst (.int 60)) aNil))) (eBin modD (eBin idxD (eVar 0) (eCst (.int 1))) (eCst (.int 2)))))))
    (sRet (eArgs tupD (aCons (eVar 1) (aCons (eBin addD (eVar 1) (eBin modD (eBin idxD (eVar 0) (eCst (.int 2))) (eBin idxD (eArgs lstD (aCons (eCst (.int 3)) (aCons (eCst (.int 40)) (aCons (eCst (.int 400)) aNil)))) (eBin modD (eBin idxD (eVar 0) (eCst (.int 3))) (eCst (.int 3)))))) aNil)))))
def S__law_bounds : List D → Res D := runD 1 2 B__law_bounds
theorem R__law_bounds (a0 : D) : S__law_bounds [a0] = (B__law_bounds [some a0, none]).res := runD_eq (by rfl)
def B__law_lengths_1 : Env → Out :=
  (sSeq (sApp 4 (eBin addD (eBin idxD (eVar 1) (eCst (.int 0))) (eBin modD (eBin idxD (eVar 0) (eBin modD (eVar 5) (eArgs lenD (aCons (eVar 0) aNil)))) (eVar 3))))
    sNil)
def B__law_lengths : Env → Out :=
  (sSeq (sPar2 3 4 (eBin addD (eBin subD (eBin idxD (eVar 1) (eCst (.int 1))) (eBin idxD (eVar 1) (eCst (.int 0)))) (eCst (.int 1))) (eArgs lstD aNil))
    (sSeq (sFor (fun ρ => ((aCons (eVar 2) aNil) ρ).bind rng1) (gtN 5) B__law_lengths_1)
    (sRet (eArgs tupOf (aCons (eVar 4) aNil)))))
def S__law_lengths : List D → Res D := runD 3 6 B__law_lengths
theorem R__law_lengths (a0 a1 a2 : D) : S__law_lengths [a0, a1, a2] = (B__law_lengths [some a0, some a1, some a2, none, none, none]).res := runD_eq (by rfl)
def B__law_kinds_1 : Env → Out :=
  (sSeq (sSet 2 (eBin addD (eVar 2) (eIf (tOr (tCmp eqD (eVar 3) (eCst (.int 0))) (tCmp eqD (eBin modD (eBin divD (eBin idxD (eVar 0) (eBin modD (eVar 3) (eArgs lenD (aCons (eVar 0) aNil)))) (eCst (.int 7))) (eCst (.int 2))) (eCst (.int 0)))) (eCst (.str [108])) (eCst (.str [116])))))
    sNil)
def B__law_kinds : Env → Out :=
  (sSeq (sSet 2 (eCst (.str [])))
    (sSeq (sFor (fun ρ => ((aCons (eVar 1) aNil) ρ).bind rng1) (gtN 3) B__law_kinds_1)
    (sRet (eVar 2))))
def S__law_kinds : List D → Res D := runD 2 4 B__law_kinds
theorem R__law_kinds (a0 a1 : D) : S__law_kinds [a0, a1] = (B__law_kinds [some a0, some a1, none, none]).res := runD_eq (by rfl)
def B__law_noted_1 : Env → Out :=
  (sSeq (sSet 3 (eBin addD (eVar 3) (eVar 4)))
    (sSeq (sApp 2 (eIf (tCmp eqD (eVar 5) (eCst (.str [108]))) (eVar 4) (eVar 3)))
    sNil))
def B__law_noted : Env → Out :=
  (sSeq (sPar2 2 3 (eArgs lstD aNil) (eCst (.int 0)))
    (sSeq (sFor (fun ρ => ((aCons (eVar 0) (aCons (eVar 1) aNil)) ρ).bind zipD) (gtT [4, 5]) B__law_noted_1)
    (sRet (eArgs tupOf (aCons (eVar 2) aNil)))))
def S__law_noted : List D → Res D := runD 2 6 B__law_noted
theorem R__law_noted (a0 a1 : D) : S__law_noted [a0, a1] = (B__law_noted [some a0, some a1, none, none, none, none]).res := runD_eq (by rfl)
def B__law_changed_1 : Env → Out :=
  (sIf (tCmp neD (eVar 2) (eArgs lstD aNil)) (sSeq (sSet 4 (eBin modD (eBin idxD (eVar 1) (eBin addD (eCst (.int 1)) (eVar 3))) (eArgs lenD (aCons (eVar 2) aNil))))
    (sSeq (sLSet 2 (eVar 4) (eArgs maxD (aCons (eCst (.int 1)) (aCons (eBin addD (eBin idxD (eVar 2) (eVar 4)) (eBin idxD (eArgs lstD (aCons (eCst (.int 1)) (aCons (eBin subD (eCst (.int 0)) (eCst (.int 1))) (aCons (eCst (.int 9)) (aCons (eBin subD (eCst (.int 0)) (eCst (.int 9))) (aCons (eCst (.int 50)) (aCons (eBin subD (eCst (.int 0)) (eBin idxD (eVar 2) (eVar 4))) aNil))))))) (eBin modD (eBin idxD (eVar 1) (eBin addD (eCst (.int 3)) (eVar 3))) (eCst (.int 6))))) aNil))))
    sNil)) sNil)
def B__law_changed : Env → Out :=
  (sSeq (sSet 2 (eArgs listOf (aCons (eVar 0) aNil)))
    (sSeq (sFor (fun ρ => ((aCons (eBin addD (eCst (.int 1)) (eBin modD (eBin idxD (eVar 1) (eCst (.int 0))) (eCst (.int 2)))) aNil) ρ).bind rng1) (gtN 3) B__law_changed_1)
    (sRet (eArgs tupOf (aCons (eVar 2) aNil)))))
def S__law_changed : List D → Res D := runD 2 5 B__law_changed
theorem R__law_changed (a0 a1 : D) : S__law_changed [a0, a1] = (B__law_changed [some a0, some a1, none, none, none]).res := runD_eq (by rfl)
def B__law_lengths_of_1 : Env → Out :=
  (sSeq (sSet 6 (eIf (tCmp eqD (eVar 5) (eCst (.str [108]))) (eBin addD (eVar 3) (eVar 4)) (eVar 4)))
    (sSeq (sApp 2 (eBin subD (eVar 6) (eVar 3)))
    (sSeq (sSet 3 (eVar 6))
    sNil)))
def B__law_lengths_of : Env → Out :=
  (sSeq (sPar2 2 3 (eArgs lstD aNil) (eCst (.int 0)))
    (sSeq (sFor (fun ρ => ((aCons (eVar 0) (aCons (eVar 1) aNil)) ρ).bind zipD) (gtT [4, 5]) B__law_lengths_of_1)
    (sRet (eVar 2))))
def S__law_lengths_of : List D → Res D := runD 2 7 B__law_lengths_of
theorem R__law_lengths_of (a0 a1 : D) : S__law_lengths_of [a0, a1] = (B__law_lengths_of [some a0, some a1, none, none, none, none, none]).res := runD_eq (by rfl)
def C__law_good_1 : Env → Res D :=
  (eComp (fun ρ => ((eArgs S__law_lengths_of (aCons (eVar 1) (aCons (eVar 2) aNil))) ρ).bind itemsD) (gtN 3) (tNot (tChn leD leD (eBin idxD (eVar 0) (eCst (.int 0))) (eVar 3) (eBin idxD (eVar 0) (eCst (.int 1))))) (eVar 3) [3])
def B__law_good : Env → Out :=
  (sRet (eTst (tCmp eqD C__law_good_1 (eArgs lstD aNil))))
def S__law_good : List D → Res D := runD 3 4 B__law_good
theorem R__law_good (a0 a1 a2 : D) : S__law_good [a0, a1, a2] = (B__law_good [some a0, some a1, some a2, none]).res := runD_eq (by rfl)
def C__law_readings_1 : Env → Res D :=
  (eComp (fun ρ => ((eIf (tCmp eqD (eVar 3) (eCst (.int 0))) (eCst (.str [108])) (eCst (.str [108, 116]))) ρ).bind itemsD) (gtN 6) tTrue (eBin addD (eVar 5) (eVar 6)) [6])
def B__law_readings_1 : Env → Out :=
  (sSeq (sSet 4 (eBin addD (eVar 4) C__law_readings_1))
    sNil)
def C__law_readings_2 : Env → Res D :=
  (eComp (fun ρ => ((eVar 4) ρ).bind itemsD) (gtN 5) (tVal (eArgs S__law_good (aCons (eVar 0) (aCons (eSlice (eVar 1) oNone (oSome (eBin addD (eVar 3) (eCst (.int 1))))) (aCons (eVar 5) aNil))))) (eVar 5) [5])
def B__law_readings_2 : Env → Out :=
  (sSeq (sSet 4 (eArgs lstD aNil))
    (sSeq (sFor (fun ρ => ((eVar 2) ρ).bind itemsD) (gtN 5) B__law_readings_1)
    (sSeq (sSet 2 C__law_readings_2)
    sNil)))
def B__law_readings : Env → Out :=
  (sSeq (sSet 2 (eArgs lstD (aCons (eCst (.str [])) aNil)))
    (sSeq (sFor (fun ρ => ((aCons (eArgs lenD (aCons (eVar 1) aNil)) aNil) ρ).bind rng1) (gtN 3) B__law_readings_2)
    (sRet (eArgs sortD (aCons (eVar 2) aNil)))))
def S__law_readings : List D → Res D := runD 2 7 B__law_readings
theorem R__law_readings (a0 a1 : D) : S__law_readings [a0, a1] = (B__law_readings [some a0, some a1, none, none, none, none, none]).res := runD_eq (by rfl)
def B_times_1 : Env → Out :=
  (sSeq (sSet 3 (eIf (tCmp eqD (eVar 5) (eCst (.str [108]))) (eBin addD (eVar 3) (eVar 4)) (eVar 4)))
    (sSeq (sApp 2 (eVar 3))
    sNil))
def B_times : Env → Out :=
  (sSeq (sPar2 2 3 (eArgs lstD aNil) (eCst (.int 0)))
    (sSeq (sFor (fun ρ => ((aCons (eVar 0) (aCons (eVar 1) aNil)) ρ).bind zipD) (gtT [4, 5]) B_times_1)
    (sRet (eVar 2))))
def S_times : List D → Res D := runD 2 6 B_times
theorem R_times (a0 a1 : D) : S_times [a0, a1] = (B_times [some a0, some a1, none, none, none, none]).res := runD_eq (by rfl)
def C_laps_1 : Env → Res D :=
  (eComp (fun ρ => ((aCons (eBin addD (eArgs lstD (aCons (eCst (.int 0)) aNil)) (eVar 2)) (aCons (eVar 2) aNil)) ρ).bind zipD) (gtT [3, 4]) tTrue (eBin subD (eVar 4) (eVar 3)) [3, 4])
def B_laps : Env → Out :=
  (sSeq (sSet 2 (eArgs S_times (aCons (eVar 0) (aCons (eVar 1) aNil))))
    (sRet C_laps_1))
def S_laps : List D → Res D := runD 2 5 B_laps
theorem R_laps (a0 a1 : D) : S_laps [a0, a1] = (B_laps [some a0, some a1, none, none, none]).res := runD_eq (by rfl)
def C_fits_1 : Env → Res D :=
  (eComp (fun ρ => ((eArgs S_laps (aCons (eVar 1) (aCons (eVar 2) aNil))) ρ).bind itemsD) (gtN 3) tTrue (eTst (tChn leD leD (eBin idxD (eVar 0) (eCst (.int 0))) (eVar 3) (eBin idxD (eVar 0) (eCst (.int 1))))) [3])
def B_fits : Env → Out :=
  (sRet (eArgs allD (aCons C_fits_1 aNil)))
def S_fits : List D → Res D := runD 3 4 B_fits
theorem R_fits (a0 a1 a2 : D) : S_fits [a0, a1, a2] = (B_fits [some a0, some a1, some a2, none]).res := runD_eq (by rfl)
def C_possible_times_1 : Env → Res D :=
  (eComp (fun ρ => ((eVar 3) ρ).bind itemsD) (gtN 4) (tCmp gtD (eBin idxD (eVar 3) (eVar 4)) (eCst (.int 0))) (eVar 4) [4])
def B_possible_times : Env → Out :=
  (sSeq (sSet 3 (eBin idxD (eArgs S_backward (aCons (eVar 0) (aCons (eVar 1) aNil))) (eBin addD (eVar 2) (eCst (.int 1)))))
    (sRet (eArgs sortD (aCons C_possible_times_1 aNil))))
def S_possible_times : List D → Res D := runD 3 5 B_possible_times
theorem R_possible_times (a0 a1 a2 : D) : S_possible_times [a0, a1, a2] = (B_possible_times [some a0, some a1, some a2, none, none]).res := runD_eq (by rfl)
def B_sure_kinds_1 : Env → Out :=
  (sSeq (sSet 6 (eIf (tCmp gtD (eBin idxD (eBin idxD (eVar 2) (eBin addD (eVar 4) (eCst (.int 1)))) (eVar 9)) (eCst (.int 0))) (eBin addD (eVar 6) (eVar 8)) (eVar 6)))
    sNil)
def B_sure_kinds_2 : Env → Out :=
  (sIf (tCmp gtD (eBin idxD (eBin idxD (eVar 2) (eVar 4)) (eVar 7)) (eCst (.int 0))) (sSeq (sFor (fun ρ => ((eArgs S_steps (aCons (eVar 0) (aCons (eVar 7) (aCons (eVar 5) (aCons (eTst (tCmp eqD (eVar 4) (eCst (.int 0)))) aNil))))) ρ).bind itemsD) (gtT [8, 9]) B_sure_kinds_1)
    sNil) sNil)
def B_sure_kinds_3 : Env → Out :=
  (sSeq (sSet 6 (eCst (.str [])))
    (sSeq (sFor (fun ρ => ((eBin idxD (eVar 2) (eVar 4)) ρ).bind itemsD) (gtN 7) B_sure_kinds_2)
    (sSeq (sSet 3 (eBin addD (eVar 3) (eIf (tAnd (tCmp inD (eCst (.str [108])) (eVar 6)) (tCmp inD (eCst (.str [116])) (eVar 6))) (eCst (.str [63])) (eBin idxD (eVar 6) (eCst (.int 0))))))
    sNil)))
def B_sure_kinds : Env → Out :=
  (sSeq (sSet 2 (eArgs S_backward (aCons (eVar 0) (aCons (eVar 1) aNil))))
    (sSeq (sIf (tCmp eqD (eBin idxD (eBin idxD (eVar 2) (eCst (.int 0))) (eCst (.int 0))) (eCst (.int 0))) (sRet (eCst .non)) sNil)
    (sSeq (sSet 3 (eCst (.str [])))
    (sSeq (sFor (fun ρ => ((aCons (eVar 1) aNil) ρ).bind enumD) (gtT [4, 5]) B_sure_kinds_3)
    (sRet (eVar 3))))))
def S_sure_kinds : List D → Res D := runD 2 10 B_sure_kinds
theorem R_sure_kinds (a0 a1 : D) : S_sure_kinds [a0, a1] = (B_sure_kinds [some a0, some a1, none, none, none, none, none, none, none, none]).res := runD_eq (by rfl)
def B__law_by_last_total_1 : Env → Out :=
  (sSeq (sApp 2 (eBin addD (eBin idxD (eVar 0) (eVar 3)) (eArgs sumT (aCons (eSlice (eVar 0) (oSome (eBin addD (eVar 3) (eCst (.int 1)))) (oSome (eBin addD (eVar 1) (eCst (.int 1))))) aNil))))
    sNil)
def B__law_by_last_total : Env → Out :=
  (sSeq (sSet 2 (eArgs lstD (aCons (eArgs sumT (aCons (eSlice (eVar 0) oNone (oSome (eBin addD (eVar 1) (eCst (.int 1))))) aNil)) aNil)))
    (sSeq (sFor (fun ρ => ((aCons (eCst (.int 1)) (aCons (eBin addD (eVar 1) (eCst (.int 1))) aNil)) ρ).bind rng2) (gtN 3) B__law_by_last_total_1)
    (sRet (eVar 2))))
def S__law_by_last_total : List D → Res D := runD 2 4 B__law_by_last_total
theorem R__law_by_last_total (a0 a1 : D) : S__law_by_last_total [a0, a1] = (B__law_by_last_total [some a0, some a1, none, none]).res := runD_eq (by rfl)
def B_longest_doubt : Env → Out :=
  (sRet (eBin divD (eBin subD (eBin idxD (eVar 0) (eCst (.int 1))) (eCst (.int 1))) (eBin idxD (eVar 0) (eCst (.int 0)))))
def S_longest_doubt : List D → Res D := runD 1 1 B_longest_doubt
theorem R_longest_doubt (a0 : D) : S_longest_doubt [a0] = (B_longest_doubt [some a0]).res := runD_eq (by rfl)
def B__law_power_1 : Env → Out :=
  (sSeq (sSet 1 (eBin mulD (eVar 1) (eCst (.int 2))))
    sNil)
def B__law_power : Env → Out :=
  (sSeq (sSet 1 (eCst (.int 1)))
    (sSeq (sFor (fun ρ => ((aCons (eVar 0) aNil) ρ).bind rng1) (gtN 2) B__law_power_1)
    (sRet (eVar 1))))
def S__law_power : List D → Res D := runD 1 3 B__law_power
theorem R__law_power (a0 : D) : S__law_power [a0] = (B__law_power [some a0, none, none]).res := runD_eq (by rfl)
def B_first_wrong_1 : Env → Out :=
  (sIf (tCmp emptyD (eVar 3) (eCst (.dct []))) (sRet (eBin subD (eVar 2) (eCst (.int 1)))) sNil)
def B_first_wrong : Env → Out :=
  (sSeq (sFor (fun ρ => ((aCons (eArgs S_forward (aCons (eVar 0) (aCons (eVar 1) aNil))) aNil) ρ).bind enumD) (gtT [2, 3]) B_first_wrong_1)
    (sRet (eCst .non)))
def S_first_wrong : List D → Res D := runD 2 4 B_first_wrong
theorem R_first_wrong (a0 a1 : D) : S_first_wrong [a0, a1] = (B_first_wrong [some a0, some a1, none, none]).res := runD_eq (by rfl)
def B_merged_1 : Env → Out :=
  (sIf (tAnd (tCmp neD (eVar 1) (eArgs lstD aNil)) (tCmp leD (eVar 2) (eBin addD (eBin idxD (eBin idxD (eVar 1) (eUn negD (eCst (.int 1)))) (eCst (.int 1))) (eCst (.int 1))))) (sSeq (sLSet 1 (eUn negD (eCst (.int 1))) (eArgs tupD (aCons (eBin idxD (eBin idxD (eVar 1) (eUn negD (eCst (.int 1)))) (eCst (.int 0))) (aCons (eArgs maxD (aCons (eArgs lstD (aCons (eBin idxD (eBin idxD (eVar 1) (eUn negD (eCst (.int 1)))) (eCst (.int 1))) (aCons (eVar 3) aNil))) aNil)) aNil))))
    sNil) (sSeq (sApp 1 (eArgs tupD (aCons (eVar 2) (aCons (eVar 3) aNil))))
    sNil))
def B_merged : Env → Out :=
  (sSeq (sSet 1 (eArgs lstD aNil))
    (sSeq (sFor (fun ρ => ((eArgs sortD (aCons (eVar 0) aNil)) ρ).bind itemsD) (gtT [2, 3]) B_merged_1)
    (sRet (eVar 1))))
def S_merged : List D → Res D := runD 1 4 B_merged
theorem R_merged (a0 : D) : S_merged [a0] = (B_merged [some a0, none, none, none]).res := runD_eq (by rfl)
def C_readable_from_1 : Env → Res D :=
  (eComp (fun ρ => ((eVar 2) ρ).bind itemsD) (gtT [5, 6]) tTrue (eArgs tupD (aCons (eBin subD (eVar 5) (eVar 3)) (aCons (eBin subD (eVar 6) (eVar 3)) aNil))) [5, 6])
def C_readable_from_2 : Env → Res D :=
  (eComp (fun ρ => ((eVar 2) ρ).bind itemsD) (gtT [5, 6]) tTrue (eTst (tChn leD leD (eVar 5) (eVar 3) (eVar 6))) [5, 6])
def C_readable_from_3 : Env → Res D :=
  (eComp (fun ρ => ((eVar 4) ρ).bind itemsD) (gtT [5, 6]) (tCmp geD (eVar 6) (eCst (.int 0))) (eArgs tupD (aCons (eArgs maxD (aCons (eArgs lstD (aCons (eVar 5) (aCons (eCst (.int 0)) aNil))) aNil)) (aCons (eVar 6) aNil))) [5, 6])
def B_readable_from_1 : Env → Out :=
  (sSeq (sSet 4 (eArgs lstD aNil))
    (sSeq (sIf (tChn leD leD (eBin idxD (eVar 0) (eCst (.int 0))) (eVar 3) (eBin idxD (eVar 0) (eCst (.int 1)))) (sSeq (sSet 4 C_readable_from_1)
    sNil) sNil)
    (sSeq (sIf (tVal (eArgs anyD (aCons C_readable_from_2 aNil))) (sSeq (sApp 4 (eArgs tupD (aCons (eBin subD (eVar 3) (eBin idxD (eVar 0) (eCst (.int 1)))) (aCons (eBin subD (eVar 3) (eBin idxD (eVar 0) (eCst (.int 0)))) aNil))))
    sNil) sNil)
    (sSeq (sSet 2 (eArgs S_merged (aCons C_readable_from_3 aNil)))
    sNil))))
def B_readable_from : Env → Out :=
  (sSeq (sSet 2 (eArgs lstD (aCons (eArgs tupD (aCons (eCst (.int 0)) (aCons (eBin powD (eCst (.int 10)) (eCst (.int 9))) aNil))) aNil)))
    (sSeq (sFor (fun ρ => ((eUn revD (eVar 1)) ρ).bind itemsD) (gtN 3) B_readable_from_1)
    (sRet (eVar 2))))
def S_readable_from : List D → Res D := runD 2 7 B_readable_from
theorem R_readable_from (a0 a1 : D) : S_readable_from [a0, a1] = (B_readable_from [some a0, some a1, none, none, none, none, none]).res := runD_eq (by rfl)
def B_hidden_numbers_1 : Env → Out :=
  (sSeq (sApp 3 (eArgs tupD (aCons (eArgs maxD (aCons (eArgs lstD (aCons (eBin subD (eVar 6) (eVar 5)) (aCons (eBin idxD (eVar 0) (eCst (.int 0))) aNil))) aNil)) (aCons (eArgs minD (aCons (eArgs lstD (aCons (eBin subD (eVar 7) (eVar 5)) (aCons (eBin idxD (eVar 0) (eCst (.int 1))) aNil))) aNil)) aNil))))
    (sIf (tCmp gtD (eVar 2) (eCst (.int 0))) (sSeq (sApp 3 (eArgs tupD (aCons (eArgs maxD (aCons (eArgs lstD (aCons (eVar 6) (aCons (eBin addD (eVar 5) (eBin idxD (eVar 0) (eCst (.int 0)))) aNil))) aNil)) (aCons (eArgs minD (aCons (eArgs lstD (aCons (eVar 7) (aCons (eBin addD (eVar 5) (eBin idxD (eVar 0) (eCst (.int 1)))) aNil))) aNil)) aNil))))
    sNil) sNil))
def B_hidden_numbers_2 : Env → Out :=
  (sSeq (sFor (fun ρ => ((eVar 4) ρ).bind itemsD) (gtT [6, 7]) B_hidden_numbers_1)
    sNil)
def C_hidden_numbers_1 : Env → Res D :=
  (eComp (fun ρ => ((eVar 3) ρ).bind itemsD) (gtT [6, 7]) (tCmp leD (eVar 6) (eVar 7)) (eArgs tupD (aCons (eVar 6) (aCons (eVar 7) aNil))) [6, 7])
def B_hidden_numbers : Env → Out :=
  (sSeq (sSet 3 (eArgs lstD aNil))
    (sSeq (sSet 4 (eArgs S_readable_from (aCons (eVar 0) (aCons (eSlice (eVar 1) (oSome (eBin addD (eVar 2) (eCst (.int 1)))) oNone) aNil))))
    (sSeq (sFor (fun ρ => ((eBin idxD (eArgs S_forward (aCons (eVar 0) (aCons (eSlice (eVar 1) oNone (oSome (eVar 2))) aNil))) (eUn negD (eCst (.int 1)))) ρ).bind itemsD) (gtN 5) B_hidden_numbers_2)
    (sRet (eArgs S_merged (aCons C_hidden_numbers_1 aNil))))))
def S_hidden_numbers : List D → Res D := runD 3 8 B_hidden_numbers
theorem R_hidden_numbers (a0 a1 a2 : D) : S_hidden_numbers [a0, a1, a2] = (B_hidden_numbers [some a0, some a1, some a2, none, none, none, none, none]).res := runD_eq (by rfl)
def B__law_ranges_1 : Env → Out :=
  (sIf (tAnd (tCmp neD (eVar 1) (eArgs lstD aNil)) (tCmp eqD (eBin idxD (eBin idxD (eVar 1) (eBin subD (eArgs lenD (aCons (eVar 1) aNil)) (eCst (.int 1)))) (eCst (.int 1))) (eBin subD (eVar 2) (eCst (.int 1))))) (sSeq (sLSet 1 (eBin subD (eArgs lenD (aCons (eVar 1) aNil)) (eCst (.int 1))) (eArgs tupD (aCons (eBin idxD (eBin idxD (eVar 1) (eBin subD (eArgs lenD (aCons (eVar 1) aNil)) (eCst (.int 1)))) (eCst (.int 0))) (aCons (eVar 2) aNil))))
    sNil) (sSeq (sApp 1 (eArgs tupD (aCons (eVar 2) (aCons (eVar 2) aNil))))
    sNil))
def B__law_ranges : Env → Out :=
  (sSeq (sSet 1 (eArgs lstD aNil))
    (sSeq (sFor (fun ρ => ((eVar 0) ρ).bind itemsD) (gtN 2) B__law_ranges_1)
    (sRet (eVar 1))))
def S__law_ranges : List D → Res D := runD 1 3 B__law_ranges
theorem R__law_ranges (a0 : D) : S__law_ranges [a0] = (B__law_ranges [some a0, none, none]).res := runD_eq (by rfl)
def C_wrong_indices_1 : Env → Res D :=
  (eComp (fun ρ => ((aCons (eArgs lenD (aCons (eVar 1) aNil)) aNil) ρ).bind rng1) (gtN 2) (tCmp neD (eArgs S_hidden_numbers (aCons (eVar 0) (aCons (eVar 1) (aCons (eVar 2) aNil)))) (eArgs lstD aNil)) (eVar 2) [2])
def B_wrong_indices : Env → Out :=
  (sSeq (sIf (tCmp gtD (eArgs S_count_readings (aCons (eVar 0) (aCons (eVar 1) aNil))) (eCst (.int 0))) (sRet (eArgs lstD aNil)) sNil)
    (sRet C_wrong_indices_1))
def S_wrong_indices : List D → Res D := runD 2 3 B_wrong_indices
theorem R_wrong_indices (a0 a1 : D) : S_wrong_indices [a0, a1] = (B_wrong_indices [some a0, some a1, none]).res := runD_eq (by rfl)
def B_fewest_wrong_1 : Env → Out :=
  (sSeq (sIf (tChn leD leD (eBin idxD (eVar 0) (eCst (.int 0))) (eVar 4) (eBin idxD (eVar 0) (eCst (.int 1)))) (sSeq (sApp 7 (eArgs tupD (aCons (eBin addD (eVar 8) (eVar 4)) (aCons (eBin addD (eVar 9) (eVar 4)) aNil))))
    sNil) sNil)
    (sIf (tAnd (tCmp gtD (eVar 3) (eCst (.int 0))) (tAnd (tCmp leD (eVar 8) (eBin subD (eVar 4) (eBin idxD (eVar 0) (eCst (.int 0))))) (tCmp geD (eVar 9) (eBin subD (eVar 4) (eBin idxD (eVar 0) (eCst (.int 1))))))) (sSeq (sApp 7 (eArgs tupD (aCons (eVar 4) (aCons (eVar 4) aNil))))
    sNil) sNil))
def C_fewest_wrong_1 : Env → Res D :=
  (eComp (fun ρ => ((eBin idxD (eVar 2) (eBin subD (eVar 6) (eCst (.int 1)))) ρ).bind itemsD) (gtT [8, 9]) tTrue (eArgs tupD (aCons (eBin addD (eVar 8) (eBin idxD (eVar 0) (eCst (.int 0)))) (aCons (eBin addD (eVar 9) (eBin idxD (eVar 0) (eCst (.int 1)))) aNil))) [8, 9])
def B_fewest_wrong_2 : Env → Out :=
  (sSeq (sSet 7 (eArgs lstD aNil))
    (sSeq (sIf (tCmp ltD (eVar 6) (eArgs lenD (aCons (eVar 2) aNil))) (sSeq (sFor (fun ρ => ((eBin idxD (eVar 2) (eVar 6)) ρ).bind itemsD) (gtT [8, 9]) B_fewest_wrong_1)
    sNil) sNil)
    (sSeq (sIf (tCmp gtD (eVar 6) (eCst (.int 0))) (sSeq (sSet 7 (eBin addL (eVar 7) C_fewest_wrong_1))
    sNil) sNil)
    (sSeq (sApp 5 (eArgs S_merged (aCons (eVar 7) aNil)))
    sNil))))
def B_fewest_wrong_3 : Env → Out :=
  (sSeq (sSet 5 (eArgs lstD aNil))
    (sSeq (sFor (fun ρ => ((aCons (eBin addD (eArgs lenD (aCons (eVar 2) aNil)) (eCst (.int 1))) aNil) ρ).bind rng1) (gtN 6) B_fewest_wrong_2)
    (sSeq (sSet 2 (eVar 5))
    sNil)))
def C_fewest_wrong_2 : Env → Res D :=
  (eComp (fun ρ => ((aCons (eVar 2) aNil) ρ).bind enumD) (gtT [6, 10]) (tCmp neD (eVar 10) (eArgs lstD aNil)) (eVar 6) [6, 10])
def B_fewest_wrong : Env → Out :=
  (sSeq (sSet 2 (eArgs lstD (aCons (eArgs lstD (aCons (eArgs tupD (aCons (eCst (.int 0)) (aCons (eCst (.int 0)) aNil))) aNil)) aNil)))
    (sSeq (sFor (fun ρ => ((aCons (eVar 1) aNil) ρ).bind enumD) (gtT [3, 4]) B_fewest_wrong_3)
    (sRet (eArgs minD (aCons C_fewest_wrong_2 aNil)))))
def S_fewest_wrong : List D → Res D := runD 2 11 B_fewest_wrong
theorem R_fewest_wrong (a0 a1 : D) : S_fewest_wrong [a0, a1] = (B_fewest_wrong [some a0, some a1, none, none, none, none, none, none, none, none, none]).res := runD_eq (by rfl)
def B__law_readable_with_1 : Env → Out :=
  (sSeq (sApp 6 (eBin addD (eVar 7) (eVar 8)))
    sNil)
def B__law_readable_with_2 : Env → Out :=
  (sIf (tCmp inD (eVar 4) (eVar 2)) (sSeq (sFor (fun ρ => ((aCons (eBin idxD (eVar 0) (eCst (.int 0))) (aCons (eBin addD (eBin idxD (eVar 0) (eCst (.int 1))) (eCst (.int 1))) aNil)) ρ).bind rng2) (gtN 8) B__law_readable_with_1)
    sNil) (sSeq (sIf (tChn leD leD (eBin idxD (eVar 0) (eCst (.int 0))) (eVar 5) (eBin idxD (eVar 0) (eCst (.int 1)))) (sSeq (sApp 6 (eBin addD (eVar 7) (eVar 5)))
    sNil) sNil)
    (sIf (tAnd (tCmp gtD (eVar 4) (eCst (.int 0))) (tChn leD leD (eBin idxD (eVar 0) (eCst (.int 0))) (eBin subD (eVar 5) (eVar 7)) (eBin idxD (eVar 0) (eCst (.int 1))))) (sSeq (sApp 6 (eVar 5))
    sNil) sNil)))
def B__law_readable_with_3 : Env → Out :=
  (sSeq (sSet 6 (eArgs lstD aNil))
    (sSeq (sFor (fun ρ => ((eVar 3) ρ).bind itemsD) (gtN 7) B__law_readable_with_2)
    (sSeq (sSet 3 (eArgs ssetD (aCons (eVar 6) aNil)))
    sNil)))
def B__law_readable_with : Env → Out :=
  (sSeq (sSet 3 (eArgs lstD (aCons (eCst (.int 0)) aNil)))
    (sSeq (sFor (fun ρ => ((aCons (eVar 1) aNil) ρ).bind enumD) (gtT [4, 5]) B__law_readable_with_3)
    (sRet (eTst (tCmp neD (eVar 3) (eArgs lstD aNil))))))
def S__law_readable_with : List D → Res D := runD 3 9 B__law_readable_with
theorem R__law_readable_with (a0 a1 a2 : D) : S__law_readable_with [a0, a1, a2] = (B__law_readable_with [some a0, some a1, some a2, none, none, none, none, none, none]).res := runD_eq (by rfl)
def C__law_places_1 : Env → Res D :=
  (eComp (fun ρ => ((aCons (eVar 0) aNil) ρ).bind rng1) (gtN 6) (tOr (tCmp eqD (eVar 5) (eArgs tupD aNil)) (tCmp gtD (eVar 6) (eBin idxD (eVar 5) (eBin subD (eArgs lenD (aCons (eVar 5) aNil)) (eCst (.int 1)))))) (eBin addD (eVar 5) (eArgs tupD (aCons (eVar 6) aNil))) [6])
def B__law_places_1 : Env → Out :=
  (sSeq (sSet 4 (eBin addD (eVar 4) C__law_places_1))
    sNil)
def B__law_places_2 : Env → Out :=
  (sSeq (sSet 4 (eArgs lstD aNil))
    (sSeq (sFor (fun ρ => ((eVar 2) ρ).bind itemsD) (gtN 5) B__law_places_1)
    (sSeq (sPar2 1 2 (eBin addD (eVar 1) (eVar 4)) (eVar 4))
    sNil)))
def B__law_places : Env → Out :=
  (sSeq (sPar2 1 2 (eArgs lstD (aCons (eArgs tupD aNil) aNil)) (eArgs lstD (aCons (eArgs tupD aNil) aNil)))
    (sSeq (sFor (fun ρ => ((aCons (eVar 0) aNil) ρ).bind rng1) (gtN 3) B__law_places_2)
    (sRet (eVar 1))))
def S__law_places : List D → Res D := runD 1 7 B__law_places
theorem R__law_places (a0 : D) : S__law_places [a0] = (B__law_places [some a0, none, none, none, none, none, none]).res := runD_eq (by rfl)
def B_least_high_1 : Env → Out :=
  (sSeq (sSet 10 (eArgs maxD (aCons (eArgs lstD (aCons (eVar 7) (aCons (eBin subD (eVar 9) (eVar 6)) aNil))) aNil)))
    (sSeq (sDSet 5 (eVar 9) (eArgs minD (aCons (eArgs lstD (aCons (eVar 10) (aCons (eGet2 (eVar 5) (eVar 9) (eVar 10)) aNil))) aNil)))
    sNil))
def B_least_high_2 : Env → Out :=
  (sSeq (sFor (fun ρ => ((eArgs S_steps (aCons (eArgs tupD (aCons (eVar 1) (aCons (eBin powD (eCst (.int 10)) (eCst (.int 9))) aNil))) (aCons (eVar 6) (aCons (eVar 4) (aCons (eTst (tCmp eqD (eVar 3) (eCst (.int 0)))) aNil))))) ρ).bind itemsD) (gtT [8, 9]) B_least_high_1)
    sNil)
def B_least_high_3 : Env → Out :=
  (sSeq (sSet 5 (eCst (.dct [])))
    (sSeq (sFor (fun ρ => ((eVar 2) ρ).bind itemsOf) (gtT [6, 7]) B_least_high_2)
    (sSeq (sSet 2 (eVar 5))
    sNil)))
def B_least_high : Env → Out :=
  (sSeq (sSet 2 (eDct1 0 (eVar 1)))
    (sSeq (sFor (fun ρ => ((aCons (eVar 0) aNil) ρ).bind enumD) (gtT [3, 4]) B_least_high_3)
    (sRet (eIf (tCmp nemptyD (eVar 2) (eCst (.dct []))) (eUn minV (eVar 2)) (eCst .non)))))
def S_least_high : List D → Res D := runD 2 11 B_least_high
theorem R_least_high (a0 a1 : D) : S_least_high [a0, a1] = (B_least_high [some a0, some a1, none, none, none, none, none, none, none, none, none]).res := runD_eq (by rfl)
def B_greatest_low_1 : Env → Out :=
  (sSeq (sSet 10 (eArgs minD (aCons (eArgs lstD (aCons (eVar 7) (aCons (eBin subD (eVar 9) (eVar 6)) aNil))) aNil)))
    (sSeq (sDSet 5 (eVar 9) (eArgs maxD (aCons (eArgs lstD (aCons (eVar 10) (aCons (eGet2 (eVar 5) (eVar 9) (eVar 10)) aNil))) aNil)))
    sNil))
def B_greatest_low_2 : Env → Out :=
  (sSeq (sFor (fun ρ => ((eArgs S_steps (aCons (eArgs tupD (aCons (eCst (.int 1)) (aCons (eVar 1) aNil))) (aCons (eVar 6) (aCons (eVar 4) (aCons (eTst (tCmp eqD (eVar 3) (eCst (.int 0)))) aNil))))) ρ).bind itemsD) (gtT [8, 9]) B_greatest_low_1)
    sNil)
def B_greatest_low_3 : Env → Out :=
  (sSeq (sSet 5 (eCst (.dct [])))
    (sSeq (sFor (fun ρ => ((eVar 2) ρ).bind itemsOf) (gtT [6, 7]) B_greatest_low_2)
    (sSeq (sSet 2 (eVar 5))
    sNil)))
def B_greatest_low : Env → Out :=
  (sSeq (sSet 2 (eDct1 0 (eVar 1)))
    (sSeq (sFor (fun ρ => ((aCons (eVar 0) aNil) ρ).bind enumD) (gtT [3, 4]) B_greatest_low_3)
    (sRet (eIf (tCmp nemptyD (eVar 2) (eCst (.dct []))) (eUn maxV (eVar 2)) (eCst .non)))))
def S_greatest_low : List D → Res D := runD 2 11 B_greatest_low
theorem R_greatest_low (a0 a1 : D) : S_greatest_low [a0, a1] = (B_greatest_low [some a0, some a1, none, none, none, none, none, none, none, none, none]).res := runD_eq (by rfl)
def B__law_all_laps_1 : Env → Out :=
  (sSeq (sSet 3 (eArgs S__law_lengths_of (aCons (eVar 0) (aCons (eVar 2) aNil))))
    (sSeq (sApp 1 (eArgs tupD (aCons (eArgs minD (aCons (eVar 3) aNil)) (aCons (eArgs maxD (aCons (eVar 3) aNil)) aNil))))
    sNil))
def B__law_all_laps : Env → Out :=
  (sSeq (sSet 1 (eArgs lstD aNil))
    (sSeq (sFor (fun ρ => ((eArgs S__law_readings (aCons (eArgs tupD (aCons (eCst (.int 1)) (aCons (eBin powD (eCst (.int 10)) (eCst (.int 9))) aNil))) (aCons (eVar 0) aNil))) ρ).bind itemsD) (gtN 2) B__law_all_laps_1)
    (sRet (eVar 1))))
def S__law_all_laps : List D → Res D := runD 1 4 B__law_all_laps
theorem R__law_all_laps (a0 : D) : S__law_all_laps [a0] = (B__law_all_laps [some a0, none, none, none]).res := runD_eq (by rfl)
def B__law_ways_1 : Env → Out :=
  (sSeq (sIf (tChn leD leD (eBin idxD (eVar 0) (eCst (.int 0))) (eBin subD (eBin idxD (eVar 1) (eVar 8)) (eVar 6)) (eBin idxD (eVar 0) (eCst (.int 1)))) (sSeq (sDSet 2 (eVar 8) (eBin addD (eGet2 (eVar 2) (eVar 8) (eCst (.int 0))) (eBin idxD (eVar 2) (eVar 5))))
    sNil) sNil)
    (sSeq (sSet 7 (eTst (tChn leD leD (eBin idxD (eVar 0) (eCst (.int 0))) (eBin idxD (eVar 1) (eVar 8)) (eBin idxD (eVar 0) (eCst (.int 1))))))
    (sSeq (sPar2 6 8 (eBin addD (eVar 6) (eBin idxD (eVar 1) (eVar 8))) (eBin addD (eVar 8) (eCst (.int 1))))
    sNil)))
def T__law_ways_1 : Env → Res Bool :=
  (tAnd (tVal (eVar 7)) (tCmp ltD (eVar 8) (eVar 4)))
def B__law_ways_2 : Env → Out :=
  (sIf (tAnd (tCmp inD (eVar 5) (eVar 2)) (tOr (tCmp eqD (eVar 5) (eCst (.int 0))) (tCmp gtD (eBin idxD (eVar 2) (eVar 5)) (eCst (.int 0))))) (sSeq (sSet 6 (eBin idxD (eVar 1) (eVar 5)))
    (sSeq (sSet 7 (eOr (eTst (tCmp gtD (eVar 5) (eCst (.int 0)))) (eTst (tChn leD leD (eBin idxD (eVar 0) (eCst (.int 0))) (eVar 6) (eBin idxD (eVar 0) (eCst (.int 1)))))))
    (sSeq (sSet 8 (eBin addD (eVar 5) (eCst (.int 1))))
    (sSeq (whL T__law_ways_1 B__law_ways_1 100)
    (sSeq (sSet 3 (eBin addD (eVar 3) (eIf (tVal (eVar 7)) (eBin idxD (eVar 2) (eVar 5)) (eCst (.int 0)))))
    sNil))))) sNil)
def B__law_ways : Env → Out :=
  (sSeq (sPar2 2 3 (eDct1 0 (eCst (.int 1))) (eCst (.int 0)))
    (sSeq (sSet 4 (eArgs lenD (aCons (eVar 1) aNil)))
    (sSeq (sFor (fun ρ => ((aCons (eVar 4) aNil) ρ).bind rng1) (gtN 5) B__law_ways_2)
    (sRet (eIf (tCmp gtD (eVar 4) (eCst (.int 0))) (eVar 3) (eCst (.int 1)))))))
def S__law_ways : List D → Res D := runD 2 9 B__law_ways
theorem R__law_ways (a0 a1 : D) : S__law_ways [a0, a1] = (B__law_ways [some a0, some a1, none, none, none, none, none, none, none]).res := runD_eq (by rfl)
def B__law_with : Env → Out :=
  (sRet (eBin addD (eBin addD (eSlice (eVar 0) oNone (oSome (eVar 1))) (eArgs tupD (aCons (eVar 2) aNil))) (eSlice (eVar 0) (oSome (eBin addD (eVar 1) (eCst (.int 1)))) oNone)))
def S__law_with : List D → Res D := runD 3 3 B__law_with
theorem R__law_with (a0 a1 a2 : D) : S__law_with [a0, a1, a2] = (B__law_with [some a0, some a1, some a2]).res := runD_eq (by rfl)
end PL
set_option Elab.async false
set_option linter.all false
set_option maxRecDepth 100000
set_option maxHeartbeats 4000000
namespace PL
open PySem PySem.Spec PyProof.Rows L2
abbrev pr (a b : Int) : D := .tup [.int a, .int b]
def okR (lo hi n : Int) : Bool := decide (lo ≤ n) && decide (n ≤ hi)
def stepsM (lo hi t n : Int) (f : Bool) : List (Nat × Int) :=
  (if okR lo hi n = true then [(108, t + n)] else []) ++ (if !f && okR lo hi (n - t) then [(116, n)] else [])
def stD (e : Nat × Int) : D := .tup [.str [e.1], .int e.2]
theorem steps_eq (lo hi t n : Int) (f : Bool) : S_steps [pr lo hi, .int t, .int n, .bl f] = .ok (.lst ((stepsM lo hi t n f).map stD)) := by
  unfold S_steps
  rw [runD_eq (by rfl)]
  by_cases h1 : lo ≤ n <;> by_cases h2 : n ≤ hi <;> cases f <;> by_cases h3 : lo ≤ n - t <;> by_cases h4 : n - t ≤ hi <;>
    simp [B_steps, List.replicate, stepsM, okR, h1, h2, h3, h4, LIM, stD]
end PL
set_option Elab.async false
set_option linter.all false
set_option maxRecDepth 100000
set_option maxHeartbeats 4000000
namespace PL
open PySem PySem.Spec PyProof.Rows L2
def fwAdd (w : Int) (l : List (Int × Int)) : List (Nat × Int) → List (Int × Int)
  | [] => l
  | e :: ps => fwAdd w (putI l e.2 ((getI l e.2).getD 0 + w)) ps
def fwNext (lo hi n : Int) (f : Bool) (l : List (Int × Int)) : List (Int × Int) → List (Int × Int)
  | [] => l
  | e :: r => fwNext lo hi n f (fwAdd e.2 l (stepsM lo hi e.1 n f)) r
def fwRows (lo hi : Int) (row : List (Int × Int)) (f : Bool) : List Int → List (List (Int × Int))
  | [] => [row]
  | n :: ns => row :: fwRows lo hi (fwNext lo hi n f [] row) false ns
theorem fwAdd_len (w : Int) : ∀ (ps : List (Nat × Int)) (l : List (Int × Int)), (fwAdd w l ps).length ≤ l.length + ps.length
  | [], l => Nat.le_refl _
  | e :: ps, l => by
    have := fwAdd_len w ps (putI l e.2 ((getI l e.2).getD 0 + w))
    rw [putI_length] at this
    show (fwAdd w _ ps).length ≤ l.length + (ps.length + 1)
    split at this <;> omega
theorem stepsM_len (lo hi t n : Int) (f : Bool) : (stepsM lo hi t n f).length ≤ 2 := by
  unfold stepsM
  split <;> split <;> simp
theorem fwNext_len (lo hi n : Int) (f : Bool) : ∀ (r l : List (Int × Int)), (fwNext lo hi n f l r).length ≤ l.length + 2 * r.length
  | [], l => Nat.le_refl _
  | e :: r, l => by
    have h1 := fwNext_len lo hi n f r (fwAdd e.2 l (stepsM lo hi e.1 n f))
    have h2 := fwAdd_len e.2 (stepsM lo hi e.1 n f) l
    have h3 := stepsM_len lo hi e.1 n f
    show (fwNext lo hi n f _ r).length ≤ l.length + 2 * (r.length + 1)
    omega
theorem fwNext_len2 (lo hi n : Int) (f : Bool) : ∀ (r l : List (Int × Int)) (m : Nat), l.length ≤ m + (if n ∈ keys l then 1 else 0) → (fwNext lo hi n f l r).length ≤ m + r.length + 1
  | [], l, m, h => by
    show l.length ≤ m + 0 + 1
    split at h <;> omega
  | e :: r, l, m, h => by
    have key : (fwAdd e.2 l (stepsM lo hi e.1 n f)).length ≤ (m + 1) + (if n ∈ keys (fwAdd e.2 l (stepsM lo hi e.1 n f)) then 1 else 0) := by
      have step1 : ∀ (l : List (Int × Int)) (k v : Int) (m : Nat), l.length ≤ m + (if n ∈ keys l then 1 else 0) → (putI l k v).length ≤ (m + 1) + (if n ∈ keys (putI l k v) then 1 else 0) := by
        intro l k v m h
        have hm : n ∈ keys (putI l k v) ↔ n ∈ keys l ∨ n = k := putI_mem l k v n
        rw [putI_length]
        by_cases hn : n ∈ keys l
        · rw [if_pos (hm.mpr (.inl hn))]
          rw [if_pos hn] at h
          split <;> omega
        · rw [if_neg hn] at h
          split <;> split <;> omega
      have step2 : ∀ (l : List (Int × Int)) (v : Int) (m : Nat), l.length ≤ m + (if n ∈ keys l then 1 else 0) → (putI l n v).length ≤ m + (if n ∈ keys (putI l n v) then 1 else 0) := by
        intro l v m h
        have hm : n ∈ keys (putI l n v) := (putI_mem l n v n).mpr (.inr rfl)
        rw [putI_length, if_pos hm]
        by_cases hn : n ∈ keys l
        · rw [if_pos hn] at h ⊢
          exact h
        · rw [if_neg hn] at h ⊢
          omega
      unfold stepsM
      split <;> split
      · exact step2 _ _ _ (step1 _ _ _ _ h)
      · exact step1 _ _ _ _ h
      · have := step2 l ((getI l n).getD 0 + e.2) m h
        show (putI l n ((getI l n).getD 0 + e.2)).length ≤ (m + 1) + (if n ∈ keys (putI l n ((getI l n).getD 0 + e.2)) then 1 else 0)
        omega
      · show l.length ≤ (m + 1) + (if n ∈ keys l then 1 else 0)
        omega
    have := fwNext_len2 lo hi n f r (fwAdd e.2 l (stepsM lo hi e.1 n f)) (m + 1) key
    show (fwNext lo hi n f _ r).length ≤ m + (r.length + 1) + 1
    omega
theorem fwNext_len1 (lo hi n : Int) (f : Bool) (r : List (Int × Int)) : (fwNext lo hi n f [] r).length ≤ r.length + 1 := by
  have := fwNext_len2 lo hi n f r [] 0 (by simp)
  omega
theorem forward_1 (b nt rw ix nm tm : Option D) (w : Int) : ∀ (ps : List (Nat × Int)) (l : List (Int × Int)) (g8 g9 : Option D), l.length + ps.length < LIM →
    ∃ g8' g9', forL (gtT [8, 9]) B_forward_1 (ps.map stD) [b, nt, rw, ix, nm, some (dctI l), tm, some (.int w), g8, g9] = .next [b, nt, rw, ix, nm, some (dctI (fwAdd w l ps)), tm, some (.int w), g8', g9']
  | [], l, g8, g9, h => ⟨g8, g9, rfl⟩
  | e :: ps, l, g8, g9, h => by
    have h' : l.length + (ps.length + 1) < LIM := h
    have hl := putI_length l e.2 ((getI l e.2).getD 0 + w)
    obtain ⟨g8', g9', ih⟩ := forward_1 b nt rw ix nm tm w ps (putI l e.2 ((getI l e.2).getD 0 + w)) (some (.str [e.1])) (some (.int e.2)) (by split at hl <;> omega)
    exact ⟨g8', g9', (forL_step rfl (by simp [B_forward_1, look_kv, getD_int, dset_int l _ _ (show l.length < LIM by omega)])).trans ih⟩
def itD (e : Int × Int) : D := .tup [.int e.1, .int e.2]
theorem items_kv (r : List (Int × Int)) : itemsOf (dctI r) = .ok (r.map itD) := by
  show Res.ok _ = _
  rw [List.map_map]
  rfl
theorem keys_kv (r : List (Int × Int)) : itemsD (dctI r) = .ok ((keys r).map D.int) := by
  show Res.ok _ = _
  unfold keys
  rw [List.map_map, List.map_map]
  rfl
theorem forward_2 (lo hi n ix : Int) (nt rw : Option D) : ∀ (r l : List (Int × Int)) (g6 g7 g8 g9 : Option D), l.length + 2 * r.length < LIM →
    ∃ g6' g7' g8' g9', forL (gtT [6, 7]) B_forward_2 (r.map itD) [some (pr lo hi), nt, rw, some (.int ix), some (.int n), some (dctI l), g6, g7, g8, g9] = .next [some (pr lo hi), nt, rw, some (.int ix), some (.int n), some (dctI (fwNext lo hi n (decide (ix = 0)) l r)), g6', g7', g8', g9']
  | [], l, g6, g7, g8, g9, h => ⟨g6, g7, g8, g9, rfl⟩
  | e :: r, l, g6, g7, g8, g9, h => by
    have h' : l.length + 2 * (r.length + 1) < LIM := h
    have h2 := fwAdd_len e.2 (stepsM lo hi e.1 n (decide (ix = 0))) l
    have h3 := stepsM_len lo hi e.1 n (decide (ix = 0))
    obtain ⟨x8, x9, h1⟩ := forward_1 (some (pr lo hi)) nt rw (some (.int ix)) (some (.int n)) (some (.int e.1)) e.2 (stepsM lo hi e.1 n (decide (ix = 0))) l g8 g9 (by omega)
    obtain ⟨y6, y7, y8, y9, ih⟩ := forward_2 lo hi n ix nt rw r (fwAdd e.2 l (stepsM lo hi e.1 n (decide (ix = 0)))) (some (.int e.1)) (some (.int e.2)) x8 x9 (by omega)
    exact ⟨y6, y7, y8, y9, (forL_step rfl (by simp [B_forward_2, steps_eq, itemsD, h1])).trans ih⟩
theorem idx_last (xs : List D) (x : D) : idxD (.lst (xs ++ [x])) (.int (-1)) = .ok x := by
  show getD' (xs ++ [x]) (-1) = .ok x
  unfold getD'
  have e : ixN (xs ++ [x]).length (-1) = some xs.length := by
    unfold ixN
    simp
    omega
  rw [e]
  simp
theorem fwRows_len (lo hi : Int) : ∀ (ns : List Int) (row : List (Int × Int)) (f : Bool), (fwRows lo hi row f ns).length = ns.length + 1
  | [], _, _ => rfl
  | n :: ns, row, f => congrArg (· + 1) (fwRows_len lo hi ns _ false)
theorem forward_3 (lo hi : Int) (nt : Option D) : ∀ (ns : List Int) (k : Nat) (pre : List D) (row : List (Int × Int)) (g3 g4 g5 g6 g7 g8 g9 : Option D), row.length + ns.length < 1000 → pre.length + ns.length < 1000 →
    ∃ g3' g4' g5' g6' g7' g8' g9', forL (gtT [3, 4]) B_forward_3 ((enI k ns).map (enD D.int)) [some (pr lo hi), nt, some (.lst (pre ++ [dctI row])), g3, g4, g5, g6, g7, g8, g9] = .next [some (pr lo hi), nt, some (.lst (pre ++ (fwRows lo hi row (decide ((k : Int) = 0)) ns).map dctI)), g3', g4', g5', g6', g7', g8', g9']
  | [], k, pre, row, g3, g4, g5, g6, g7, g8, g9, h, h2 => ⟨g3, g4, g5, g6, g7, g8, g9, rfl⟩
  | n :: ns, k, pre, row, g3, g4, g5, g6, g7, g8, g9, h, h2 => by
    have h' : row.length + (ns.length + 1) < 1000 := h
    have h2' : pre.length + (ns.length + 1) < 1000 := h2
    obtain ⟨x6, x7, x8, x9, h1⟩ := forward_2 lo hi n k nt (some (.lst (pre ++ [dctI row]))) row [] g6 g7 g8 g9 (by simp [LIM]; omega)
    have hl := fwNext_len1 lo hi n (decide ((k : Int) = 0)) row
    obtain ⟨y3, y4, y5, y6, y7, y8, y9, ih⟩ := forward_3 lo hi nt ns (k + 1) (pre ++ [dctI row]) (fwNext lo hi n (decide ((k : Int) = 0)) [] row) (some (.int (k : Nat))) (some (.int n)) (some (dctI (fwNext lo hi n (decide ((k : Int) = 0)) [] row))) x6 x7 x8 x9 (by omega) (by simp; omega)
    have e0 : (D.dct []) = dctI [] := rfl
    have ek : decide (((k + 1 : Nat) : Int) = 0) = false := decide_eq_false (by omega)
    rw [ek] at ih
    refine ⟨y3, y4, y5, y6, y7, y8, y9, (forL_step rfl ?_).trans (ih.trans ?_)⟩
    · simp only [B_forward_3, setAll_cons, setAll_nil, ev_seq, ev_set, ev_for, forI_ok, ev_app, ev_bin, ev_un, ev_cst, bind_ok, negD_int, env_ok, thn_next, List.set_cons_succ, List.set_cons_zero, ev_varS, ev_var0, idx_last, items_kv, e0, h1, lstOf_lst, ev_nil]
      rw [app_lim (by simp [LIM]; omega)]
      rfl
    · show _ = Out.next [some (pr lo hi), nt, some (.lst (pre ++ ((row :: fwRows lo hi (fwNext lo hi n (decide ((k : Int) = 0)) [] row) false ns).map dctI))), y3, y4, y5, y6, y7, y8, y9]
      rw [List.map_cons, List.append_assoc]
      rfl
abbrev tupI (ns : List Int) : D := .tup (ns.map D.int)
theorem forward_eq (lo hi : Int) (ns : List Int) (h : ns.length < 900) : S_forward [pr lo hi, tupI ns] = .ok (.lst ((fwRows lo hi [(0, 1)] true ns).map dctI)) := by
  unfold S_forward
  rw [runD_eq (by rfl)]
  obtain ⟨y3, y4, y5, y6, y7, y8, y9, ih⟩ := forward_3 lo hi (some (tupI ns)) ns 0 [] [(0, 1)] none none none none none none none (by simp; omega) (by simp; omega)
  have e1 : dctI [(0, 1)] = .dct [(0, .int 1)] := rfl
  rw [e1] at ih
  have et : decide (((0 : Nat) : Int) = 0) = true := rfl
  rw [et] at ih
  simp [B_forward, List.replicate, eDct1, enum_tup] at ih ⊢
  rw [ih]
  rfl
end PL
set_option Elab.async false
set_option linter.all false
set_option maxRecDepth 100000
set_option maxHeartbeats 4000000
namespace PL
open PySem PySem.Spec PyProof.Rows L2
theorem ixN_nat {n i : Nat} (h : i < n) : ixN n (i : Int) = some i := by
  unfold ixN
  simp
  omega
theorem idx_lst {xs : List D} {i : Nat} {x : D} (h : xs[i]? = some x) : idxD (.lst xs) (.int i) = .ok x := by
  have hi : i < xs.length := (List.getElem?_eq_some_iff.mp h).1
  show getD' xs (i : Int) = .ok x
  unfold getD'
  rw [ixN_nat hi]
  dsimp only
  rw [h]
theorem idx_tup {xs : List D} {i : Nat} {x : D} (h : xs[i]? = some x) : idxD (.tup xs) (.int i) = .ok x := by
  have hi : i < xs.length := (List.getElem?_eq_some_iff.mp h).1
  show getD' xs (i : Int) = .ok x
  unfold getD'
  rw [ixN_nat hi]
  dsimp only
  rw [h]
theorem idx_ints {ns : List Int} {i : Nat} {n : Int} (h : ns[i]? = some n) : idxD (tupI ns) (.int i) = .ok (.int n) := idx_tup (by rw [List.getElem?_map, h]; rfl)
theorem idx_dct {r : List (Int × Int)} {k v : Int} (h : getI r k = some v) : idxD (dctI r) (.int k) = .ok (.int v) := by
  show (match look (r.map kvD) k with | some d => Res.ok d | none => .bad) = _
  rw [look_kv, h]
  rfl
theorem putI_new {r : List (Int × Int)} {k v : Int} (h : k ∉ keys r) : putI r k v = r ++ [(k, v)] := by
  unfold putI
  rw [if_neg]
  intro h2
  obtain ⟨e, he, h3⟩ := List.any_eq_true.mp h2
  exact h (List.mem_map.mpr ⟨e, he, eq_of_beq h3⟩)
theorem putI_last {r : List (Int × Int)} {k v w : Int} (h : k ∉ keys r) : putI (r ++ [(k, v)]) k w = r ++ [(k, w)] := by
  unfold putI
  rw [if_pos (by simp), List.map_append]
  have : r.map (fun e => if e.1 = k then (e.1, w) else e) = r := by
    conv => rhs; rw [← List.map_id r]
    exact List.map_congr_left fun e he => if_neg fun h3 => h (List.mem_map.mpr ⟨e, he, h3⟩)
  rw [this]
  simp
theorem getI_last {r : List (Int × Int)} {k v : Int} (h : k ∉ keys r) : getI (r ++ [(k, v)]) k = some v := by
  rw [← putI_new h, getI_putI, if_pos rfl]
theorem getI_map_keys {f : Int → Int} : ∀ {ts : List Int} {t : Int}, t ∈ ts → getI (ts.map fun t => (t, f t)) t = some (f t)
  | [], _, h => by simp at h
  | a :: ts, t, h => by
    unfold getI
    rw [List.map_cons, List.find?_cons]
    by_cases ha : a = t
    · subst ha
      simp
    · have hb : (a == t) = false := beq_eq_false_iff_ne.mpr ha
      dsimp only
      rw [hb]
      rcases List.mem_cons.mp h with h | h
      · exact absurd h.symm ha
      · exact getI_map_keys h
theorem keys_pairs (f : Int → Int) (ts : List Int) : keys (ts.map fun t => (t, f t)) = ts := by
  unfold keys
  rw [List.map_map]
  exact List.map_id _
theorem keys_app (r : List (Int × Int)) (k v : Int) : keys (r ++ [(k, v)]) = keys r ++ [k] := by
  unfold keys
  rw [List.map_append]
  rfl
theorem fwAdd_mem (w : Int) (j : Int) : ∀ (ps : List (Nat × Int)) (l : List (Int × Int)), j ∈ keys (fwAdd w l ps) ↔ j ∈ keys l ∨ ∃ e ∈ ps, j = e.2
  | [], l => by
    show j ∈ keys l ↔ _
    simp
  | e :: ps, l => by
    show j ∈ keys (fwAdd w (putI l e.2 ((getI l e.2).getD 0 + w)) ps) ↔ _
    rw [fwAdd_mem w j ps, putI_mem]
    simp [or_assoc]
theorem fwAdd_nodup (w : Int) : ∀ (ps : List (Nat × Int)) (l : List (Int × Int)), (keys l).Nodup → (keys (fwAdd w l ps)).Nodup
  | [], l, h => h
  | e :: ps, l, h => fwAdd_nodup w ps _ (putI_nodup _ _ h)
theorem fwNext_mem (lo hi n : Int) (f : Bool) (j : Int) : ∀ (r l : List (Int × Int)), j ∈ keys (fwNext lo hi n f l r) ↔ j ∈ keys l ∨ ∃ t ∈ keys r, ∃ e ∈ stepsM lo hi t n f, j = e.2
  | [], l => by
    show j ∈ keys l ↔ _
    simp [keys]
  | e :: r, l => by
    show j ∈ keys (fwNext lo hi n f (fwAdd e.2 l (stepsM lo hi e.1 n f)) r) ↔ _
    rw [fwNext_mem lo hi n f j r, fwAdd_mem]
    have : keys (e :: r) = e.1 :: keys r := rfl
    rw [this]
    simp only [List.mem_cons, exists_eq_or_imp, or_assoc]
theorem fwNext_nodup (lo hi n : Int) (f : Bool) : ∀ (r l : List (Int × Int)), (keys l).Nodup → (keys (fwNext lo hi n f l r)).Nodup
  | [], l, h => h
  | e :: r, l, h => fwNext_nodup lo hi n f r _ (fwAdd_nodup _ _ _ h)
def isF (f : Bool) (m : Nat) : Bool := f && decide (m = 0)
theorem fwRows_zero (lo hi : Int) (row : List (Int × Int)) (f : Bool) (ns : List Int) : (fwRows lo hi row f ns)[0]? = some row := by
  cases ns <;> rfl
theorem fwRows_next (lo hi : Int) : ∀ (ns : List Int) (row : List (Int × Int)) (f : Bool) (m : Nat) (n : Int) (r : List (Int × Int)), ns[m]? = some n → (fwRows lo hi row f ns)[m]? = some r →
    (fwRows lo hi row f ns)[m + 1]? = some (fwNext lo hi n (isF f m) [] r)
  | [], row, f, m, n, r, h, _ => by simp at h
  | a :: ns, row, f, 0, n, r, h, h2 => by
    have e : a = n := by simpa using h
    have e2 : row = r := by simpa [fwRows] using h2
    subst e e2
    show (fwRows lo hi (fwNext lo hi a f [] row) false ns)[0]? = _
    rw [fwRows_zero]
    simp [isF]
  | a :: ns, row, f, m + 1, n, r, h, h2 => by
    have := fwRows_next lo hi ns (fwNext lo hi a f [] row) false m n r (by simpa using h) (by simpa [fwRows] using h2)
    show (fwRows lo hi (fwNext lo hi a f [] row) false ns)[m + 1]? = _
    rw [this]
    simp [isF]
theorem fwRows_nodup (lo hi : Int) : ∀ (ns : List Int) (row : List (Int × Int)) (f : Bool), (keys row).Nodup → ∀ r ∈ fwRows lo hi row f ns, (keys r).Nodup
  | [], row, f, h, r, hr => by
    have : r = row := by simpa [fwRows] using hr
    rw [this]; exact h
  | n :: ns, row, f, h, r, hr => by
    rcases List.mem_cons.mp hr with e | e
    · rw [e]; exact h
    · exact fwRows_nodup lo hi ns _ false (fwNext_nodup lo hi n f row [] (by simp [keys])) r e
theorem fwRows_lens (lo hi : Int) : ∀ (ns : List Int) (row : List (Int × Int)) (f : Bool), ∀ r ∈ fwRows lo hi row f ns, r.length ≤ row.length + ns.length
  | [], row, f, r, hr => by
    have : r = row := by simpa [fwRows] using hr
    rw [this]; exact Nat.le_refl _
  | n :: ns, row, f, r, hr => by
    rcases List.mem_cons.mp hr with e | e
    · rw [e]; exact Nat.le_add_right _ _
    · have h1 := fwRows_lens lo hi ns _ false r e
      have h2 := fwNext_len1 lo hi n f row
      show r.length ≤ row.length + (ns.length + 1)
      omega
def cnt (lo hi : Int) (t : Int) (f : Bool) : List Int → Nat
  | [] => 1
  | n :: ns => ((stepsM lo hi t n f).map fun e => cnt lo hi e.2 false ns).sum
def bwRow (lo hi : Int) (ns : List Int) (m : Nat) (r : List (Int × Int)) : List (Int × Int) := (keys r).map fun t => (t, ((cnt lo hi t (isF true m) (ns.drop m) : Nat) : Int))
def dnD : Nat → List D
  | 0 => []
  | m + 1 => .int (m : Nat) :: dnD m
theorem dnD_eq : ∀ (m : Nat) (j : Int), (List.range m).map (fun k => D.int (((m : Int) - 1) + (k : Nat) * (-1))) = dnD m
  | 0, _ => rfl
  | m + 1, j => by
    rw [List.range_succ_eq_map, List.map_cons, List.map_map]
    show _ :: _ = D.int (m : Nat) :: dnD m
    rw [← dnD_eq m j]
    congr 1
    · simp
    · refine List.map_congr_left fun k _ => ?_
      show D.int _ = D.int _
      congr 1
      simp
      omega
theorem rng3_eq {m : Nat} (h : m < 1000000) : rng3 [.int ((m : Int) - 1), .int (-1), .int (-1)] = .ok (dnD m) := by
  show (if ((m : Int) - 1).natAbs < 4000000000000000000 ∧ (-1 : Int).natAbs < 4000000000000000000 ∧ (-1 : Int) = -1 then _ else _) = _
  rw [if_pos (by omega)]
  have : ((m : Int) - 1 - -1).toNat = m := by omega
  rw [this, dnD_eq m 0]
theorem augGet_int {r : List (Int × Int)} {k v : Int} (h : getI r k = some v) : augGet (r.map kvD) (.int k) = .ok (k, v) := by
  show (match look (r.map kvD) k with | some (.int n) => Res.ok (k, n) | _ => .bad) = _
  rw [look_kv, h]
  rfl
theorem augPut_int {r : List (Int × Int)} {k v w : Int} (h : r.length < LIM) : augPut (r.map kvD) (k, v) (.int w) = .ok (dctI (putI r k (v + w))) := by
  show (if (r.map kvD).length < LIM then Res.ok (D.dct (putD (r.map kvD) k (.int (v + w)))) else .bad) = _
  rw [List.length_map, if_pos h, putD_kv]
  rfl
theorem backward_1 (b nt rw : Option D) : ∀ (ts : List Int) (r : List (Int × Int)) (g4 g5 g6 g7 g8 g9 : Option D), r.length + ts.length < LIM → (keys r ++ ts).Nodup →
    ∃ g4', forL (gtN 4) B_backward_1 (ts.map D.int) [b, nt, rw, some (dctI r), g4, g5, g6, g7, g8, g9] = .next [b, nt, rw, some (dctI (r ++ ts.map fun t => (t, 1))), g4', g5, g6, g7, g8, g9]
  | [], r, g4, g5, g6, g7, g8, g9, h, hn => ⟨g4, by rw [List.map_nil, List.map_nil, List.append_nil, forL_nil]⟩
  | t :: ts, r, g4, g5, g6, g7, g8, g9, h, hn => by
    have h' : r.length + (ts.length + 1) < LIM := h
    have ht : t ∉ keys r := fun e => (List.nodup_append.mp hn).2.2 t e t (List.mem_cons_self ..) rfl
    obtain ⟨y4, ih⟩ := backward_1 b nt rw ts (r ++ [(t, 1)]) (some (.int t)) g5 g6 g7 g8 g9 (by simp; omega) (by rw [keys_app, List.append_assoc]; exact hn)
    refine ⟨y4, (forL_step rfl (by simp [B_backward_1, dset_int r _ _ (show r.length < LIM by omega), putI_new ht])).trans (ih.trans ?_)⟩
    rw [List.append_assoc]
    rfl
theorem backward_2 (b nt rw ls ix : Option D) (t : Int) (r : List (Int × Int)) (fd : List D) (nx : List (Int × Int)) (ht : t ∉ keys r) (hl : r.length + 1 < LIM) (f : Int → Nat) : ∀ (ps : List (Nat × Int)) (v : Int) (g8 g9 : Option D), (∀ e ∈ ps, getI nx e.2 = some ((f e.2 : Nat) : Int)) →
    ∃ g8' g9', forL (gtT [8, 9]) B_backward_2 (ps.map stD) [b, nt, rw, ls, some (.int t), some (.lst (dctI nx :: fd)), ix, some (dctI (r ++ [(t, v)])), g8, g9] = .next [b, nt, rw, ls, some (.int t), some (.lst (dctI nx :: fd)), ix, some (dctI (r ++ [(t, v + ((ps.map fun e => f e.2).sum : Nat))])), g8', g9']
  | [], v, g8, g9, h => ⟨g8, g9, by simp [forL_nil]⟩
  | e :: ps, v, g8, g9, h => by
    obtain ⟨y8, y9, ih⟩ := backward_2 b nt rw ls ix t r fd nx ht hl f ps (v + (f e.2 : Nat)) (some (.str [e.1])) (some (.int e.2)) fun x hx => h x (List.mem_cons_of_mem _ hx)
    refine ⟨y8, y9, (forL_step rfl ?_).trans (ih.trans ?_)⟩
    · have e0 : idxD (.lst (dctI nx :: fd)) (.int 0) = .ok (dctI nx) := idx_lst (i := 0) rfl
      simp [B_backward_2, augGet_int (getI_last (v := v) ht), e0, idx_dct (h e (List.mem_cons_self ..)), augPut_int (r := r ++ [(t, v)]) (k := t) (v := v) (w := (f e.2 : Nat)) (by simpa using hl), putI_last ht, -List.map_append]
    · have e1 : v + (f e.2 : Nat) + ((ps.map fun e => f e.2).sum : Nat) = v + (((e :: ps).map fun e => f e.2).sum : Nat) := by
        rw [List.map_cons, List.sum_cons]
        omega
      rw [e1]
theorem backward_3 (lo hi : Int) (ns : List Int) (m : Nat) (n : Int) (hn : ns[m]? = some n) (rw ls : Option D) (fd : List D) (nx : List (Int × Int)) :
    ∀ (ts : List Int) (r : List (Int × Int)) (g4 g8 g9 : Option D), r.length + ts.length < 1000000 → (keys r ++ ts).Nodup → (∀ t ∈ ts, ∀ e ∈ stepsM lo hi t n (decide ((m : Int) = 0)), getI nx e.2 = some ((cnt lo hi e.2 false (ns.drop (m + 1)) : Nat) : Int)) →
    ∃ g4' g8' g9', forL (gtN 4) B_backward_3 (ts.map D.int) [some (pr lo hi), some (tupI ns), rw, ls, g4, some (.lst (dctI nx :: fd)), some (.int m), some (dctI r), g8, g9] = .next [some (pr lo hi), some (tupI ns), rw, ls, g4', some (.lst (dctI nx :: fd)), some (.int m), some (dctI (r ++ ts.map fun t => (t, ((cnt lo hi t (isF true m) (ns.drop m) : Nat) : Int)))), g8', g9']
  | [], r, g4, g8, g9, h, hk, hx => ⟨g4, g8, g9, by rw [List.map_nil, List.map_nil, List.append_nil, forL_nil]⟩
  | t :: ts, r, g4, g8, g9, h, hk, hx => by
    have h' : r.length + (ts.length + 1) < 1000000 := h
    have ht : t ∉ keys r := fun e => (List.nodup_append.mp hk).2.2 t e t (List.mem_cons_self ..) rfl
    have hL : r.length + 1 < LIM := by unfold LIM; omega
    obtain ⟨x8, x9, h1⟩ := backward_2 (some (pr lo hi)) (some (tupI ns)) rw ls (some (.int m)) t r fd nx ht hL (fun x => cnt lo hi x false (ns.drop (m + 1))) (stepsM lo hi t n (decide ((m : Int) = 0))) 0 g8 g9 (hx t (List.mem_cons_self ..))
    have ec : (((stepsM lo hi t n (decide ((m : Int) = 0))).map fun e => cnt lo hi e.2 false (ns.drop (m + 1))).sum) = cnt lo hi t (isF true m) (ns.drop m) := by
      have hm : m < ns.length := (List.getElem?_eq_some_iff.mp hn).1
      have e1 : ns.drop m = n :: ns.drop (m + 1) := by
        rw [List.drop_eq_getElem_cons hm]
        have := (List.getElem?_eq_some_iff.mp hn).2
        rw [this]
      have e2 : decide ((m : Int) = 0) = isF true m := by
        unfold isF
        rw [Bool.true_and]
        exact decide_eq_decide.mpr (by omega)
      rw [e1, e2]
      rfl
    rw [ec, Int.zero_add] at h1
    obtain ⟨y4, y8, y9, ih⟩ := backward_3 lo hi ns m n hn rw ls fd nx ts (r ++ [(t, ((cnt lo hi t (isF true m) (ns.drop m) : Nat) : Int))]) (some (.int t)) x8 x9 (by simp; omega) (by rw [keys_app, List.append_assoc]; exact hk) fun x hx2 => hx x (List.mem_cons_of_mem _ hx2)
    refine ⟨y4, y8, y9, (forL_step rfl ?_).trans (ih.trans ?_)⟩
    · simp only [B_backward_3, ev_seq, ev_dset, ev_cst, ev_for, forI_ok, ev_args, ev_acons, ev_anil, ev_bin, ev_tst, ev_cmp, bind_ok, List.set_cons_succ, List.set_cons_zero, ev_varS, ev_var0, dctOf_I, dset_int r _ _ (show r.length < LIM by omega), putI_new ht, env_ok, thn_next, idx_ints hn, eqD_int, steps_eq, itemsD, h1, ev_nil]
    · rw [List.append_assoc]
      rfl
theorem backward_4 (lo hi : Int) (ns : List Int) (hl : ns.length < 900) (ls : Option D) : ∀ (m : Nat) (fd : List D) (nx : List (Int × Int)) (g4 g6 g7 g8 g9 : Option D), m ≤ ns.length → ((fwRows lo hi [(0, 1)] true ns)[m]?.map (bwRow lo hi ns m)) = some nx → fd.length + m < 1000 →
    ∃ fd' nx' g4' g6' g7' g8' g9', forL (gtN 6) B_backward_4 (dnD m) [some (pr lo hi), some (tupI ns), some (.lst ((fwRows lo hi [(0, 1)] true ns).map dctI)), ls, g4, some (.lst (dctI nx :: fd)), g6, g7, g8, g9] = .next [some (pr lo hi), some (tupI ns), some (.lst ((fwRows lo hi [(0, 1)] true ns).map dctI)), ls, g4', some (.lst (dctI nx' :: fd')), g6', g7', g8', g9'] ∧
      dctI nx' :: fd' = (((List.range m).map fun i => ((fwRows lo hi [(0, 1)] true ns)[i]?.map fun r => dctI (bwRow lo hi ns i r)).getD .non) ++ dctI nx :: fd)
  | 0, fd, nx, g4, g6, g7, g8, g9, hm, hx, hf => ⟨fd, nx, g4, g6, g7, g8, g9, rfl, rfl⟩
  | m + 1, fd, nx, g4, g6, g7, g8, g9, hm, hx, hf => by
    have hm' : m < ns.length := hm
    have hn : ns[m]? = some (ns[m]) := List.getElem?_eq_getElem hm'
    have hlen := fwRows_len lo hi ns [(0, 1)] true
    obtain ⟨r, hr⟩ : ∃ r, (fwRows lo hi [(0, 1)] true ns)[m]? = some r := ⟨_, List.getElem?_eq_getElem (by omega)⟩
    have hmem : r ∈ fwRows lo hi [(0, 1)] true ns := List.mem_of_getElem? hr
    have hnx := fwRows_next lo hi ns [(0, 1)] true m ns[m] r hn hr
    rw [hnx] at hx
    have hx' : bwRow lo hi ns (m + 1) (fwNext lo hi ns[m] (isF true m) [] r) = nx := by simpa using hx
    have hnd : (keys r).Nodup := fwRows_nodup lo hi ns [(0, 1)] true (by simp [keys]) r hmem
    have hrl : r.length ≤ 1 + ns.length := fwRows_lens lo hi ns [(0, 1)] true r hmem
    have e2 : decide ((m : Int) = 0) = isF true m := by
      unfold isF
      rw [Bool.true_and]
      exact decide_eq_decide.mpr (by omega)
    obtain ⟨x4, x8, x9, h1⟩ := backward_3 lo hi ns m ns[m] hn (some (.lst ((fwRows lo hi [(0, 1)] true ns).map dctI))) ls fd nx (keys r) [] g4 g8 g9 (by unfold keys; rw [List.length_map]; simp; omega) (by simpa [keys] using hnd) fun t ht e he => by
      rw [← hx']
      unfold bwRow
      have : e.2 ∈ keys (fwNext lo hi ns[m] (isF true m) [] r) := (fwNext_mem lo hi ns[m] (isF true m) e.2 r []).mpr (.inr ⟨t, ht, e, by rw [← e2]; exact he, rfl⟩)
      rw [getI_map_keys (f := fun t => ((cnt lo hi t (isF true (m + 1)) (ns.drop (m + 1)) : Nat) : Int)) this]
      simp [isF]
    obtain ⟨fd', nx', y4, y6, y7, y8, y9, ih, ih2⟩ := backward_4 lo hi ns hl ls m (dctI nx :: fd) (bwRow lo hi ns m r) x4 (some (.int m)) (some (dctI (bwRow lo hi ns m r))) x8 x9 (Nat.le_of_lt hm') (by rw [hr]; rfl) (by simp; omega)
    refine ⟨fd', nx', y4, y6, y7, y8, y9, (forL_step rfl ?_).trans ih, ?_⟩
    · have e0 : (D.dct []) = dctI [] := rfl
      have e3 : idxD (.lst ((fwRows lo hi [(0, 1)] true ns).map dctI)) (.int m) = .ok (dctI r) := idx_lst (by rw [List.getElem?_map, hr]; rfl)
      have e4 : addD (.lst [dctI (bwRow lo hi ns m r)]) (.lst (dctI nx :: fd)) = .ok (.lst (dctI (bwRow lo hi ns m r) :: dctI nx :: fd)) := by
        show (if 1 + (fd.length + 1) ≤ LIM then _ else _) = _
        rw [if_pos (by unfold LIM; omega)]
        rfl
      have e5 : [] ++ (keys r).map (fun t => (t, ((cnt lo hi t (isF true m) (ns.drop m) : Nat) : Int))) = bwRow lo hi ns m r := rfl
      rw [e5] at h1
      simp only [B_backward_4, ev_seq, ev_set, ev_cst, ev_for, forI_ok, ev_args, ev_acons, ev_anil, ev_bin, bind_ok, List.set_cons_succ, List.set_cons_zero, ev_varS, ev_var0, env_ok, thn_next, e0, e3, keys_kv, h1, lst1, e4, ev_nil]
    · rw [ih2, List.range_succ, List.map_append, List.append_assoc]
      rw [List.map_singleton, hr]
      rfl
def bwRows (lo hi : Int) (ns : List Int) : List (List (Int × Int)) := (List.range (ns.length + 1)).map fun i => ((fwRows lo hi [(0, 1)] true ns)[i]?.map (bwRow lo hi ns i)).getD []
theorem backward_eq (lo hi : Int) (ns : List Int) (h : ns.length < 900) : S_backward [pr lo hi, tupI ns] = .ok (.lst ((bwRows lo hi ns).map dctI)) := by
  have hlen := fwRows_len lo hi ns [(0, 1)] true
  obtain ⟨r, hr⟩ : ∃ r, (fwRows lo hi [(0, 1)] true ns)[ns.length]? = some r := ⟨_, List.getElem?_eq_getElem (by omega)⟩
  have hmem : r ∈ fwRows lo hi [(0, 1)] true ns := List.mem_of_getElem? hr
  have hnd : (keys r).Nodup := fwRows_nodup lo hi ns [(0, 1)] true (by simp [keys]) r hmem
  have hrl : r.length ≤ 1 + ns.length := fwRows_lens lo hi ns [(0, 1)] true r hmem
  have hlast : idxD (.lst ((fwRows lo hi [(0, 1)] true ns).map dctI)) (.int (-1)) = .ok (dctI r) := by
    have : (fwRows lo hi [(0, 1)] true ns) = (fwRows lo hi [(0, 1)] true ns).take ns.length ++ [r] := by
      have h2 : ns.length < (fwRows lo hi [(0, 1)] true ns).length := by omega
      have e := (List.take_append_drop ns.length (fwRows lo hi [(0, 1)] true ns)).symm
      rw [List.drop_eq_getElem_cons h2] at e
      have e3 : (fwRows lo hi [(0, 1)] true ns)[ns.length] = r := (List.getElem?_eq_some_iff.mp hr).2
      rw [e3] at e
      have e4 : (fwRows lo hi [(0, 1)] true ns).drop (ns.length + 1) = [] := List.drop_eq_nil_of_le (by omega)
      rw [e4] at e
      exact e
    rw [this, List.map_append]
    exact idx_last _ _
  obtain ⟨x4, h1⟩ := backward_1 (some (pr lo hi)) (some (tupI ns)) (some (.lst ((fwRows lo hi [(0, 1)] true ns).map dctI))) (keys r) [] none none none none none none (by unfold keys; rw [List.length_map]; simp [LIM]; omega) (by simpa [keys] using hnd)
  have er : [] ++ (keys r).map (fun t => (t, (1 : Int))) = bwRow lo hi ns ns.length r := by
    unfold bwRow
    rw [List.drop_length, List.nil_append]
    rfl
  rw [er] at h1
  obtain ⟨fd', nx', y4, y6, y7, y8, y9, h2, h3⟩ := backward_4 lo hi ns h (some (dctI (bwRow lo hi ns ns.length r))) ns.length [] (bwRow lo hi ns ns.length r) x4 none none none none (Nat.le_refl _) (by rw [hr]; rfl) (by simp; omega)
  unfold S_backward
  rw [runD_eq (by rfl)]
  have e0 : (D.dct []) = dctI [] := rfl
  have eL : eArgs lenD (aCons (eVar 1) aNil) = eArgs lenD (aCons (eVar 1) aNil) := rfl
  have el : lenD [tupI ns] = .ok (.int (ns.length : Nat)) := by
    show Res.ok (D.int ((ns.map D.int).length : Nat)) = _
    rw [List.length_map]
  simp only [B_backward, List.map_cons, List.map_nil, List.length_cons, List.length_nil, show 10 - 2 = 8 from rfl, List.replicate, List.cons_append, List.nil_append, ev_seq, ev_set, ev_cst, ev_for, forI_ok, ev_args, ev_acons, ev_anil, ev_bin, ev_un, negD_int, subD_int, bind_ok, List.set_cons_succ, List.set_cons_zero, ev_varS, ev_var0, env_ok, thn_next, forward_eq lo hi ns h, e0, hlast, keys_kv, h1, lst1, el, rng3_eq (show ns.length < 1000000 by omega), h2, ev_ret, out_ok, res_ret]
  rw [h3]
  unfold bwRows
  rw [List.range_succ, List.map_append, List.map_append, List.map_map]
  congr 2
  congr 1
  · refine List.map_congr_left fun i h7 => ?_
    have : i < (fwRows lo hi [(0, 1)] true ns).length := by rw [List.mem_range] at h7; omega
    show _ = dctI (((fwRows lo hi [(0, 1)] true ns)[i]?.map (bwRow lo hi ns i)).getD [])
    rw [List.getElem?_eq_getElem this]
    rfl
  · rw [List.map_singleton, List.map_singleton, hr]
    rfl
theorem count_eq (lo hi : Int) (ns : List Int) (h : ns.length < 900) : S_count_readings [pr lo hi, tupI ns] = .ok (.int (cnt lo hi 0 true ns : Nat)) := by
  unfold S_count_readings
  rw [runD_eq (by rfl)]
  have e0 : idxD (.lst ((bwRows lo hi ns).map dctI)) (.int 0) = .ok (dctI (bwRow lo hi ns 0 [(0, 1)])) := idx_lst (i := 0) (by
    unfold bwRows
    rw [List.range_succ_eq_map, List.map_cons, List.map_cons, fwRows_zero]
    rfl)
  have e1 : idxD (dctI (bwRow lo hi ns 0 [(0, 1)])) (.int 0) = .ok (.int (cnt lo hi 0 true ns : Nat)) := idx_dct rfl
  simp only [B_count_readings, List.map_cons, List.map_nil, List.length_cons, List.length_nil, show 2 - 2 = 0 from rfl, List.replicate, List.append_nil, ev_ret, ev_bin, ev_args, ev_acons, ev_anil, ev_cst, bind_ok, ev_varS, ev_var0, backward_eq lo hi ns h, e0, e1, out_ok, res_ret]
end PL
set_option Elab.async false
set_option linter.all false
set_option maxRecDepth 100000
set_option maxHeartbeats 4000000
namespace PL
open PySem PySem.Spec PyProof.Rows L2
structure Pl {α : Type} (f : α → D) (P : α → Prop) (d : Nat) : Prop where
  ok : ∀ a, P a → okD (f a) = true
  dp : ∀ a, P a → dep (f a) ≤ d
  eq : ∀ a b, P a → P b → (eqv (f a) (f b) = true ↔ a = b)
section
variable {α : Type} {f : α → D} {P : α → Prop} {d : Nat}
theorem Pl.shp (h : Pl f P d) (hd : d ≤ 64) {a : α} (ha : P a) : shp (f a) = true := by
  unfold PL.shp
  rw [h.ok a ha]
  simp
  exact Nat.le_trans (h.dp a ha) hd
theorem Pl.eqD [DecidableEq α] (h : Pl f P d) (hd : d ≤ 64) {a b : α} (ha : P a) (hb : P b) : PL.eqD (f a) (f b) = .ok (decide (a = b)) := by
  unfold PL.eqD
  rw [if_pos ⟨h.shp hd ha, h.shp hd hb⟩]
  congr 1
  exact Bool.eq_iff_iff.mpr ((h.eq a b ha hb).trans decide_eq_true_iff.symm)
theorem Pl.neD [DecidableEq α] (h : Pl f P d) (hd : d ≤ 64) {a b : α} (ha : P a) (hb : P b) : PL.neD (f a) (f b) = .ok (!decide (a = b)) := by
  unfold PL.neD
  rw [if_pos ⟨h.shp hd ha, h.shp hd hb⟩]
  congr 2
  exact Bool.eq_iff_iff.mpr ((h.eq a b ha hb).trans decide_eq_true_iff.symm)
theorem Pl.okDs (h : Pl f P d) : ∀ xs : List α, (∀ x ∈ xs, P x) → okDs (xs.map f) = true
  | [], _ => rfl
  | x :: xs, hx => by
    show (okD (f x) && PL.okDs (xs.map f)) = true
    rw [h.ok x (hx x (List.mem_cons_self ..)), h.okDs xs fun y hy => hx y (List.mem_cons_of_mem _ hy)]
    rfl
theorem Pl.depA (h : Pl f P d) : ∀ xs : List α, (∀ x ∈ xs, P x) → depA (xs.map f) ≤ d
  | [], _ => Nat.zero_le _
  | x :: xs, hx => by
    show max (dep (f x)) (PL.depA (xs.map f)) ≤ d
    exact Nat.max_le.mpr ⟨h.dp x (hx x (List.mem_cons_self ..)), h.depA xs fun y hy => hx y (List.mem_cons_of_mem _ hy)⟩
theorem Pl.eqvA (h : Pl f P d) : ∀ xs ys : List α, (∀ x ∈ xs, P x) → (∀ x ∈ ys, P x) → (eqvA (xs.map f) (ys.map f) = true ↔ xs = ys)
  | [], [], _, _ => by simp [PL.eqvA]
  | [], y :: ys, _, _ => by simp [PL.eqvA]
  | x :: xs, [], _, _ => by simp [PL.eqvA]
  | x :: xs, y :: ys, hx, hy => by
    show (eqv (f x) (f y) && PL.eqvA (xs.map f) (ys.map f)) = true ↔ _
    rw [Bool.and_eq_true, h.eq x y (hx x (List.mem_cons_self ..)) (hy y (List.mem_cons_self ..)), h.eqvA xs ys (fun z hz => hx z (List.mem_cons_of_mem _ hz)) (fun z hz => hy z (List.mem_cons_of_mem _ hz))]
    simp
theorem Pl.lst (h : Pl f P d) : Pl (fun xs : List α => D.lst (xs.map f)) (fun xs => ∀ x ∈ xs, P x) (d + 1) where
  ok := fun xs hx => h.okDs xs hx
  dp := fun xs hx => Nat.succ_le_succ (h.depA xs hx)
  eq := fun xs ys hx hy => h.eqvA xs ys hx hy
theorem Pl.tup (h : Pl f P d) : Pl (fun xs : List α => D.tup (xs.map f)) (fun xs => ∀ x ∈ xs, P x) (d + 1) where
  ok := fun xs hx => h.okDs xs hx
  dp := fun xs hx => Nat.succ_le_succ (h.depA xs hx)
  eq := fun xs ys hx hy => h.eqvA xs ys hx hy
end
theorem plI : Pl D.int (fun _ => True) 0 := ⟨fun _ _ => rfl, fun _ _ => Nat.le_refl _, fun a b _ _ => by
  show (a == b) = true ↔ a = b
  exact beq_iff_eq⟩
def okS (s : List Nat) : Prop := ∀ c ∈ s, c < 0x110000
theorem plS : Pl D.str okS 0 := ⟨fun a h => by
  show a.all (· < 0x110000) = true
  exact List.all_eq_true.mpr fun c hc => decide_eq_true (h c hc), fun _ _ => Nat.le_refl _, fun a b _ _ => by
  show (a == b) = true ↔ a = b
  exact beq_iff_eq⟩
theorem plP : Pl pairD (fun _ => True) 1 := ⟨fun _ _ => rfl, fun _ _ => Nat.le_refl _, fun a b _ _ => by
  show ((a.1 == b.1) && ((a.2 == b.2) && true)) = true ↔ a = b
  rw [Bool.and_true, Bool.and_eq_true, beq_iff_eq, beq_iff_eq]
  exact ⟨fun h => Prod.ext h.1 h.2, fun h => by rw [h]; exact ⟨rfl, rfl⟩⟩⟩
abbrev lstI (ns : List Int) : D := .lst (ns.map D.int)
abbrev lstS (ss : List (List Nat)) : D := .lst (ss.map D.str)
abbrev lstP (ps : List (Int × Int)) : D := .lst (ps.map pairD)
theorem eq_lstI (a b : List Int) : eqD (lstI a) (lstI b) = .ok (decide (a = b)) := plI.lst.eqD (by decide) (fun _ _ => trivial) fun _ _ => trivial
theorem ne_lstI (a b : List Int) : neD (lstI a) (lstI b) = .ok (!decide (a = b)) := plI.lst.neD (by decide) (fun _ _ => trivial) fun _ _ => trivial
theorem eq_tupI (a b : List Int) : eqD (tupI a) (tupI b) = .ok (decide (a = b)) := plI.tup.eqD (by decide) (fun _ _ => trivial) fun _ _ => trivial
theorem ne_tupI (a b : List Int) : neD (tupI a) (tupI b) = .ok (!decide (a = b)) := plI.tup.neD (by decide) (fun _ _ => trivial) fun _ _ => trivial
theorem eq_lstP (a b : List (Int × Int)) : eqD (lstP a) (lstP b) = .ok (decide (a = b)) := plP.lst.eqD (by decide) (fun _ _ => trivial) fun _ _ => trivial
theorem ne_lstP (a b : List (Int × Int)) : neD (lstP a) (lstP b) = .ok (!decide (a = b)) := plP.lst.neD (by decide) (fun _ _ => trivial) fun _ _ => trivial
theorem eq_str {a b : List Nat} (ha : okS a) (hb : okS b) : eqD (.str a) (.str b) = .ok (decide (a = b)) := plS.eqD (by decide) ha hb
theorem ne_str {a b : List Nat} (ha : okS a) (hb : okS b) : neD (.str a) (.str b) = .ok (!decide (a = b)) := plS.neD (by decide) ha hb
theorem eq_lstS {a b : List (List Nat)} (ha : ∀ s ∈ a, okS s) (hb : ∀ s ∈ b, okS s) : eqD (lstS a) (lstS b) = .ok (decide (a = b)) := plS.lst.eqD (by decide) ha hb
theorem ne_lstS {a b : List (List Nat)} (ha : ∀ s ∈ a, okS s) (hb : ∀ s ∈ b, okS s) : neD (lstS a) (lstS b) = .ok (!decide (a = b)) := plS.lst.neD (by decide) ha hb
theorem ne_nil {α : Type} {f : α → D} {P : α → Prop} {d : Nat} [DecidableEq α] (h : Pl f P d) (hd : d + 1 ≤ 64) {xs : List α} (hx : ∀ x ∈ xs, P x) : neD (.lst (xs.map f)) (.lst []) = .ok (!decide (xs = [])) := h.lst.neD (a := xs) (b := []) hd hx fun _ h => by simp at h
theorem eq_nil {α : Type} {f : α → D} {P : α → Prop} {d : Nat} [DecidableEq α] (h : Pl f P d) (hd : d + 1 ≤ 64) {xs : List α} (hx : ∀ x ∈ xs, P x) : eqD (.lst (xs.map f)) (.lst []) = .ok (decide (xs = [])) := h.lst.eqD (a := xs) (b := []) hd hx fun _ h => by simp at h
theorem eq_tupnil {α : Type} {f : α → D} {P : α → Prop} {d : Nat} [DecidableEq α] (h : Pl f P d) (hd : d + 1 ≤ 64) {xs : List α} (hx : ∀ x ∈ xs, P x) : eqD (.tup (xs.map f)) (.tup []) = .ok (decide (xs = [])) := h.tup.eqD (a := xs) (b := []) hd hx fun _ h => by simp at h
theorem ne_tupnil {α : Type} {f : α → D} {P : α → Prop} {d : Nat} [DecidableEq α] (h : Pl f P d) (hd : d + 1 ≤ 64) {xs : List α} (hx : ∀ x ∈ xs, P x) : neD (.tup (xs.map f)) (.tup []) = .ok (!decide (xs = [])) := h.tup.neD (a := xs) (b := []) hd hx fun _ h => by simp at h
theorem mul_l {i : Int} (h : 0 ≤ i) (h2 : i < 4000000000) (j : Int) : mulD (.int i) (.int j) = .ok (.int (i * j)) := by
  show (if (small64 i || small64 j) = true then _ else _) = _
  have : small64 i = true := by
    exact decide_eq_true (by omega)
  rw [this]
  rfl
theorem mul_r {j : Int} (h : 0 ≤ j) (h2 : j < 4000000000) (i : Int) : mulD (.int i) (.int j) = .ok (.int (i * j)) := by
  show (if (small64 i || small64 j) = true then _ else _) = _
  have : small64 j = true := by
    exact decide_eq_true (by omega)
  rw [this, Bool.or_true]
  rfl
theorem mod_ok {j : Int} (h : 0 < j) (i : Int) : modD (.int i) (.int j) = .ok (.int (i % j)) := if_pos h
theorem div_ok {j : Int} (h : 0 < j) (h2 : j < 1000000000) (i : Int) : divD (.int i) (.int j) = .ok (.int (i / j)) := if_pos ⟨h, by omega⟩
theorem idx_scr {ns : List Int} {i : Nat} (h : i < ns.length) : idxD (.scr ns) (.int i) = .ok (.int ns[i]) := by
  show (match ixN ns.length (i : Int) with | some j => (match ns[j]? with | some n => Res.ok (D.int n) | none => .bad) | none => .bad) = _
  rw [ixN_nat h]
  dsimp only
  rw [List.getElem?_eq_getElem h]
theorem len_scr (ns : List Int) : lenD [.scr ns] = .ok (.int (ns.length : Nat)) := rfl
theorem len_lst (ds : List D) : lenD [.lst ds] = .ok (.int (ds.length : Nat)) := rfl
theorem len_tup (ds : List D) : lenD [.tup ds] = .ok (.int (ds.length : Nat)) := rfl
theorem cell_ok (ns : List Int) (i : Nat) : ∃ c, S__law_cell [.scr ns, .int i] = .ok (.int c) := by
  rw [R__law_cell]
  simp only [B__law_cell, ev_seq, ev_nil, ev_set, ev_ret, ev_if, ev_for, forI_ok, ev_varS, ev_var0, ev_cst, ev_un, ev_bin, ev_eif, ev_tst, blD_bl, ev_tval, ev_cmp, ev_chn, ev_tnot, ev_tand, ev_tor, ev_anil, ev_acons, ev_args, ev_eand, ev_eor, notD_bl, addD_int, subD_int, negD_int, ltD_int, leD_int, gtD_int, geD_int, eqD_int, neD_int, ev_app, lstOf_lst, dctOf_dct, ev_par2, noX_ok, ev_unp, gtN_eq, gtT2, tup2, tup1, tup0, lst0, lst1, idx_pair0, idx_pair1, thn_next, thn_ret, thn_exc, thn_bad, res_next, res_ret, cnd_ok, env_ok, out_ok, bind_ok, forB_ok, setAll_cons, setAll_nil, List.set_cons_succ, List.set_cons_zero, ev_dset, ev_daug, ev_get2, getOr_int, dctOf_I, ev_comp, wipeE_cons, wipeE_nil, ev_slice, ev_onone, ev_osome, intOf_int, ev_ttrue, ev_count, strOf_str, cntS_ch, revD_tup, len_scr, decide_eq_true_eq]
  by_cases h : (i : Int) < (ns.length : Nat)
  · have h' : i < ns.length := by omega
    rw [if_pos h, idx_scr h']
    exact ⟨_, rfl⟩
  · rw [if_neg h]
    by_cases h0 : ((ns.length : Nat) : Int) = 0
    · simp only [if_pos h0, ev_seq, ev_nil, ev_set, ev_ret, ev_if, ev_for, forI_ok, ev_varS, ev_var0, ev_cst, ev_un, ev_bin, ev_eif, ev_tst, blD_bl, ev_tval, ev_cmp, ev_chn, ev_tnot, ev_tand, ev_tor, ev_anil, ev_acons, ev_args, ev_eand, ev_eor, notD_bl, addD_int, subD_int, negD_int, ltD_int, leD_int, gtD_int, geD_int, eqD_int, neD_int, ev_app, lstOf_lst, dctOf_dct, ev_par2, noX_ok, ev_unp, gtN_eq, gtT2, tup2, tup1, tup0, lst0, lst1, idx_pair0, idx_pair1, thn_next, thn_ret, thn_exc, thn_bad, res_next, res_ret, cnd_ok, env_ok, out_ok, bind_ok, forB_ok, setAll_cons, setAll_nil, List.set_cons_succ, List.set_cons_zero, ev_dset, ev_daug, ev_get2, getOr_int, dctOf_I, ev_comp, wipeE_cons, wipeE_nil, ev_slice, ev_onone, ev_osome, intOf_int, ev_ttrue, ev_count, strOf_str, cntS_ch, revD_tup, len_scr, decide_eq_true_eq, mul_l (show (0 : Int) ≤ 7919 by decide) (by decide)]
      exact ⟨_, rfl⟩
    · have hp : (0 : Int) < (ns.length : Nat) := by omega
      have e : (i : Int) % (ns.length : Nat) = ((i % ns.length : Nat) : Int) := rfl
      simp only [if_neg h0, ev_seq, ev_nil, ev_set, ev_ret, ev_if, ev_for, forI_ok, ev_varS, ev_var0, ev_cst, ev_un, ev_bin, ev_eif, ev_tst, blD_bl, ev_tval, ev_cmp, ev_chn, ev_tnot, ev_tand, ev_tor, ev_anil, ev_acons, ev_args, ev_eand, ev_eor, notD_bl, addD_int, subD_int, negD_int, ltD_int, leD_int, gtD_int, geD_int, eqD_int, neD_int, ev_app, lstOf_lst, dctOf_dct, ev_par2, noX_ok, ev_unp, gtN_eq, gtT2, tup2, tup1, tup0, lst0, lst1, idx_pair0, idx_pair1, thn_next, thn_ret, thn_exc, thn_bad, res_next, res_ret, cnd_ok, env_ok, out_ok, bind_ok, forB_ok, setAll_cons, setAll_nil, List.set_cons_succ, List.set_cons_zero, ev_dset, ev_daug, ev_get2, getOr_int, dctOf_I, ev_comp, wipeE_cons, wipeE_nil, ev_slice, ev_onone, ev_osome, intOf_int, ev_ttrue, ev_count, strOf_str, cntS_ch, revD_tup, len_scr, decide_eq_true_eq, mod_ok hp, e, idx_scr (Nat.mod_lt i (show ns.length > 0 by omega)), mod_ok (show (0 : Int) < 1000003 by decide), mul_l (show (0 : Int) ≤ 7919 by decide) (by decide)]
      exact ⟨_, rfl⟩
theorem app_map {α : Type} {f : α → D} {ds : List α} {x : α} (h : ds.length < LIM) : (if (List.map f ds).length < LIM then Res.ok (D.lst (List.map f ds ++ [f x])) else .bad) = .ok (.lst (List.map f (ds ++ [x]))) := by
  rw [List.length_map, if_pos h, List.map_append]
  rfl
theorem prime_ok (j : Int) (h : 0 ≤ j) (h2 : j < 8) : ∃ q : Int, idxD (.tup [.int 2147483647, .int 2147483629, .int 2147483587, .int 2147483579, .int 2147483563, .int 2147483549, .int 2147483543, .int 2147483497]) (.int j) = .ok (.int q) ∧ 0 < q ∧ q < 4000000000 := by
  have : j = 0 ∨ j = 1 ∨ j = 2 ∨ j = 3 ∨ j = 4 ∨ j = 5 ∨ j = 6 ∨ j = 7 := by omega
  rcases this with e | e | e | e | e | e | e | e <;> subst e <;> exact ⟨_, rfl, by decide, by decide⟩
def inR (b : Int) (ds : List Int) : Prop := ∀ d ∈ ds, 0 ≤ d ∧ d < b
abbrev primesD : D := .tup [.int 2147483647, .int 2147483629, .int 2147483587, .int 2147483579, .int 2147483563, .int 2147483549, .int 2147483543, .int 2147483497]
theorem digits_0 (sc ct : Option D) (i k : Nat) (hi : i < 1000000) (hk : k < 1000000) (b : Int) (hb : 0 < b) (hb2 : b < 1000000000) (cell rest : Int) (ds : List Int) (g8 g9 : Option D) (hl : ds.length < 1000000) :
    ∃ y : Int, B__law_digits_1 [sc, some (.int i), ct, some (.int b), some primesD, some (.int cell), some (.int rest), some (lstI ds), some (.int (k : Nat)), g9] =
      .next [sc, some (.int i), ct, some (.int b), some primesD, some (.int cell), some (.int (rest / b)), some (lstI (ds ++ [y % b])), some (.int (k : Nat)), some (.int y)] := by
  obtain ⟨q1, e1, p1, p1'⟩ := prime_ok ((k : Int) % 8) (by omega) (by omega)
  obtain ⟨q2, e2, p2, p2'⟩ := prime_ok ((3 * (k : Int) + i) % 8) (by omega) (by omega)
  obtain ⟨q3, e3, p3, p3'⟩ := prime_ok (((k : Int) + 5) % 8) (by omega) (by omega)
  have m1 := Int.emod_nonneg cell (Int.ne_of_gt p1)
  have m1' := Int.emod_lt_of_pos cell p1
  generalize hx : (cell % q1 * (48271 + 2 * (k : Int) * k) + 7919 * ((k : Int) + 1) * ((k : Int) + 1) + 104729 * (i : Int)) % q2 = x
  have m2 : 0 ≤ x := by rw [← hx]; exact Int.emod_nonneg _ (Int.ne_of_gt p2)
  have m2' : x < q2 := by rw [← hx]; exact Int.emod_lt_of_pos _ p2
  have c2 := mul_l (show (0 : Int) ≤ 2 by decide) (by decide) (k : Int)
  have c3 := mul_r (j := (k : Int)) (by omega) (by omega) (2 * (k : Int))
  have c4 := mul_l m1 (by omega) (48271 + 2 * (k : Int) * k)
  have c5 := mul_l (show (0 : Int) ≤ 7919 by decide) (by decide) ((k : Int) + 1)
  have c6 := mul_r (j := (k : Int) + 1) (by omega) (by omega) (7919 * ((k : Int) + 1))
  have c7 := mul_l (show (0 : Int) ≤ 104729 by decide) (by decide) (i : Int)
  have c8 := mul_l (show (0 : Int) ≤ 3 by decide) (by decide) (k : Int)
  have c9 := mul_l m2 (by omega) x
  have c10 := mul_r m2 (by omega) (x * x)
  by_cases hr : 0 < rest
  · refine ⟨rest, ?_⟩
    simp only [B__law_digits_1, ev_seq, ev_nil, ev_set, ev_ret, ev_if, ev_for, forI_ok, ev_varS, ev_var0, ev_cst, ev_un, ev_bin, ev_eif, ev_tst, blD_bl, ev_tval, ev_cmp, ev_chn, ev_tnot, ev_tand, ev_tor, ev_anil, ev_acons, ev_args, ev_eand, ev_eor, notD_bl, addD_int, subD_int, negD_int, ltD_int, leD_int, gtD_int, geD_int, eqD_int, neD_int, ev_app, lstOf_lst, dctOf_dct, ev_par2, noX_ok, ev_unp, gtN_eq, gtT2, tup2, tup1, tup0, lst0, lst1, idx_pair0, idx_pair1, thn_next, thn_ret, thn_exc, thn_bad, res_next, res_ret, cnd_ok, env_ok, out_ok, bind_ok, forB_ok, setAll_cons, setAll_nil, List.set_cons_succ, List.set_cons_zero, ev_dset, ev_daug, ev_get2, getOr_int, dctOf_I, ev_comp, wipeE_cons, wipeE_nil, ev_slice, ev_onone, ev_osome, intOf_int, ev_ttrue, ev_count, strOf_str, cntS_ch, revD_tup, mod_ok (show (0 : Int) < 8 by decide), e1, e2, e3, mod_ok p1, mod_ok p2, mod_ok p3, mod_ok hb, c2, c3, c4, c5, c6, c7, c8, c9, c10, hx, decide_eq_true_eq, if_pos hr, div_ok hb hb2]
    rw [app_map (by unfold LIM; omega)]
    simp only [ev_seq, ev_nil, ev_set, ev_ret, ev_if, ev_for, forI_ok, ev_varS, ev_var0, ev_cst, ev_un, ev_bin, ev_eif, ev_tst, blD_bl, ev_tval, ev_cmp, ev_chn, ev_tnot, ev_tand, ev_tor, ev_anil, ev_acons, ev_args, ev_eand, ev_eor, notD_bl, addD_int, subD_int, negD_int, ltD_int, leD_int, gtD_int, geD_int, eqD_int, neD_int, ev_app, lstOf_lst, dctOf_dct, ev_par2, noX_ok, ev_unp, gtN_eq, gtT2, tup2, tup1, tup0, lst0, lst1, idx_pair0, idx_pair1, thn_next, thn_ret, thn_exc, thn_bad, res_next, res_ret, cnd_ok, env_ok, out_ok, bind_ok, forB_ok, setAll_cons, setAll_nil, List.set_cons_succ, List.set_cons_zero, ev_dset, ev_daug, ev_get2, getOr_int, dctOf_I, ev_comp, wipeE_cons, wipeE_nil, ev_slice, ev_onone, ev_osome, intOf_int, ev_ttrue, ev_count, strOf_str, cntS_ch, revD_tup, div_ok hb hb2]
  · refine ⟨x * x * x % q3, ?_⟩
    simp only [B__law_digits_1, ev_seq, ev_nil, ev_set, ev_ret, ev_if, ev_for, forI_ok, ev_varS, ev_var0, ev_cst, ev_un, ev_bin, ev_eif, ev_tst, blD_bl, ev_tval, ev_cmp, ev_chn, ev_tnot, ev_tand, ev_tor, ev_anil, ev_acons, ev_args, ev_eand, ev_eor, notD_bl, addD_int, subD_int, negD_int, ltD_int, leD_int, gtD_int, geD_int, eqD_int, neD_int, ev_app, lstOf_lst, dctOf_dct, ev_par2, noX_ok, ev_unp, gtN_eq, gtT2, tup2, tup1, tup0, lst0, lst1, idx_pair0, idx_pair1, thn_next, thn_ret, thn_exc, thn_bad, res_next, res_ret, cnd_ok, env_ok, out_ok, bind_ok, forB_ok, setAll_cons, setAll_nil, List.set_cons_succ, List.set_cons_zero, ev_dset, ev_daug, ev_get2, getOr_int, dctOf_I, ev_comp, wipeE_cons, wipeE_nil, ev_slice, ev_onone, ev_osome, intOf_int, ev_ttrue, ev_count, strOf_str, cntS_ch, revD_tup, mod_ok (show (0 : Int) < 8 by decide), e1, e2, e3, mod_ok p1, mod_ok p2, mod_ok p3, mod_ok hb, c2, c3, c4, c5, c6, c7, c8, c9, c10, hx, decide_eq_true_eq, if_neg hr, div_ok hb hb2]
    rw [app_map (by unfold LIM; omega)]
    simp only [ev_seq, ev_nil, ev_set, ev_ret, ev_if, ev_for, forI_ok, ev_varS, ev_var0, ev_cst, ev_un, ev_bin, ev_eif, ev_tst, blD_bl, ev_tval, ev_cmp, ev_chn, ev_tnot, ev_tand, ev_tor, ev_anil, ev_acons, ev_args, ev_eand, ev_eor, notD_bl, addD_int, subD_int, negD_int, ltD_int, leD_int, gtD_int, geD_int, eqD_int, neD_int, ev_app, lstOf_lst, dctOf_dct, ev_par2, noX_ok, ev_unp, gtN_eq, gtT2, tup2, tup1, tup0, lst0, lst1, idx_pair0, idx_pair1, thn_next, thn_ret, thn_exc, thn_bad, res_next, res_ret, cnd_ok, env_ok, out_ok, bind_ok, forB_ok, setAll_cons, setAll_nil, List.set_cons_succ, List.set_cons_zero, ev_dset, ev_daug, ev_get2, getOr_int, dctOf_I, ev_comp, wipeE_cons, wipeE_nil, ev_slice, ev_onone, ev_osome, intOf_int, ev_ttrue, ev_count, strOf_str, cntS_ch, revD_tup, div_ok hb hb2]
theorem digits_1 (sc ct : Option D) (i : Nat) (hi : i < 1000000) (b : Int) (hb : 0 < b) (hb2 : b < 1000000000) (cell : Int) : ∀ (ks : List Nat) (rest : Int) (ds : List Int) (g8 g9 : Option D), (∀ k ∈ ks, k < 1000000) → ds.length + ks.length < 1000000 → inR b ds →
    ∃ rest' ds' g8' g9', forL (gtN 8) B__law_digits_1 (ks.map fun k => .int (k : Nat)) [sc, some (.int i), ct, some (.int b), some primesD, some (.int cell), some (.int rest), some (lstI ds), g8, g9] =
      .next [sc, some (.int i), ct, some (.int b), some primesD, some (.int cell), some (.int rest'), some (lstI ds'), g8', g9'] ∧ ds'.length = ds.length + ks.length ∧ inR b ds' := by
  intro ks
  induction ks with
  | nil => exact fun rest ds g8 g9 hk hl hd => ⟨rest, ds, g8, g9, rfl, rfl, hd⟩
  | cons k ks ih =>
    intro rest ds g8 g9 hk hl hd
    rw [List.length_cons] at hl
    obtain ⟨y, h0⟩ := digits_0 sc ct i k hi (hk k (List.mem_cons_self ..)) b hb hb2 cell rest ds g8 g9 (by omega)
    have hd2 : inR b (ds ++ [y % b]) := fun d h => by
      rcases List.mem_append.mp h with h | h
      · exact hd d h
      · rw [List.mem_singleton.mp h]
        exact ⟨Int.emod_nonneg _ (Int.ne_of_gt hb), Int.emod_lt_of_pos _ hb⟩
    obtain ⟨r', ds', y8, y9, h1, h2, h3⟩ := ih (rest / b) (ds ++ [y % b]) (some (.int (k : Nat))) (some (.int y)) (fun z hz => hk z (List.mem_cons_of_mem _ hz)) (by rw [List.length_append, List.length_singleton]; omega) hd2
    refine ⟨r', ds', y8, y9, ?_, ?_, h3⟩
    · rw [List.map_cons, forL_step (gtN_eq ..) h0]
      exact h1
    · rw [h2, List.length_append, List.length_singleton, List.length_cons]
      omega
theorem digits_ok (ns : List Int) (i c : Nat) (hi : i < 1000000) (hc : c < 100000) (b : Int) (hb : 0 < b) (hb2 : b < 1000000000) : ∃ ds, S__law_digits [.scr ns, .int i, .int c, .int b] = .ok (lstI ds) ∧ ds.length = c ∧ inR b ds := by
  obtain ⟨cell, hcell⟩ := cell_ok ns i
  rw [R__law_digits]
  have e0 : powD (.int 10) (.int 18) = .ok (.int 1000000000000000000) := by rfl
  have e1 : ∀ x, tupD [.int 2147483647, .int 2147483629, .int 2147483587, .int 2147483579, .int 2147483563, .int 2147483549, .int 2147483543, x] = .ok (.tup [.int 2147483647, .int 2147483629, .int 2147483587, .int 2147483579, .int 2147483563, .int 2147483549, .int 2147483543, x]) := fun _ => rfl
  have e3 : D.lst [] = lstI [] := rfl
  have main : ∀ rest : Int, ∃ rest' ds' g8' g9', forL (gtN 8) B__law_digits_1 ((List.range c).map fun k => .int (k : Nat)) [some (.scr ns), some (.int i), some (.int c), some (.int b), some primesD, some (.int cell), some (.int rest), some (lstI []), none, none] =
      .next [some (.scr ns), some (.int i), some (.int c), some (.int b), some primesD, some (.int cell), some (.int rest'), some (lstI ds'), g8', g9'] ∧ ds'.length = c ∧ inR b ds' := fun rest => by
    obtain ⟨rest', ds', y8, y9, h1, h2, h3⟩ := digits_1 (some (.scr ns)) (some (.int c)) i hi b hb hb2 cell (List.range c) rest [] none none (fun k hk => by rw [List.mem_range] at hk; omega) (by simp; omega) (fun d h => by simp at h)
    exact ⟨rest', ds', y8, y9, h1, by rw [h2]; simp, h3⟩
  by_cases h : 1000000000000000000 ≤ cell
  · obtain ⟨rest', ds', y8, y9, h1, h2, h3⟩ := main cell
    refine ⟨ds', ?_, h2, h3⟩
    simp only [B__law_digits, ev_seq, ev_nil, ev_set, ev_ret, ev_if, ev_for, forI_ok, ev_varS, ev_var0, ev_cst, ev_un, ev_bin, ev_eif, ev_tst, blD_bl, ev_tval, ev_cmp, ev_chn, ev_tnot, ev_tand, ev_tor, ev_anil, ev_acons, ev_args, ev_eand, ev_eor, notD_bl, addD_int, subD_int, negD_int, ltD_int, leD_int, gtD_int, geD_int, eqD_int, neD_int, ev_app, lstOf_lst, dctOf_dct, ev_par2, noX_ok, ev_unp, gtN_eq, gtT2, tup2, tup1, tup0, lst0, lst1, idx_pair0, idx_pair1, thn_next, thn_ret, thn_exc, thn_bad, res_next, res_ret, cnd_ok, env_ok, out_ok, bind_ok, forB_ok, setAll_cons, setAll_nil, List.set_cons_succ, List.set_cons_zero, ev_dset, ev_daug, ev_get2, getOr_int, dctOf_I, ev_comp, wipeE_cons, wipeE_nil, ev_slice, ev_onone, ev_osome, intOf_int, ev_ttrue, ev_count, strOf_str, cntS_ch, revD_tup, hcell, e0, e1, decide_eq_true h, if_true, e3, rng1_eq (show c < 1000000000 by omega), h1]
  · obtain ⟨rest', ds', y8, y9, h1, h2, h3⟩ := main 0
    refine ⟨ds', ?_, h2, h3⟩
    simp only [B__law_digits, ev_seq, ev_nil, ev_set, ev_ret, ev_if, ev_for, forI_ok, ev_varS, ev_var0, ev_cst, ev_un, ev_bin, ev_eif, ev_tst, blD_bl, ev_tval, ev_cmp, ev_chn, ev_tnot, ev_tand, ev_tor, ev_anil, ev_acons, ev_args, ev_eand, ev_eor, notD_bl, addD_int, subD_int, negD_int, ltD_int, leD_int, gtD_int, geD_int, eqD_int, neD_int, ev_app, lstOf_lst, dctOf_dct, ev_par2, noX_ok, ev_unp, gtN_eq, gtT2, tup2, tup1, tup0, lst0, lst1, idx_pair0, idx_pair1, thn_next, thn_ret, thn_exc, thn_bad, res_next, res_ret, cnd_ok, env_ok, out_ok, bind_ok, forB_ok, setAll_cons, setAll_nil, List.set_cons_succ, List.set_cons_zero, ev_dset, ev_daug, ev_get2, getOr_int, dctOf_I, ev_comp, wipeE_cons, wipeE_nil, ev_slice, ev_onone, ev_osome, intOf_int, ev_ttrue, ev_count, strOf_str, cntS_ch, revD_tup, hcell, e0, e1, decide_eq_false h, Bool.false_eq_true, if_false, e3, rng1_eq (show c < 1000000000 by omega), h1]
end PL
set_option Elab.async false
set_option linter.all false
set_option maxRecDepth 100000
set_option maxHeartbeats 4000000
namespace PL
open PySem PySem.Spec PyProof.Rows L2
def dg (ds : List Int) (k : Nat) : Int := ds.getD k 0
theorem dg_get {ds : List Int} {k : Nat} (h : k < ds.length) : ds[k]? = some (dg ds k) := by
  unfold dg
  rw [List.getD_eq_getElem?_getD, List.getElem?_eq_getElem h]
  rfl
theorem dg_in {b : Int} (hb : 0 < b) {ds : List Int} (h : inR b ds) (k : Nat) : 0 ≤ dg ds k ∧ dg ds k < b := by
  unfold dg
  rw [List.getD_eq_getElem?_getD]
  cases e : ds[k]? with
  | none => exact ⟨Int.le_refl 0, hb⟩
  | some d => exact h d (List.mem_of_getElem? e)
theorem idx_dg {ds : List Int} {k : Nat} (h : k < ds.length) : idxD (lstI ds) (.int (k : Nat)) = .ok (.int (dg ds k)) := idx_lst (by rw [List.getElem?_map, dg_get h]; rfl)
theorem idx_dgm {ds : List Int} (k : Nat) (h : 0 < ds.length) : idxD (lstI ds) (.int ((k : Int) % (ds.length : Nat))) = .ok (.int (dg ds (k % ds.length))) := by
  have e : (k : Int) % (ds.length : Nat) = ((k % ds.length : Nat) : Int) := rfl
  rw [e]
  exact idx_dg (Nat.mod_lt _ h)
theorem len_lstI (ds : List Int) : lenD [lstI ds] = .ok (.int (ds.length : Nat)) := by
  rw [len_lst, List.length_map]
theorem len_tupI (ds : List Int) : lenD [tupI ds] = .ok (.int (ds.length : Nat)) := by
  rw [len_tup, List.length_map]
theorem bounds_ok {ds : List Int} (h : 4 ≤ ds.length) {b : Int} (hb : 0 < b) (hd : inR b ds) : ∃ lo hi, S__law_bounds [lstI ds] = .ok (pr lo hi) ∧ 1 ≤ lo ∧ lo ≤ 60 ∧ lo ≤ hi ∧ hi < lo + 400 := by
  rw [R__law_bounds]
  have i0 : idxD (lstI ds) (.int 0) = .ok (.int (dg ds 0)) := idx_dg (k := 0) (by omega)
  have i1 : idxD (lstI ds) (.int 1) = .ok (.int (dg ds 1)) := idx_dg (k := 1) (by omega)
  have i2 : idxD (lstI ds) (.int 2) = .ok (.int (dg ds 2)) := idx_dg (k := 2) (by omega)
  have i3 : idxD (lstI ds) (.int 3) = .ok (.int (dg ds 3)) := idx_dg (k := 3) (by omega)
  have d0 := dg_in hb hd 0
  have d1 := dg_in hb hd 1
  have d2 := dg_in hb hd 2
  have d3 := dg_in hb hd 3
  have l2 : ∀ x y, lstD [x, y] = .ok (.lst [x, y]) := fun _ _ => rfl
  have l3 : ∀ x y z, lstD [x, y, z] = .ok (.lst [x, y, z]) := fun _ _ _ => rfl
  obtain ⟨q, hq, q1, q2⟩ : ∃ q : Int, idxD (.lst [.int 6, .int 60]) (.int (dg ds 1 % 2)) = .ok (.int q) ∧ 0 < q ∧ q ≤ 60 := by
    have : dg ds 1 % 2 = 0 ∨ dg ds 1 % 2 = 1 := by omega
    rcases this with e | e <;> rw [e] <;> exact ⟨_, rfl, by decide, by decide⟩
  obtain ⟨r, hr, r1, r2⟩ : ∃ q : Int, idxD (.lst [.int 3, .int 40, .int 400]) (.int (dg ds 3 % 3)) = .ok (.int q) ∧ 0 < q ∧ q ≤ 400 := by
    have : dg ds 3 % 3 = 0 ∨ dg ds 3 % 3 = 1 ∨ dg ds 3 % 3 = 2 := by omega
    rcases this with e | e | e <;> rw [e] <;> exact ⟨_, rfl, by decide, by decide⟩
  refine ⟨1 + dg ds 0 % q, 1 + dg ds 0 % q + dg ds 2 % r, ?_, ?_, ?_, ?_, ?_⟩
  · simp only [B__law_bounds, ev_seq, ev_nil, ev_set, ev_ret, ev_if, ev_for, forI_ok, ev_varS, ev_var0, ev_cst, ev_un, ev_bin, ev_eif, ev_tst, blD_bl, ev_tval, ev_cmp, ev_chn, ev_tnot, ev_tand, ev_tor, ev_anil, ev_acons, ev_args, ev_eand, ev_eor, notD_bl, addD_int, subD_int, negD_int, ltD_int, leD_int, gtD_int, geD_int, eqD_int, neD_int, ev_app, lstOf_lst, dctOf_dct, ev_par2, noX_ok, ev_unp, gtN_eq, gtT2, tup2, tup1, tup0, lst0, lst1, idx_pair0, idx_pair1, thn_next, thn_ret, thn_exc, thn_bad, res_next, res_ret, cnd_ok, env_ok, out_ok, bind_ok, forB_ok, setAll_cons, setAll_nil, List.set_cons_succ, List.set_cons_zero, ev_dset, ev_daug, ev_get2, getOr_int, dctOf_I, ev_comp, wipeE_cons, wipeE_nil, ev_slice, ev_onone, ev_osome, intOf_int, ev_ttrue, ev_count, strOf_str, cntS_ch, revD_tup, i0, i1, i2, i3, l2, l3, mod_ok (show (0 : Int) < 2 by decide), mod_ok (show (0 : Int) < 3 by decide), hq, hr, mod_ok q1, mod_ok r1]
  · have := Int.emod_nonneg (dg ds 0) (Int.ne_of_gt q1); omega
  · have := Int.emod_lt_of_pos (dg ds 0) q1; omega
  · have := Int.emod_nonneg (dg ds 2) (Int.ne_of_gt r1); omega
  · have := Int.emod_lt_of_pos (dg ds 2) r1; omega
theorem lengths_1 (ds : List Int) (h0 : 0 < ds.length) (lo hi wide : Int) (hw : 0 < wide) (mn : Option D) : ∀ (js : List Nat) (ls : List Int) (g5 : Option D), ls.length + js.length < 100000 →
    ∃ g5', forL (gtN 5) B__law_lengths_1 (js.map fun k => .int (k : Nat)) [some (lstI ds), some (pr lo hi), mn, some (.int wide), some (lstI ls), g5] =
      .next [some (lstI ds), some (pr lo hi), mn, some (.int wide), some (lstI (ls ++ js.map fun j => lo + dg ds (j % ds.length) % wide)), g5'] := by
  intro js
  induction js with
  | nil => exact fun ls g5 _ => ⟨g5, by rw [List.map_nil, List.map_nil, List.append_nil, forL_nil]⟩
  | cons j js ih =>
    intro ls g5 hl
    rw [List.length_cons] at hl
    obtain ⟨y5, h1⟩ := ih (ls ++ [lo + dg ds (j % ds.length) % wide]) (some (.int (j : Nat))) (by rw [List.length_append, List.length_singleton]; omega)
    refine ⟨y5, (forL_step (gtN_eq ..) ?_).trans (h1.trans ?_)⟩
    · simp only [B__law_lengths_1, ev_seq, ev_nil, ev_set, ev_ret, ev_if, ev_for, forI_ok, ev_varS, ev_var0, ev_cst, ev_un, ev_bin, ev_eif, ev_tst, blD_bl, ev_tval, ev_cmp, ev_chn, ev_tnot, ev_tand, ev_tor, ev_anil, ev_acons, ev_args, ev_eand, ev_eor, notD_bl, addD_int, subD_int, negD_int, ltD_int, leD_int, gtD_int, geD_int, eqD_int, neD_int, ev_app, lstOf_lst, dctOf_dct, ev_par2, noX_ok, ev_unp, gtN_eq, gtT2, tup2, tup1, tup0, lst0, lst1, idx_pair0, idx_pair1, thn_next, thn_ret, thn_exc, thn_bad, res_next, res_ret, cnd_ok, env_ok, out_ok, bind_ok, forB_ok, setAll_cons, setAll_nil, List.set_cons_succ, List.set_cons_zero, ev_dset, ev_daug, ev_get2, getOr_int, dctOf_I, ev_comp, wipeE_cons, wipeE_nil, ev_slice, ev_onone, ev_osome, intOf_int, ev_ttrue, ev_count, strOf_str, cntS_ch, revD_tup, len_lstI, mod_ok (show (0 : Int) < (ds.length : Nat) by omega), idx_dgm j h0, mod_ok hw]
      rw [app_map (by unfold LIM; omega)]
      simp only [ev_seq, ev_nil, ev_set, ev_ret, ev_if, ev_for, forI_ok, ev_varS, ev_var0, ev_cst, ev_un, ev_bin, ev_eif, ev_tst, blD_bl, ev_tval, ev_cmp, ev_chn, ev_tnot, ev_tand, ev_tor, ev_anil, ev_acons, ev_args, ev_eand, ev_eor, notD_bl, addD_int, subD_int, negD_int, ltD_int, leD_int, gtD_int, geD_int, eqD_int, neD_int, ev_app, lstOf_lst, dctOf_dct, ev_par2, noX_ok, ev_unp, gtN_eq, gtT2, tup2, tup1, tup0, lst0, lst1, idx_pair0, idx_pair1, thn_next, thn_ret, thn_exc, thn_bad, res_next, res_ret, cnd_ok, env_ok, out_ok, bind_ok, forB_ok, setAll_cons, setAll_nil, List.set_cons_succ, List.set_cons_zero, ev_dset, ev_daug, ev_get2, getOr_int, dctOf_I, ev_comp, wipeE_cons, wipeE_nil, ev_slice, ev_onone, ev_osome, intOf_int, ev_ttrue, ev_count, strOf_str, cntS_ch, revD_tup]
    · rw [List.append_assoc]; rfl
theorem lengths_ok {ds : List Int} (h0 : 0 < ds.length) {b : Int} (hb : 0 < b) (hd : inR b ds) (lo hi : Int) (hlh : lo ≤ hi) (many : Nat) (hm : many < 10000) : ∃ ls : List Int, S__law_lengths [lstI ds, pr lo hi, .int (many : Nat)] = .ok (tupI ls) ∧ ls.length = many ∧ ∀ l ∈ ls, lo ≤ l ∧ l ≤ hi := by
  obtain ⟨y5, h1⟩ := lengths_1 ds h0 lo hi (hi - lo + 1) (by omega) (some (.int (many : Nat))) (List.range many) [] none (by simp; omega)
  refine ⟨(List.range many).map fun j => lo + dg ds (j % ds.length) % (hi - lo + 1), ?_, by simp, fun l hl => ?_⟩
  · rw [R__law_lengths]
    have e : D.lst [] = lstI [] := rfl
    simp only [B__law_lengths, ev_seq, ev_nil, ev_set, ev_ret, ev_if, ev_for, forI_ok, ev_varS, ev_var0, ev_cst, ev_un, ev_bin, ev_eif, ev_tst, blD_bl, ev_tval, ev_cmp, ev_chn, ev_tnot, ev_tand, ev_tor, ev_anil, ev_acons, ev_args, ev_eand, ev_eor, notD_bl, addD_int, subD_int, negD_int, ltD_int, leD_int, gtD_int, geD_int, eqD_int, neD_int, ev_app, lstOf_lst, dctOf_dct, ev_par2, noX_ok, ev_unp, gtN_eq, gtT2, tup2, tup1, tup0, lst0, lst1, idx_pair0, idx_pair1, thn_next, thn_ret, thn_exc, thn_bad, res_next, res_ret, cnd_ok, env_ok, out_ok, bind_ok, forB_ok, setAll_cons, setAll_nil, List.set_cons_succ, List.set_cons_zero, ev_dset, ev_daug, ev_get2, getOr_int, dctOf_I, ev_comp, wipeE_cons, wipeE_nil, ev_slice, ev_onone, ev_osome, intOf_int, ev_ttrue, ev_count, strOf_str, cntS_ch, revD_tup, e, rng1_eq (show many < 1000000000 by omega), h1, tupOf, List.nil_append]
  · obtain ⟨j, _, rfl⟩ := List.mem_map.mp hl
    have h1 := Int.emod_nonneg (dg ds (j % ds.length)) (show hi - lo + 1 ≠ 0 by omega)
    have h2 := Int.emod_lt_of_pos (dg ds (j % ds.length)) (show 0 < hi - lo + 1 by omega)
    omega
def kg (ds : List Int) (j : Nat) : Nat := if j = 0 ∨ dg ds (j % ds.length) / 7 % 2 = 0 then 108 else 116
theorem kg_or (ds : List Int) (j : Nat) : kg ds j = 108 ∨ kg ds j = 116 := by unfold kg; split <;> simp
def KS (ks : List Nat) : Prop := ∀ c ∈ ks, c = 108 ∨ c = 116
theorem KS.ok {ks : List Nat} (h : KS ks) : okS ks := fun c hc => by rcases h c hc with e | e <;> rw [e] <;> decide
theorem add_str {a b : List Nat} (h : a.length + b.length ≤ 1000000) : addD (.str a) (.str b) = .ok (.str (a ++ b)) := if_pos (by unfold LIM; omega)
theorem kinds_1 (ds : List Int) (h0 : 0 < ds.length) (mn : Option D) : ∀ (js : List Nat) (ks : List Nat) (g3 : Option D), ks.length + js.length < 100000 →
    ∃ g3', forL (gtN 3) B__law_kinds_1 (js.map fun k => .int (k : Nat)) [some (lstI ds), mn, some (.str ks), g3] = .next [some (lstI ds), mn, some (.str (ks ++ js.map (kg ds))), g3'] := by
  intro js
  induction js with
  | nil => exact fun ls g5 _ => ⟨g5, by rw [List.map_nil, List.map_nil, List.append_nil, forL_nil]⟩
  | cons j js ih =>
    intro ks g3 hl
    rw [List.length_cons] at hl
    obtain ⟨y3, h1⟩ := ih (ks ++ [kg ds j]) (some (.int (j : Nat))) (by rw [List.length_append, List.length_singleton]; omega)
    refine ⟨y3, (forL_step (gtN_eq ..) ?_).trans (h1.trans ?_)⟩
    · have e : ∀ c : Nat, addD (.str ks) (.str [c]) = .ok (.str (ks ++ [c])) := fun c => add_str (by simp; omega)
      by_cases hj : j = 0
      · have t1 : decide ((j : Int) = 0) = true := decide_eq_true (by omega)
        have ek : kg ds j = 108 := if_pos (.inl hj)
        simp only [B__law_kinds_1, ev_seq, ev_nil, ev_set, ev_ret, ev_if, ev_for, forI_ok, ev_varS, ev_var0, ev_cst, ev_un, ev_bin, ev_eif, ev_tst, blD_bl, ev_tval, ev_cmp, ev_chn, ev_tnot, ev_tand, ev_tor, ev_anil, ev_acons, ev_args, ev_eand, ev_eor, notD_bl, addD_int, subD_int, negD_int, ltD_int, leD_int, gtD_int, geD_int, eqD_int, neD_int, ev_app, lstOf_lst, dctOf_dct, ev_par2, noX_ok, ev_unp, gtN_eq, gtT2, tup2, tup1, tup0, lst0, lst1, idx_pair0, idx_pair1, thn_next, thn_ret, thn_exc, thn_bad, res_next, res_ret, cnd_ok, env_ok, out_ok, bind_ok, forB_ok, setAll_cons, setAll_nil, List.set_cons_succ, List.set_cons_zero, ev_dset, ev_daug, ev_get2, getOr_int, dctOf_I, ev_comp, wipeE_cons, wipeE_nil, ev_slice, ev_onone, ev_osome, intOf_int, ev_ttrue, ev_count, strOf_str, cntS_ch, revD_tup, t1, if_true, e, ek]
      · have t1 : decide ((j : Int) = 0) = false := decide_eq_false (by omega)
        by_cases h2 : dg ds (j % ds.length) / 7 % 2 = 0
        · have ek : kg ds j = 108 := if_pos (.inr h2)
          simp only [B__law_kinds_1, ev_seq, ev_nil, ev_set, ev_ret, ev_if, ev_for, forI_ok, ev_varS, ev_var0, ev_cst, ev_un, ev_bin, ev_eif, ev_tst, blD_bl, ev_tval, ev_cmp, ev_chn, ev_tnot, ev_tand, ev_tor, ev_anil, ev_acons, ev_args, ev_eand, ev_eor, notD_bl, addD_int, subD_int, negD_int, ltD_int, leD_int, gtD_int, geD_int, eqD_int, neD_int, ev_app, lstOf_lst, dctOf_dct, ev_par2, noX_ok, ev_unp, gtN_eq, gtT2, tup2, tup1, tup0, lst0, lst1, idx_pair0, idx_pair1, thn_next, thn_ret, thn_exc, thn_bad, res_next, res_ret, cnd_ok, env_ok, out_ok, bind_ok, forB_ok, setAll_cons, setAll_nil, List.set_cons_succ, List.set_cons_zero, ev_dset, ev_daug, ev_get2, getOr_int, dctOf_I, ev_comp, wipeE_cons, wipeE_nil, ev_slice, ev_onone, ev_osome, intOf_int, ev_ttrue, ev_count, strOf_str, cntS_ch, revD_tup, len_lstI, mod_ok (show (0 : Int) < (ds.length : Nat) by omega), idx_dgm j h0, mod_ok (show (0 : Int) < 2 by decide), div_ok (show (0 : Int) < 7 by decide) (by decide), t1, Bool.false_eq_true, if_false, decide_eq_true h2, if_true, e, ek]
        · have ek : kg ds j = 116 := if_neg (fun h => h.elim hj h2)
          simp only [B__law_kinds_1, ev_seq, ev_nil, ev_set, ev_ret, ev_if, ev_for, forI_ok, ev_varS, ev_var0, ev_cst, ev_un, ev_bin, ev_eif, ev_tst, blD_bl, ev_tval, ev_cmp, ev_chn, ev_tnot, ev_tand, ev_tor, ev_anil, ev_acons, ev_args, ev_eand, ev_eor, notD_bl, addD_int, subD_int, negD_int, ltD_int, leD_int, gtD_int, geD_int, eqD_int, neD_int, ev_app, lstOf_lst, dctOf_dct, ev_par2, noX_ok, ev_unp, gtN_eq, gtT2, tup2, tup1, tup0, lst0, lst1, idx_pair0, idx_pair1, thn_next, thn_ret, thn_exc, thn_bad, res_next, res_ret, cnd_ok, env_ok, out_ok, bind_ok, forB_ok, setAll_cons, setAll_nil, List.set_cons_succ, List.set_cons_zero, ev_dset, ev_daug, ev_get2, getOr_int, dctOf_I, ev_comp, wipeE_cons, wipeE_nil, ev_slice, ev_onone, ev_osome, intOf_int, ev_ttrue, ev_count, strOf_str, cntS_ch, revD_tup, len_lstI, mod_ok (show (0 : Int) < (ds.length : Nat) by omega), idx_dgm j h0, mod_ok (show (0 : Int) < 2 by decide), div_ok (show (0 : Int) < 7 by decide) (by decide), t1, Bool.false_eq_true, if_false, decide_eq_false h2, e, ek]
    · rw [List.append_assoc]; rfl
theorem kinds_ok {ds : List Int} (h0 : 0 < ds.length) (many : Nat) (hm : many < 10000) : S__law_kinds [lstI ds, .int (many : Nat)] = .ok (.str ((List.range many).map (kg ds))) := by
  obtain ⟨y3, h1⟩ := kinds_1 ds h0 (some (.int (many : Nat))) (List.range many) [] none (by simp; omega)
  rw [R__law_kinds]
  simp only [B__law_kinds, ev_seq, ev_nil, ev_set, ev_ret, ev_if, ev_for, forI_ok, ev_varS, ev_var0, ev_cst, ev_un, ev_bin, ev_eif, ev_tst, blD_bl, ev_tval, ev_cmp, ev_chn, ev_tnot, ev_tand, ev_tor, ev_anil, ev_acons, ev_args, ev_eand, ev_eor, notD_bl, addD_int, subD_int, negD_int, ltD_int, leD_int, gtD_int, geD_int, eqD_int, neD_int, ev_app, lstOf_lst, dctOf_dct, ev_par2, noX_ok, ev_unp, gtN_eq, gtT2, tup2, tup1, tup0, lst0, lst1, idx_pair0, idx_pair1, thn_next, thn_ret, thn_exc, thn_bad, res_next, res_ret, cnd_ok, env_ok, out_ok, bind_ok, forB_ok, setAll_cons, setAll_nil, List.set_cons_succ, List.set_cons_zero, ev_dset, ev_daug, ev_get2, getOr_int, dctOf_I, ev_comp, wipeE_cons, wipeE_nil, ev_slice, ev_onone, ev_osome, intOf_int, ev_ttrue, ev_count, strOf_str, cntS_ch, revD_tup, rng1_eq (show many < 1000000000 by omega), h1, List.nil_append]
def notedM (t : Int) : List Int → List Nat → List Int
  | l :: ls, k :: ks => (if k = 108 then l else t + l) :: notedM (t + l) ls ks
  | _, _ => []
def zD (e : Int × Nat) : D := .tup [.int e.1, .str [e.2]]
theorem zip_is (ls : List Int) (ks : List Nat) : zipD [tupI ls, .str ks] = .ok ((ls.zip ks).map zD) := by
  show Res.ok _ = _
  congr 1
  have : ∀ (ls : List Int) (ks : List Nat), ((ls.map D.int).zip (ks.map fun c => D.str [c])).map (fun e => D.tup [e.1, e.2]) = (ls.zip ks).map zD := by
    intro ls
    induction ls with
    | nil => intro ks; rfl
    | cons l ls ih =>
      intro ks
      cases ks with
      | nil => rfl
      | cons k ks =>
        rw [List.map_cons, List.map_cons, List.zip_cons_cons, List.map_cons, ih ks, List.zip_cons_cons, List.map_cons]
        rfl
  exact this ls ks
theorem eq_ch (a b : Nat) (ha : a = 108 ∨ a = 116) (hb : b = 108 ∨ b = 116) : eqD (.str [a]) (.str [b]) = .ok (decide (a = b)) := by
  rw [eq_str (fun c hc => by rw [List.mem_singleton.mp hc]; rcases ha with e | e <;> rw [e] <;> decide) (fun c hc => by rw [List.mem_singleton.mp hc]; rcases hb with e | e <;> rw [e] <;> decide)]
  congr 1
  exact decide_eq_decide.mpr ⟨fun h => List.cons.inj h |>.1, fun h => by rw [h]⟩
theorem noted_1 (a b : Option D) : ∀ (ls : List Int) (ks : List Nat) (t : Int) (fd : List Int) (g4 g5 : Option D), KS ks → fd.length + ls.length < 100000 →
    ∃ t' g4' g5', forL (gtT [4, 5]) B__law_noted_1 ((ls.zip ks).map zD) [a, b, some (lstI fd), some (.int t), g4, g5] = .next [a, b, some (lstI (fd ++ notedM t ls ks)), some (.int t'), g4', g5'] := by
  intro ls
  induction ls with
  | nil => exact fun ks t fd g4 g5 _ _ => ⟨t, g4, g5, by rw [List.zip_nil_left, List.map_nil, forL_nil]; simp [notedM]⟩
  | cons l ls ih =>
    intro ks t fd g4 g5 hk hl
    rw [List.length_cons] at hl
    cases ks with
    | nil => exact ⟨t, g4, g5, by rw [List.zip_nil_right, List.map_nil, forL_nil]; simp [notedM]⟩
    | cons k ks =>
      obtain ⟨t', y4, y5, h1⟩ := ih ks (t + l) (fd ++ [if k = 108 then l else t + l]) (some (.int l)) (some (.str [k])) (fun c hc => hk c (List.mem_cons_of_mem _ hc)) (by rw [List.length_append, List.length_singleton]; omega)
      refine ⟨t', y4, y5, (forL_step rfl ?_).trans (h1.trans ?_)⟩
      · simp only [B__law_noted_1, ev_seq, ev_nil, ev_set, ev_ret, ev_if, ev_for, forI_ok, ev_varS, ev_var0, ev_cst, ev_un, ev_bin, ev_eif, ev_tst, blD_bl, ev_tval, ev_cmp, ev_chn, ev_tnot, ev_tand, ev_tor, ev_anil, ev_acons, ev_args, ev_eand, ev_eor, notD_bl, addD_int, subD_int, negD_int, ltD_int, leD_int, gtD_int, geD_int, eqD_int, neD_int, ev_app, lstOf_lst, dctOf_dct, ev_par2, noX_ok, ev_unp, gtN_eq, gtT2, tup2, tup1, tup0, lst0, lst1, idx_pair0, idx_pair1, thn_next, thn_ret, thn_exc, thn_bad, res_next, res_ret, cnd_ok, env_ok, out_ok, bind_ok, forB_ok, setAll_cons, setAll_nil, List.set_cons_succ, List.set_cons_zero, ev_dset, ev_daug, ev_get2, getOr_int, dctOf_I, ev_comp, wipeE_cons, wipeE_nil, ev_slice, ev_onone, ev_osome, intOf_int, ev_ttrue, ev_count, strOf_str, cntS_ch, revD_tup, eq_ch k 108 (hk k (List.mem_cons_self ..)) (.inl rfl), decide_eq_true_eq]
        by_cases h : k = 108
        · simp only [if_pos h, ev_seq, ev_nil, ev_set, ev_ret, ev_if, ev_for, forI_ok, ev_varS, ev_var0, ev_cst, ev_un, ev_bin, ev_eif, ev_tst, blD_bl, ev_tval, ev_cmp, ev_chn, ev_tnot, ev_tand, ev_tor, ev_anil, ev_acons, ev_args, ev_eand, ev_eor, notD_bl, addD_int, subD_int, negD_int, ltD_int, leD_int, gtD_int, geD_int, eqD_int, neD_int, ev_app, lstOf_lst, dctOf_dct, ev_par2, noX_ok, ev_unp, gtN_eq, gtT2, tup2, tup1, tup0, lst0, lst1, idx_pair0, idx_pair1, thn_next, thn_ret, thn_exc, thn_bad, res_next, res_ret, cnd_ok, env_ok, out_ok, bind_ok, forB_ok, setAll_cons, setAll_nil, List.set_cons_succ, List.set_cons_zero, ev_dset, ev_daug, ev_get2, getOr_int, dctOf_I, ev_comp, wipeE_cons, wipeE_nil, ev_slice, ev_onone, ev_osome, intOf_int, ev_ttrue, ev_count, strOf_str, cntS_ch, revD_tup]
          rw [app_map (by unfold LIM; omega)]
          simp only [ev_seq, ev_nil, ev_set, ev_ret, ev_if, ev_for, forI_ok, ev_varS, ev_var0, ev_cst, ev_un, ev_bin, ev_eif, ev_tst, blD_bl, ev_tval, ev_cmp, ev_chn, ev_tnot, ev_tand, ev_tor, ev_anil, ev_acons, ev_args, ev_eand, ev_eor, notD_bl, addD_int, subD_int, negD_int, ltD_int, leD_int, gtD_int, geD_int, eqD_int, neD_int, ev_app, lstOf_lst, dctOf_dct, ev_par2, noX_ok, ev_unp, gtN_eq, gtT2, tup2, tup1, tup0, lst0, lst1, idx_pair0, idx_pair1, thn_next, thn_ret, thn_exc, thn_bad, res_next, res_ret, cnd_ok, env_ok, out_ok, bind_ok, forB_ok, setAll_cons, setAll_nil, List.set_cons_succ, List.set_cons_zero, ev_dset, ev_daug, ev_get2, getOr_int, dctOf_I, ev_comp, wipeE_cons, wipeE_nil, ev_slice, ev_onone, ev_osome, intOf_int, ev_ttrue, ev_count, strOf_str, cntS_ch, revD_tup]
        · simp only [if_neg h, ev_seq, ev_nil, ev_set, ev_ret, ev_if, ev_for, forI_ok, ev_varS, ev_var0, ev_cst, ev_un, ev_bin, ev_eif, ev_tst, blD_bl, ev_tval, ev_cmp, ev_chn, ev_tnot, ev_tand, ev_tor, ev_anil, ev_acons, ev_args, ev_eand, ev_eor, notD_bl, addD_int, subD_int, negD_int, ltD_int, leD_int, gtD_int, geD_int, eqD_int, neD_int, ev_app, lstOf_lst, dctOf_dct, ev_par2, noX_ok, ev_unp, gtN_eq, gtT2, tup2, tup1, tup0, lst0, lst1, idx_pair0, idx_pair1, thn_next, thn_ret, thn_exc, thn_bad, res_next, res_ret, cnd_ok, env_ok, out_ok, bind_ok, forB_ok, setAll_cons, setAll_nil, List.set_cons_succ, List.set_cons_zero, ev_dset, ev_daug, ev_get2, getOr_int, dctOf_I, ev_comp, wipeE_cons, wipeE_nil, ev_slice, ev_onone, ev_osome, intOf_int, ev_ttrue, ev_count, strOf_str, cntS_ch, revD_tup]
          rw [app_map (by unfold LIM; omega)]
          simp only [ev_seq, ev_nil, ev_set, ev_ret, ev_if, ev_for, forI_ok, ev_varS, ev_var0, ev_cst, ev_un, ev_bin, ev_eif, ev_tst, blD_bl, ev_tval, ev_cmp, ev_chn, ev_tnot, ev_tand, ev_tor, ev_anil, ev_acons, ev_args, ev_eand, ev_eor, notD_bl, addD_int, subD_int, negD_int, ltD_int, leD_int, gtD_int, geD_int, eqD_int, neD_int, ev_app, lstOf_lst, dctOf_dct, ev_par2, noX_ok, ev_unp, gtN_eq, gtT2, tup2, tup1, tup0, lst0, lst1, idx_pair0, idx_pair1, thn_next, thn_ret, thn_exc, thn_bad, res_next, res_ret, cnd_ok, env_ok, out_ok, bind_ok, forB_ok, setAll_cons, setAll_nil, List.set_cons_succ, List.set_cons_zero, ev_dset, ev_daug, ev_get2, getOr_int, dctOf_I, ev_comp, wipeE_cons, wipeE_nil, ev_slice, ev_onone, ev_osome, intOf_int, ev_ttrue, ev_count, strOf_str, cntS_ch, revD_tup]
      · rw [List.append_assoc]; rfl
theorem noted_ok (ls : List Int) (ks : List Nat) (hk : KS ks) (hl : ls.length < 10000) : S__law_noted [tupI ls, .str ks] = .ok (tupI (notedM 0 ls ks)) := by
  obtain ⟨t', y4, y5, h1⟩ := noted_1 (some (tupI ls)) (some (.str ks)) ls ks 0 [] none none hk (by simp; omega)
  rw [R__law_noted]
  have e : D.lst [] = lstI [] := rfl
  simp only [B__law_noted, ev_seq, ev_nil, ev_set, ev_ret, ev_if, ev_for, forI_ok, ev_varS, ev_var0, ev_cst, ev_un, ev_bin, ev_eif, ev_tst, blD_bl, ev_tval, ev_cmp, ev_chn, ev_tnot, ev_tand, ev_tor, ev_anil, ev_acons, ev_args, ev_eand, ev_eor, notD_bl, addD_int, subD_int, negD_int, ltD_int, leD_int, gtD_int, geD_int, eqD_int, neD_int, ev_app, lstOf_lst, dctOf_dct, ev_par2, noX_ok, ev_unp, gtN_eq, gtT2, tup2, tup1, tup0, lst0, lst1, idx_pair0, idx_pair1, thn_next, thn_ret, thn_exc, thn_bad, res_next, res_ret, cnd_ok, env_ok, out_ok, bind_ok, forB_ok, setAll_cons, setAll_nil, List.set_cons_succ, List.set_cons_zero, ev_dset, ev_daug, ev_get2, getOr_int, dctOf_I, ev_comp, wipeE_cons, wipeE_nil, ev_slice, ev_onone, ev_osome, intOf_int, ev_ttrue, ev_count, strOf_str, cntS_ch, revD_tup, e, zip_is, h1, tupOf, List.nil_append]
def lapsM (t : Int) : List Int → List Nat → List Int
  | n :: ns, k :: ks => ((if k = 108 then t + n else n) - t) :: lapsM (if k = 108 then t + n else n) ns ks
  | _, _ => []
theorem lengths_of_1 (a b : Option D) : ∀ (ns : List Int) (ks : List Nat) (t : Int) (fd : List Int) (g4 g5 g6 : Option D), KS ks → fd.length + ns.length < 100000 →
    ∃ t' g4' g5' g6', forL (gtT [4, 5]) B__law_lengths_of_1 ((ns.zip ks).map zD) [a, b, some (lstI fd), some (.int t), g4, g5, g6] = .next [a, b, some (lstI (fd ++ lapsM t ns ks)), some (.int t'), g4', g5', g6'] := by
  intro ls
  induction ls with
  | nil => exact fun ks t fd g4 g5 g6 _ _ => ⟨t, g4, g5, g6, by rw [List.zip_nil_left, List.map_nil, forL_nil]; simp [lapsM]⟩
  | cons l ls ih =>
    intro ks t fd g4 g5 g6 hk hl
    rw [List.length_cons] at hl
    cases ks with
    | nil => exact ⟨t, g4, g5, g6, by rw [List.zip_nil_right, List.map_nil, forL_nil]; simp [lapsM]⟩
    | cons k ks =>
      obtain ⟨t', y4, y5, y6, h1⟩ := ih ks (if k = 108 then t + l else l) (fd ++ [(if k = 108 then t + l else l) - t]) (some (.int l)) (some (.str [k])) (some (.int (if k = 108 then t + l else l))) (fun c hc => hk c (List.mem_cons_of_mem _ hc)) (by rw [List.length_append, List.length_singleton]; omega)
      refine ⟨t', y4, y5, y6, (forL_step rfl ?_).trans (h1.trans ?_)⟩
      · simp only [B__law_lengths_of_1, ev_seq, ev_nil, ev_set, ev_ret, ev_if, ev_for, forI_ok, ev_varS, ev_var0, ev_cst, ev_un, ev_bin, ev_eif, ev_tst, blD_bl, ev_tval, ev_cmp, ev_chn, ev_tnot, ev_tand, ev_tor, ev_anil, ev_acons, ev_args, ev_eand, ev_eor, notD_bl, addD_int, subD_int, negD_int, ltD_int, leD_int, gtD_int, geD_int, eqD_int, neD_int, ev_app, lstOf_lst, dctOf_dct, ev_par2, noX_ok, ev_unp, gtN_eq, gtT2, tup2, tup1, tup0, lst0, lst1, idx_pair0, idx_pair1, thn_next, thn_ret, thn_exc, thn_bad, res_next, res_ret, cnd_ok, env_ok, out_ok, bind_ok, forB_ok, setAll_cons, setAll_nil, List.set_cons_succ, List.set_cons_zero, ev_dset, ev_daug, ev_get2, getOr_int, dctOf_I, ev_comp, wipeE_cons, wipeE_nil, ev_slice, ev_onone, ev_osome, intOf_int, ev_ttrue, ev_count, strOf_str, cntS_ch, revD_tup, eq_ch k 108 (hk k (List.mem_cons_self ..)) (.inl rfl), decide_eq_true_eq]
        by_cases h : k = 108
        · simp only [if_pos h, ev_seq, ev_nil, ev_set, ev_ret, ev_if, ev_for, forI_ok, ev_varS, ev_var0, ev_cst, ev_un, ev_bin, ev_eif, ev_tst, blD_bl, ev_tval, ev_cmp, ev_chn, ev_tnot, ev_tand, ev_tor, ev_anil, ev_acons, ev_args, ev_eand, ev_eor, notD_bl, addD_int, subD_int, negD_int, ltD_int, leD_int, gtD_int, geD_int, eqD_int, neD_int, ev_app, lstOf_lst, dctOf_dct, ev_par2, noX_ok, ev_unp, gtN_eq, gtT2, tup2, tup1, tup0, lst0, lst1, idx_pair0, idx_pair1, thn_next, thn_ret, thn_exc, thn_bad, res_next, res_ret, cnd_ok, env_ok, out_ok, bind_ok, forB_ok, setAll_cons, setAll_nil, List.set_cons_succ, List.set_cons_zero, ev_dset, ev_daug, ev_get2, getOr_int, dctOf_I, ev_comp, wipeE_cons, wipeE_nil, ev_slice, ev_onone, ev_osome, intOf_int, ev_ttrue, ev_count, strOf_str, cntS_ch, revD_tup]
          rw [app_map (by unfold LIM; omega)]
          simp only [ev_seq, ev_nil, ev_set, ev_ret, ev_if, ev_for, forI_ok, ev_varS, ev_var0, ev_cst, ev_un, ev_bin, ev_eif, ev_tst, blD_bl, ev_tval, ev_cmp, ev_chn, ev_tnot, ev_tand, ev_tor, ev_anil, ev_acons, ev_args, ev_eand, ev_eor, notD_bl, addD_int, subD_int, negD_int, ltD_int, leD_int, gtD_int, geD_int, eqD_int, neD_int, ev_app, lstOf_lst, dctOf_dct, ev_par2, noX_ok, ev_unp, gtN_eq, gtT2, tup2, tup1, tup0, lst0, lst1, idx_pair0, idx_pair1, thn_next, thn_ret, thn_exc, thn_bad, res_next, res_ret, cnd_ok, env_ok, out_ok, bind_ok, forB_ok, setAll_cons, setAll_nil, List.set_cons_succ, List.set_cons_zero, ev_dset, ev_daug, ev_get2, getOr_int, dctOf_I, ev_comp, wipeE_cons, wipeE_nil, ev_slice, ev_onone, ev_osome, intOf_int, ev_ttrue, ev_count, strOf_str, cntS_ch, revD_tup]
        · simp only [if_neg h, ev_seq, ev_nil, ev_set, ev_ret, ev_if, ev_for, forI_ok, ev_varS, ev_var0, ev_cst, ev_un, ev_bin, ev_eif, ev_tst, blD_bl, ev_tval, ev_cmp, ev_chn, ev_tnot, ev_tand, ev_tor, ev_anil, ev_acons, ev_args, ev_eand, ev_eor, notD_bl, addD_int, subD_int, negD_int, ltD_int, leD_int, gtD_int, geD_int, eqD_int, neD_int, ev_app, lstOf_lst, dctOf_dct, ev_par2, noX_ok, ev_unp, gtN_eq, gtT2, tup2, tup1, tup0, lst0, lst1, idx_pair0, idx_pair1, thn_next, thn_ret, thn_exc, thn_bad, res_next, res_ret, cnd_ok, env_ok, out_ok, bind_ok, forB_ok, setAll_cons, setAll_nil, List.set_cons_succ, List.set_cons_zero, ev_dset, ev_daug, ev_get2, getOr_int, dctOf_I, ev_comp, wipeE_cons, wipeE_nil, ev_slice, ev_onone, ev_osome, intOf_int, ev_ttrue, ev_count, strOf_str, cntS_ch, revD_tup]
          rw [app_map (by unfold LIM; omega)]
          simp only [ev_seq, ev_nil, ev_set, ev_ret, ev_if, ev_for, forI_ok, ev_varS, ev_var0, ev_cst, ev_un, ev_bin, ev_eif, ev_tst, blD_bl, ev_tval, ev_cmp, ev_chn, ev_tnot, ev_tand, ev_tor, ev_anil, ev_acons, ev_args, ev_eand, ev_eor, notD_bl, addD_int, subD_int, negD_int, ltD_int, leD_int, gtD_int, geD_int, eqD_int, neD_int, ev_app, lstOf_lst, dctOf_dct, ev_par2, noX_ok, ev_unp, gtN_eq, gtT2, tup2, tup1, tup0, lst0, lst1, idx_pair0, idx_pair1, thn_next, thn_ret, thn_exc, thn_bad, res_next, res_ret, cnd_ok, env_ok, out_ok, bind_ok, forB_ok, setAll_cons, setAll_nil, List.set_cons_succ, List.set_cons_zero, ev_dset, ev_daug, ev_get2, getOr_int, dctOf_I, ev_comp, wipeE_cons, wipeE_nil, ev_slice, ev_onone, ev_osome, intOf_int, ev_ttrue, ev_count, strOf_str, cntS_ch, revD_tup]
      · rw [List.append_assoc]; rfl
theorem lengths_of_ok (ns : List Int) (ks : List Nat) (hk : KS ks) (hl : ns.length < 10000) : S__law_lengths_of [tupI ns, .str ks] = .ok (lstI (lapsM 0 ns ks)) := by
  obtain ⟨t', y4, y5, y6, h1⟩ := lengths_of_1 (some (tupI ns)) (some (.str ks)) ns ks 0 [] none none none hk (by simp; omega)
  rw [R__law_lengths_of]
  have e : D.lst [] = lstI [] := rfl
  simp only [B__law_lengths_of, ev_seq, ev_nil, ev_set, ev_ret, ev_if, ev_for, forI_ok, ev_varS, ev_var0, ev_cst, ev_un, ev_bin, ev_eif, ev_tst, blD_bl, ev_tval, ev_cmp, ev_chn, ev_tnot, ev_tand, ev_tor, ev_anil, ev_acons, ev_args, ev_eand, ev_eor, notD_bl, addD_int, subD_int, negD_int, ltD_int, leD_int, gtD_int, geD_int, eqD_int, neD_int, ev_app, lstOf_lst, dctOf_dct, ev_par2, noX_ok, ev_unp, gtN_eq, gtT2, tup2, tup1, tup0, lst0, lst1, idx_pair0, idx_pair1, thn_next, thn_ret, thn_exc, thn_bad, res_next, res_ret, cnd_ok, env_ok, out_ok, bind_ok, forB_ok, setAll_cons, setAll_nil, List.set_cons_succ, List.set_cons_zero, ev_dset, ev_daug, ev_get2, getOr_int, dctOf_I, ev_comp, wipeE_cons, wipeE_nil, ev_slice, ev_onone, ev_osome, intOf_int, ev_ttrue, ev_count, strOf_str, cntS_ch, revD_tup, e, zip_is, h1, List.nil_append]
theorem ev_lset (i : Nat) (k e : Env → Res D) (ρ : Env) : sLSet i k e ρ = ((e ρ).bind fun x => ((eVar i ρ).bind fun d => (lstOf d).bind fun ds => (k ρ).bind fun y => lsetD ds x y).bind fun d => .ok (ρ.set i (some d))).env := id rfl
theorem lset_int {ds : List D} {x : D} {i : Nat} (h : i < ds.length) : lsetD ds x (.int (i : Nat)) = .ok (.lst (ds.set i x)) := by
  unfold lsetD
  dsimp only
  rw [ixN_nat h]
theorem changed_0 (a : Option D) (ds fd : List Int) (j : Nat) (hj : 3 + j < ds.length) {b B : Int} (hb : 0 < b) (hd : inR b ds) (hB : 1 ≤ B) (hf : ∀ n ∈ fd, 1 ≤ n ∧ n ≤ B) (g4 : Option D) :
    ∃ fd' g4', B__law_changed_1 [a, some (lstI ds), some (lstI fd), some (.int (j : Nat)), g4] = .next [a, some (lstI ds), some (lstI fd'), some (.int (j : Nat)), g4'] ∧ fd'.length = fd.length ∧ ∀ n ∈ fd', 1 ≤ n ∧ n ≤ B + 50 := by
  have e : D.lst [] = lstI [] := rfl
  by_cases hn : fd = []
  · refine ⟨fd, g4, ?_, rfl, fun n h => by rw [hn] at h; simp at h⟩
    simp only [B__law_changed_1, ev_seq, ev_nil, ev_set, ev_ret, ev_if, ev_for, forI_ok, ev_varS, ev_var0, ev_cst, ev_un, ev_bin, ev_eif, ev_tst, blD_bl, ev_tval, ev_cmp, ev_chn, ev_tnot, ev_tand, ev_tor, ev_anil, ev_acons, ev_args, ev_eand, ev_eor, notD_bl, addD_int, subD_int, negD_int, ltD_int, leD_int, gtD_int, geD_int, eqD_int, neD_int, ev_app, lstOf_lst, dctOf_dct, ev_par2, noX_ok, ev_unp, gtN_eq, gtT2, tup2, tup1, tup0, lst0, lst1, idx_pair0, idx_pair1, thn_next, thn_ret, thn_exc, thn_bad, res_next, res_ret, cnd_ok, env_ok, out_ok, bind_ok, forB_ok, setAll_cons, setAll_nil, List.set_cons_succ, List.set_cons_zero, ev_dset, ev_daug, ev_get2, getOr_int, dctOf_I, ev_comp, wipeE_cons, wipeE_nil, ev_slice, ev_onone, ev_osome, intOf_int, ev_ttrue, ev_count, strOf_str, cntS_ch, revD_tup, e, ne_lstI, decide_eq_true hn, Bool.not_true, Bool.false_eq_true, if_false]
  · have h0 : 0 < fd.length := List.length_pos_iff.mpr hn
    have e1 : (1 : Int) + (j : Nat) = ((1 + j : Nat) : Int) := by omega
    have e3 : (3 : Int) + (j : Nat) = ((3 + j : Nat) : Int) := by omega
    have d1 := dg_in hb hd (1 + j)
    have d3 := dg_in hb hd (3 + j)
    obtain ⟨at', hat, hlt⟩ : ∃ m : Nat, dg ds (1 + j) % (fd.length : Nat) = (m : Nat) ∧ m < fd.length := by
      have h1 := Int.emod_nonneg (dg ds (1 + j)) (show ((fd.length : Nat) : Int) ≠ 0 by omega)
      have h2 := Int.emod_lt_of_pos (dg ds (1 + j)) (show 0 < ((fd.length : Nat) : Int) by omega)
      exact ⟨(dg ds (1 + j) % (fd.length : Nat)).toNat, by omega, by omega⟩
    have l6 : ∀ a b c d e f, lstD [a, b, c, d, e, f] = .ok (.lst [a, b, c, d, e, f]) := fun _ _ _ _ _ _ => rfl
    have hv := hf (dg fd at') (List.mem_of_getElem? (dg_get hlt))
    obtain ⟨x, hx, hx2⟩ : ∃ x : Int, idxD (.lst [.int 1, .int (0 - 1), .int 9, .int (0 - 9), .int 50, .int (0 - dg fd at')]) (.int (dg ds (3 + j) % 6)) = .ok (.int x) ∧ x ≤ 50 := by
      have : dg ds (3 + j) % 6 = 0 ∨ dg ds (3 + j) % 6 = 1 ∨ dg ds (3 + j) % 6 = 2 ∨ dg ds (3 + j) % 6 = 3 ∨ dg ds (3 + j) % 6 = 4 ∨ dg ds (3 + j) % 6 = 5 := by omega
      rcases this with e | e | e | e | e | e <;> rw [e] <;> exact ⟨_, rfl, by omega⟩
    have hm : maxD [.int 1, .int (dg fd at' + x)] = .ok (.int (if dg fd at' + x > 1 then dg fd at' + x else 1)) := id rfl
    refine ⟨fd.set at' (if dg fd at' + x > 1 then dg fd at' + x else 1), some (.int (at' : Nat)), ?_, by rw [List.length_set], fun n h => ?_⟩
    · simp only [B__law_changed_1, ev_seq, ev_nil, ev_set, ev_ret, ev_if, ev_for, forI_ok, ev_varS, ev_var0, ev_cst, ev_un, ev_bin, ev_eif, ev_tst, blD_bl, ev_tval, ev_cmp, ev_chn, ev_tnot, ev_tand, ev_tor, ev_anil, ev_acons, ev_args, ev_eand, ev_eor, notD_bl, addD_int, subD_int, negD_int, ltD_int, leD_int, gtD_int, geD_int, eqD_int, neD_int, ev_app, lstOf_lst, dctOf_dct, ev_par2, noX_ok, ev_unp, gtN_eq, gtT2, tup2, tup1, tup0, lst0, lst1, idx_pair0, idx_pair1, thn_next, thn_ret, thn_exc, thn_bad, res_next, res_ret, cnd_ok, env_ok, out_ok, bind_ok, forB_ok, setAll_cons, setAll_nil, List.set_cons_succ, List.set_cons_zero, ev_dset, ev_daug, ev_get2, getOr_int, dctOf_I, ev_comp, wipeE_cons, wipeE_nil, ev_slice, ev_onone, ev_osome, intOf_int, ev_ttrue, ev_count, strOf_str, cntS_ch, revD_tup, e, ne_lstI, decide_eq_false hn, Bool.not_false, if_true, e1, e3, idx_dg (show 1 + j < ds.length by omega), idx_dg hj, len_lstI, mod_ok (show (0 : Int) < (fd.length : Nat) by omega), hat, idx_dg hlt, l6, mod_ok (show (0 : Int) < 6 by decide), hx, hm, ev_lset]
      rw [lset_int (by rw [List.length_map]; exact hlt), ← List.map_set]
      simp only [ev_seq, ev_nil, ev_set, ev_ret, ev_if, ev_for, forI_ok, ev_varS, ev_var0, ev_cst, ev_un, ev_bin, ev_eif, ev_tst, blD_bl, ev_tval, ev_cmp, ev_chn, ev_tnot, ev_tand, ev_tor, ev_anil, ev_acons, ev_args, ev_eand, ev_eor, notD_bl, addD_int, subD_int, negD_int, ltD_int, leD_int, gtD_int, geD_int, eqD_int, neD_int, ev_app, lstOf_lst, dctOf_dct, ev_par2, noX_ok, ev_unp, gtN_eq, gtT2, tup2, tup1, tup0, lst0, lst1, idx_pair0, idx_pair1, thn_next, thn_ret, thn_exc, thn_bad, res_next, res_ret, cnd_ok, env_ok, out_ok, bind_ok, forB_ok, setAll_cons, setAll_nil, List.set_cons_succ, List.set_cons_zero, ev_dset, ev_daug, ev_get2, getOr_int, dctOf_I, ev_comp, wipeE_cons, wipeE_nil, ev_slice, ev_onone, ev_osome, intOf_int, ev_ttrue, ev_count, strOf_str, cntS_ch, revD_tup]
    · rcases List.mem_or_eq_of_mem_set h with h | h
      · have := hf n h; omega
      · rw [h]; split <;> omega
theorem changed_1 (a : Option D) (ds : List Int) {b : Int} (hb : 0 < b) (hd : inR b ds) : ∀ (js : List Nat) (fd : List Int) (B : Int) (g3 g4 : Option D), 1 ≤ B → (∀ j ∈ js, 3 + j < ds.length) → (∀ n ∈ fd, 1 ≤ n ∧ n ≤ B) →
    ∃ fd' g3' g4', forL (gtN 3) B__law_changed_1 (js.map fun k => .int (k : Nat)) [a, some (lstI ds), some (lstI fd), g3, g4] = .next [a, some (lstI ds), some (lstI fd'), g3', g4'] ∧ fd'.length = fd.length ∧ ∀ n ∈ fd', 1 ≤ n ∧ n ≤ B + 50 * js.length := by
  intro js
  induction js with
  | nil => exact fun fd B g3 g4 hB hj hf => ⟨fd, g3, g4, rfl, rfl, fun n hn => by have := hf n hn; simp; omega⟩
  | cons j js ih =>
    intro fd B g3 g4 hB hj hf
    obtain ⟨fd1, x4, h1, h2, h3⟩ := changed_0 a ds fd j (hj j (List.mem_cons_self ..)) hb hd hB hf g4
    obtain ⟨fd2, y3, y4, k1, k2, k3⟩ := ih fd1 (B + 50) (some (.int (j : Nat))) x4 (by omega) (fun z hz => hj z (List.mem_cons_of_mem _ hz)) h3
    refine ⟨fd2, y3, y4, (forL_step (gtN_eq ..) h1).trans k1, k2.trans h2, fun n hn => ?_⟩
    have := k3 n hn
    rw [List.length_cons]
    omega
theorem changed_ok {ds : List Int} (h : 5 ≤ ds.length) {b : Int} (hb : 0 < b) (hd : inR b ds) (ns : List Int) {B : Int} (hB : 1 ≤ B) (hf : ∀ n ∈ ns, 1 ≤ n ∧ n ≤ B) : ∃ ns', S__law_changed [tupI ns, lstI ds] = .ok (tupI ns') ∧ ns'.length = ns.length ∧ ∀ n ∈ ns', 1 ≤ n ∧ n ≤ B + 100 := by
  have d0 := dg_in hb hd 0
  obtain ⟨m, hm, hm2⟩ : ∃ m : Nat, 1 + dg ds 0 % 2 = (m : Nat) ∧ m ≤ 2 := ⟨(1 + dg ds 0 % 2).toNat, by omega, by omega⟩
  obtain ⟨fd, y3, y4, h1, h2, h3⟩ := changed_1 (some (tupI ns)) ds hb hd (List.range m) ns B none none hB (fun j hj => by rw [List.mem_range] at hj; omega) hf
  refine ⟨fd, ?_, h2, fun n hn => ?_⟩
  · rw [R__law_changed]
    have i0 : idxD (lstI ds) (.int 0) = .ok (.int (dg ds 0)) := idx_dg (k := 0) (by omega)
    simp only [B__law_changed, ev_seq, ev_nil, ev_set, ev_ret, ev_if, ev_for, forI_ok, ev_varS, ev_var0, ev_cst, ev_un, ev_bin, ev_eif, ev_tst, blD_bl, ev_tval, ev_cmp, ev_chn, ev_tnot, ev_tand, ev_tor, ev_anil, ev_acons, ev_args, ev_eand, ev_eor, notD_bl, addD_int, subD_int, negD_int, ltD_int, leD_int, gtD_int, geD_int, eqD_int, neD_int, ev_app, lstOf_lst, dctOf_dct, ev_par2, noX_ok, ev_unp, gtN_eq, gtT2, tup2, tup1, tup0, lst0, lst1, idx_pair0, idx_pair1, thn_next, thn_ret, thn_exc, thn_bad, res_next, res_ret, cnd_ok, env_ok, out_ok, bind_ok, forB_ok, setAll_cons, setAll_nil, List.set_cons_succ, List.set_cons_zero, ev_dset, ev_daug, ev_get2, getOr_int, dctOf_I, ev_comp, wipeE_cons, wipeE_nil, ev_slice, ev_onone, ev_osome, intOf_int, ev_ttrue, ev_count, strOf_str, cntS_ch, revD_tup, listOf, i0, mod_ok (show (0 : Int) < 2 by decide), hm, rng1_eq (show m < 1000000000 by omega), h1, tupOf]
  · have := h3 n hn
    rw [List.length_range] at this
    omega
end PL
set_option Elab.async false
set_option linter.all false
set_option maxRecDepth 100000
set_option maxHeartbeats 4000000
namespace PL
open PySem PySem.Spec PyProof.Rows L2
def rd (lo hi : Int) (t : Int) (f : Bool) : List Int → List (List Nat)
  | [] => [[]]
  | n :: ns => (stepsM lo hi t n f).flatMap fun e => (rd lo hi e.2 false ns).map (e.1 :: ·)
theorem rd_cnt (lo hi : Int) : ∀ (ns : List Int) (t : Int) (f : Bool), (rd lo hi t f ns).length = cnt lo hi t f ns
  | [], _, _ => rfl
  | n :: ns, t, f => by
    show ((stepsM lo hi t n f).flatMap fun e => (rd lo hi e.2 false ns).map (e.1 :: ·)).length = ((stepsM lo hi t n f).map fun e => cnt lo hi e.2 false ns).sum
    rw [List.length_flatMap]
    congr 1
    refine List.map_congr_left fun e _ => ?_
    rw [List.length_map, rd_cnt lo hi ns e.2 false]
theorem mem_steps {lo hi t n : Int} {f : Bool} {e : Nat × Int} : e ∈ stepsM lo hi t n f ↔ (okR lo hi n = true ∧ e = (108, t + n)) ∨ (f = false ∧ okR lo hi (n - t) = true ∧ e = (116, n)) := by
  unfold stepsM
  rw [List.mem_append]
  constructor
  · rintro (h | h)
    · split at h
      · rename_i h1; exact .inl ⟨h1, by simpa using h⟩
      · simp at h
    · split at h
      · rename_i h1
        rw [Bool.and_eq_true, Bool.not_eq_true'] at h1
        exact .inr ⟨h1.1, h1.2, by simpa using h⟩
      · simp at h
  · rintro (⟨h1, h2⟩ | ⟨h1, h2, h3⟩)
    · left; rw [if_pos h1, h2]; simp
    · right; rw [if_pos (by rw [h1, h2]; rfl), h3]; simp
structure Rdg (lo hi t : Int) (f : Bool) (ns : List Int) (ks : List Nat) : Prop where
  len : ks.length = ns.length
  al : KS ks
  hd : f = true → ∀ k ∈ ks.head?, k = 108
  ok : ∀ l ∈ lapsM t ns ks, okR lo hi l = true
theorem mem_rd {lo hi : Int} : ∀ {ns : List Int} {t : Int} {f : Bool} {ks : List Nat}, ks ∈ rd lo hi t f ns ↔ Rdg lo hi t f ns ks
  | [], t, f, ks => by
    show ks ∈ [[]] ↔ _
    rw [List.mem_singleton]
    constructor
    · rintro rfl
      exact ⟨rfl, fun c hc => by simp at hc, fun _ k hk => by simp at hk, fun l hl => by simp [lapsM] at hl⟩
    · intro h
      exact List.length_eq_zero_iff.mp h.len
  | n :: ns, t, f, ks => by
    show ks ∈ (stepsM lo hi t n f).flatMap (fun e => (rd lo hi e.2 false ns).map (e.1 :: ·)) ↔ _
    rw [List.mem_flatMap]
    constructor
    · rintro ⟨e, he, hk⟩
      obtain ⟨ks', h1, rfl⟩ := List.mem_map.mp hk
      have ih := mem_rd.mp h1
      rcases mem_steps.mp he with ⟨o, rfl⟩ | ⟨hf, o, rfl⟩
      · refine ⟨by simp [ih.len], fun c hc => ?_, fun _ k hk => by simpa using hk.symm, fun l hl => ?_⟩
        · rcases List.mem_cons.mp hc with h | h
          · exact .inl h
          · exact ih.al c h
        · have hl' : l = (t + n) - t ∨ l ∈ lapsM (t + n) ns ks' := by simpa [lapsM] using hl
          rcases hl' with h | h
          · rw [h, show t + n - t = n by omega]; exact o
          · exact ih.ok l h
      · refine ⟨by simp [ih.len], fun c hc => ?_, fun h => absurd (hf.symm.trans h) (by decide), fun l hl => ?_⟩
        · rcases List.mem_cons.mp hc with h | h
          · exact .inr h
          · exact ih.al c h
        · have hl' : l = n - t ∨ l ∈ lapsM n ns ks' := by simpa [lapsM] using hl
          rcases hl' with h | h
          · rw [h]; exact o
          · exact ih.ok l h
    · intro h
      cases ks with
      | nil => exact absurd h.len (by simp)
      | cons k ks' =>
        have hl : ks'.length = ns.length := by simpa using h.len
        have hks : KS ks' := fun c hc => h.al c (List.mem_cons_of_mem _ hc)
        rcases h.al k (List.mem_cons_self ..) with e | e
        · subst e
          refine ⟨(108, t + n), mem_steps.mpr (.inl ⟨?_, rfl⟩), List.mem_map.mpr ⟨ks', mem_rd.mpr ⟨hl, hks, fun h => absurd h (by decide), fun l hl2 => h.ok l ?_⟩, rfl⟩⟩
          · have := h.ok (t + n - t) (by simp [lapsM])
            rw [show t + n - t = n by omega] at this
            exact this
          · simp [lapsM]; exact .inr hl2
        · subst e
          have hf : f = false := by
            cases f with
            | false => rfl
            | true => exact absurd (h.hd rfl 116 (by simp)) (by decide)
          refine ⟨(116, n), mem_steps.mpr (.inr ⟨hf, ?_, rfl⟩), List.mem_map.mpr ⟨ks', mem_rd.mpr ⟨hl, hks, fun h => absurd h (by decide), fun l hl2 => h.ok l ?_⟩, rfl⟩⟩
          · exact h.ok (n - t) (by simp [lapsM])
          · simp [lapsM]; exact .inr hl2
theorem lt_cons {a : Nat} {x y : List Nat} : a :: x < a :: y ↔ x < y := by
  rw [List.cons_lt_cons_iff]
  constructor
  · rintro (h | ⟨_, h⟩)
    · exact absurd h (Nat.lt_irrefl _)
    · exact h
  · exact fun h => .inr ⟨rfl, h⟩
theorem rd_sorted (lo hi : Int) : ∀ (ns : List Int) (t : Int) (f : Bool), (rd lo hi t f ns).Pairwise (· < ·)
  | [], _, _ => List.pairwise_singleton _ _
  | n :: ns, t, f => by
    show ((stepsM lo hi t n f).flatMap fun e => (rd lo hi e.2 false ns).map (e.1 :: ·)).Pairwise (· < ·)
    have one : ∀ e : Nat × Int, ((rd lo hi e.2 false ns).map (e.1 :: ·)).Pairwise (· < ·) := fun e => List.pairwise_map.mpr ((rd_sorted lo hi ns e.2 false).imp fun h => lt_cons.mpr h)
    unfold stepsM
    split <;> split
    · simp only [List.cons_append, List.nil_append, List.flatMap_cons, List.flatMap_nil, List.append_nil]
      refine List.pairwise_append.mpr ⟨one (108, t + n), one (116, n), fun a ha b hb => ?_⟩
      obtain ⟨x, _, rfl⟩ := List.mem_map.mp ha
      obtain ⟨y, _, rfl⟩ := List.mem_map.mp hb
      exact List.cons_lt_cons_iff.mpr (.inl (by decide))
    · simp only [List.append_nil, List.flatMap_cons, List.flatMap_nil]
      exact one (108, t + n)
    · simp only [List.nil_append, List.flatMap_cons, List.flatMap_nil, List.append_nil]
      exact one (116, n)
    · exact .nil
theorem rd_nodup (lo hi t : Int) (f : Bool) (ns : List Int) : (rd lo hi t f ns).Nodup := (rd_sorted lo hi ns t f).imp fun {a b} h e => by
  subst e
  exact List.lt_irrefl _ h
theorem rd_KS {lo hi t : Int} {f : Bool} {ns : List Int} {ks : List Nat} (h : ks ∈ rd lo hi t f ns) : KS ks := (mem_rd.mp h).al
theorem good_ok (lo hi : Int) (ns : List Int) (ks : List Nat) (hk : KS ks) (hl : ns.length < 10000) : S__law_good [pr lo hi, tupI ns, .str ks] = .ok (.bl ((lapsM 0 ns ks).all (okR lo hi))) := by
  have hlen : ∀ (ns : List Int) (ks : List Nat) (t : Int), (lapsM t ns ks).length ≤ ns.length := by
    intro ns
    induction ns with
    | nil => intro ks t; simp [lapsM]
    | cons n ns ih => intro ks t; cases ks with
      | nil => simp [lapsM]
      | cons k ks => simp [lapsM]; exact ih ks _
  rw [R__law_good]
  have hc := compL_map (f := D.int) (g := gtN 3) (c := PL.tNot (PL.tChn leD leD (eBin idxD (eVar 0) (eCst (.int 0))) (eVar 3) (eBin idxD (eVar 0) (eCst (.int 1))))) (e := eVar 3) (ρ := [some (pr lo hi), some (tupI ns), some (.str ks), none]) (fun x => !okR lo hi x) D.int (lapsM 0 ns ks) fun x _ => by
    refine ⟨[some (pr lo hi), some (tupI ns), some (.str ks), some (.int x)], rfl, ?_, fun _ => rfl⟩
    simp only [ev_seq, ev_nil, ev_set, ev_ret, ev_if, ev_for, forI_ok, ev_varS, ev_var0, ev_cst, ev_un, ev_bin, ev_eif, ev_tst, blD_bl, ev_tval, ev_cmp, ev_chn, ev_tnot, ev_tand, ev_tor, ev_anil, ev_acons, ev_args, ev_eand, ev_eor, notD_bl, addD_int, subD_int, negD_int, ltD_int, leD_int, gtD_int, geD_int, eqD_int, neD_int, ev_app, lstOf_lst, dctOf_dct, ev_par2, noX_ok, ev_unp, gtN_eq, gtT2, tup2, tup1, tup0, lst0, lst1, idx_pair0, idx_pair1, thn_next, thn_ret, thn_exc, thn_bad, res_next, res_ret, cnd_ok, env_ok, out_ok, bind_ok, forB_ok, setAll_cons, setAll_nil, List.set_cons_succ, List.set_cons_zero, ev_dset, ev_daug, ev_get2, getOr_int, dctOf_I, ev_comp, wipeE_cons, wipeE_nil, ev_slice, ev_onone, ev_osome, intOf_int, ev_ttrue, ev_count, strOf_str, cntS_ch, revD_tup, okR, decide_eq_true_eq]
    by_cases h : lo ≤ x
    · simp only [if_pos h, ev_seq, ev_nil, ev_set, ev_ret, ev_if, ev_for, forI_ok, ev_varS, ev_var0, ev_cst, ev_un, ev_bin, ev_eif, ev_tst, blD_bl, ev_tval, ev_cmp, ev_chn, ev_tnot, ev_tand, ev_tor, ev_anil, ev_acons, ev_args, ev_eand, ev_eor, notD_bl, addD_int, subD_int, negD_int, ltD_int, leD_int, gtD_int, geD_int, eqD_int, neD_int, ev_app, lstOf_lst, dctOf_dct, ev_par2, noX_ok, ev_unp, gtN_eq, gtT2, tup2, tup1, tup0, lst0, lst1, idx_pair0, idx_pair1, thn_next, thn_ret, thn_exc, thn_bad, res_next, res_ret, cnd_ok, env_ok, out_ok, bind_ok, forB_ok, setAll_cons, setAll_nil, List.set_cons_succ, List.set_cons_zero, ev_dset, ev_daug, ev_get2, getOr_int, dctOf_I, ev_comp, wipeE_cons, wipeE_nil, ev_slice, ev_onone, ev_osome, intOf_int, ev_ttrue, ev_count, strOf_str, cntS_ch, revD_tup, decide_eq_true h, Bool.true_and]
    · simp only [if_neg h, ev_seq, ev_nil, ev_set, ev_ret, ev_if, ev_for, forI_ok, ev_varS, ev_var0, ev_cst, ev_un, ev_bin, ev_eif, ev_tst, blD_bl, ev_tval, ev_cmp, ev_chn, ev_tnot, ev_tand, ev_tor, ev_anil, ev_acons, ev_args, ev_eand, ev_eor, notD_bl, addD_int, subD_int, negD_int, ltD_int, leD_int, gtD_int, geD_int, eqD_int, neD_int, ev_app, lstOf_lst, dctOf_dct, ev_par2, noX_ok, ev_unp, gtN_eq, gtT2, tup2, tup1, tup0, lst0, lst1, idx_pair0, idx_pair1, thn_next, thn_ret, thn_exc, thn_bad, res_next, res_ret, cnd_ok, env_ok, out_ok, bind_ok, forB_ok, setAll_cons, setAll_nil, List.set_cons_succ, List.set_cons_zero, ev_dset, ev_daug, ev_get2, getOr_int, dctOf_I, ev_comp, wipeE_cons, wipeE_nil, ev_slice, ev_onone, ev_osome, intOf_int, ev_ttrue, ev_count, strOf_str, cntS_ch, revD_tup, decide_eq_false h, Bool.false_and]
  have e : D.lst [] = lstI [] := rfl
  have hf : ((lapsM 0 ns ks).filter fun x => !okR lo hi x).length ≤ 1000000 := by
    have h1 := List.length_filter_le (fun x => !okR lo hi x) (lapsM 0 ns ks)
    have h2 := hlen ns ks 0
    omega
  simp only [B__law_good, C__law_good_1, ev_seq, ev_nil, ev_set, ev_ret, ev_if, ev_for, forI_ok, ev_varS, ev_var0, ev_cst, ev_un, ev_bin, ev_eif, ev_tst, blD_bl, ev_tval, ev_cmp, ev_chn, ev_tnot, ev_tand, ev_tor, ev_anil, ev_acons, ev_args, ev_eand, ev_eor, notD_bl, addD_int, subD_int, negD_int, ltD_int, leD_int, gtD_int, geD_int, eqD_int, neD_int, ev_app, lstOf_lst, dctOf_dct, ev_par2, noX_ok, ev_unp, gtN_eq, gtT2, tup2, tup1, tup0, lst0, lst1, idx_pair0, idx_pair1, thn_next, thn_ret, thn_exc, thn_bad, res_next, res_ret, cnd_ok, env_ok, out_ok, bind_ok, forB_ok, setAll_cons, setAll_nil, List.set_cons_succ, List.set_cons_zero, ev_dset, ev_daug, ev_get2, getOr_int, dctOf_I, ev_comp, wipeE_cons, wipeE_nil, ev_slice, ev_onone, ev_osome, intOf_int, ev_ttrue, ev_count, strOf_str, cntS_ch, revD_tup, lengths_of_ok ns ks hk hl, itemsD, hc, lst_ok hf, e, eq_lstI]
  congr 2
  rw [Bool.eq_iff_iff, decide_eq_true_eq, List.filter_eq_nil_iff, List.all_eq_true]
  constructor
  · intro h x hx
    have := h x hx
    simpa using this
  · intro h x hx
    simp [h x hx]
def sgn (i : Nat) : List Nat := if i = 0 then [108] else [108, 116]
def lrNext (lo hi : Int) (ns : List Int) (i : Nat) (fd : List (List Nat)) : List (List Nat) := (fd.flatMap fun ks => (sgn i).map fun c => ks ++ [c]).filter fun ks => (lapsM 0 (ns.take (i + 1)) ks).all (okR lo hi)
def lrUp (lo hi : Int) (ns : List Int) : Nat → List (List Nat)
  | 0 => [[]]
  | i + 1 => lrNext lo hi ns i (lrUp lo hi ns i)
theorem sgn_len (i : Nat) : (sgn i).length ≤ 2 := by unfold sgn; split <;> simp
theorem sgn_KS {i c : Nat} (h : c ∈ sgn i) : c = 108 ∨ c = 116 := by
  unfold sgn at h
  split at h <;> simp at h <;> omega
theorem flat_len (i : Nat) : ∀ fd : List (List Nat), (fd.flatMap fun ks => (sgn i).map fun c => ks ++ [c]).length ≤ 2 * fd.length
  | [] => by simp
  | ks :: fd => by
    have := flat_len i fd
    have h2 := sgn_len i
    rw [List.flatMap_cons, List.length_append, List.length_map, List.length_cons]
    omega
theorem lrUp_len (lo hi : Int) (ns : List Int) : ∀ i, (lrUp lo hi ns i).length ≤ 2 ^ i
  | 0 => by simp [lrUp]
  | i + 1 => by
    have h1 := lrUp_len lo hi ns i
    have h2 := flat_len i (lrUp lo hi ns i)
    have h3 := List.length_filter_le (fun ks => (lapsM 0 (ns.take (i + 1)) ks).all (okR lo hi)) ((lrUp lo hi ns i).flatMap fun ks => (sgn i).map fun c => ks ++ [c])
    show (lrNext lo hi ns i (lrUp lo hi ns i)).length ≤ 2 ^ (i + 1)
    unfold lrNext
    rw [Nat.pow_succ]
    omega
theorem lrUp_KS (lo hi : Int) (ns : List Int) : ∀ i, ∀ ks ∈ lrUp lo hi ns i, KS ks ∧ ks.length = i
  | 0, ks, h => by
    have : ks = [] := by simpa [lrUp] using h
    rw [this]
    exact ⟨fun c hc => by simp at hc, rfl⟩
  | i + 1, ks, h => by
    have h' : ks ∈ lrNext lo hi ns i (lrUp lo hi ns i) := h
    unfold lrNext at h'
    obtain ⟨h1, _⟩ := List.mem_filter.mp h'
    obtain ⟨ks0, h2, h3⟩ := List.mem_flatMap.mp h1
    obtain ⟨c, h4, rfl⟩ := List.mem_map.mp h3
    obtain ⟨k1, k2⟩ := lrUp_KS lo hi ns i ks0 h2
    refine ⟨fun x hx => ?_, by simp [k2]⟩
    rcases List.mem_append.mp hx with hx | hx
    · exact k1 x hx
    · rw [List.mem_singleton.mp hx]; exact sgn_KS h4
theorem laps_take (c : Nat) : ∀ (i : Nat) (ns : List Int) (ks : List Nat) (t : Int), ks.length = i → ∀ l ∈ lapsM t (ns.take i) ks, l ∈ lapsM t (ns.take (i + 1)) (ks ++ [c])
  | 0, ns, ks, t, h, l, hl => by simp [lapsM] at hl
  | i + 1, [], ks, t, h, l, hl => by simp [lapsM] at hl
  | i + 1, n :: ns, [], t, h, l, hl => by simp at h
  | i + 1, n :: ns, k :: ks, t, h, l, hl => by
    have hl' : l = (if k = 108 then t + n else n) - t ∨ l ∈ lapsM (if k = 108 then t + n else n) (ns.take i) ks := by simpa [lapsM] using hl
    have := laps_take c i ns ks (if k = 108 then t + n else n) (by simpa using h) l
    show l ∈ ((if k = 108 then t + n else n) - t) :: lapsM (if k = 108 then t + n else n) (ns.take (i + 1)) (ks ++ [c])
    rw [List.mem_cons]
    exact hl'.imp id this
theorem lrUp_mem (lo hi : Int) (ns : List Int) : ∀ i, i ≤ ns.length → ∀ ks, ks ∈ lrUp lo hi ns i ↔ Rdg lo hi 0 true (ns.take i) ks
  | 0, _, ks => by
    show ks ∈ [[]] ↔ _
    rw [List.mem_singleton]
    constructor
    · rintro rfl
      exact ⟨rfl, fun c hc => by simp at hc, fun _ k hk => by simp at hk, fun l hl => by simp [lapsM] at hl⟩
    · intro h
      exact List.length_eq_zero_iff.mp (by rw [h.len]; simp)
  | i + 1, hi', ks => by
    have hlen : (ns.take (i + 1)).length = i + 1 := by rw [List.length_take]; omega
    have hlen0 : (ns.take i).length = i := by rw [List.length_take]; omega
    constructor
    · intro h
      obtain ⟨k1, k2⟩ := lrUp_KS lo hi ns (i + 1) ks h
      have h' : ks ∈ lrNext lo hi ns i (lrUp lo hi ns i) := h
      unfold lrNext at h'
      obtain ⟨h1, h0⟩ := List.mem_filter.mp h'
      obtain ⟨ks0, h2, h3⟩ := List.mem_flatMap.mp h1
      obtain ⟨c, h4, rfl⟩ := List.mem_map.mp h3
      have ih := (lrUp_mem lo hi ns i (by omega) ks0).mp h2
      refine ⟨by rw [k2, hlen], k1, fun _ k hk => ?_, List.all_eq_true.mp h0⟩
      cases ks0 with
      | nil =>
        have hi0 : i = 0 := by have := ih.len; rw [hlen0] at this; simpa using this.symm
        have : c = 108 := by unfold sgn at h4; rw [if_pos hi0] at h4; simpa using h4
        have hk' : c = k := by simpa using hk
        rw [← hk', this]
      | cons a r => exact ih.hd rfl k (by simpa using hk)
    · intro h
      have hks : ks.length = i + 1 := by rw [h.len, hlen]
      have hne : ks ≠ [] := fun e => by rw [e] at hks; simp at hks
      obtain ⟨ks0, c, rfl⟩ : ∃ ks0 c, ks = ks0 ++ [c] := ⟨ks.dropLast, ks.getLast hne, (List.dropLast_concat_getLast hne).symm⟩
      have hl0 : ks0.length = i := by simpa using hks
      refine List.mem_filter.mpr ⟨List.mem_flatMap.mpr ⟨ks0, (lrUp_mem lo hi ns i (by omega) ks0).mpr ⟨by rw [hl0, hlen0], fun x hx => h.al x (List.mem_append_left _ hx), fun _ k hk => ?_, fun l hl => h.ok l (laps_take c i ns ks0 0 hl0 l hl)⟩, List.mem_map.mpr ⟨c, ?_, rfl⟩⟩, List.all_eq_true.mpr h.ok⟩
      · cases ks0 with
        | nil => simp at hk
        | cons a r => exact h.hd rfl k (by simpa using hk)
      · unfold sgn
        split
        · rename_i h0
          have : ks0 = [] := List.length_eq_zero_iff.mp (by omega)
          subst this
          have := h.hd rfl c (by simp)
          rw [this]; simp
        · rcases h.al c (by simp) with e | e <;> rw [e] <;> simp
theorem lrUp_nodup (lo hi : Int) (ns : List Int) : ∀ i, (lrUp lo hi ns i).Nodup
  | 0 => by simp [lrUp]
  | i + 1 => by
    show (lrNext lo hi ns i (lrUp lo hi ns i)).Nodup
    unfold lrNext
    refine List.Pairwise.filter _ ?_
    show List.Nodup _
    have hs : (sgn i).Nodup := by unfold sgn; split <;> simp
    have ih := lrUp_nodup lo hi ns i
    generalize lrUp lo hi ns i = fd at ih ⊢
    induction fd with
    | nil => simp
    | cons ks fd ih2 =>
      obtain ⟨h1, h2⟩ := List.nodup_cons.mp ih
      rw [List.flatMap_cons]
      refine List.nodup_append.mpr ⟨?_, ih2 h2, fun a ha b hb => ?_⟩
      · exact List.pairwise_map.mpr (hs.imp fun {x y} h e => h (by simpa using e))
      · obtain ⟨c, _, rfl⟩ := List.mem_map.mp ha
        obtain ⟨ks2, h3, h4⟩ := List.mem_flatMap.mp hb
        obtain ⟨c2, _, rfl⟩ := List.mem_map.mp h4
        intro e
        have : ks = ks2 := (List.append_inj' e rfl).1
        exact h1 (this ▸ h3)
theorem perm_of {α : Type} [DecidableEq α] {l m : List α} (hl : l.Nodup) (hm : m.Nodup) (h : ∀ x, x ∈ l ↔ x ∈ m) : l.Perm m := by
  rw [List.perm_iff_count]
  intro a
  by_cases ha : a ∈ l
  · rw [hl.count, hm.count, if_pos ha, if_pos ((h a).mp ha)]
  · rw [hl.count, hm.count, if_neg ha, if_neg fun h2 => ha ((h a).mpr h2)]
theorem isort_of {l m : List (List Nat)} (hl : l.Nodup) (hm : m.Pairwise (· < ·)) (h : ∀ x, x ∈ l ↔ x ∈ m) : isort ltS l = m := by
  have hmn : m.Nodup := hm.imp fun {a b} h e => by subst e; exact List.lt_irrefl _ h
  refine (isort_uniq swoS antiS (perm_of hmn hl fun x => (h x).symm) (hm.imp fun {a b} h => ?_)).symm
  exact decide_eq_false (List.lt_asymm h)
theorem strsOf_map : ∀ ss : List (List Nat), strsOf (ss.map D.str) = some ss
  | [] => rfl
  | s :: ss => by show (strsOf (ss.map D.str)).map (s :: ·) = _; rw [strsOf_map ss]; rfl
theorem sort_strs (ss : List (List Nat)) : sortD [lstS ss] = .ok (lstS (isort ltS ss)) := by
  cases ss with
  | nil => rfl
  | cons s ss =>
    have e1 : intsOf (D.str s :: ss.map D.str) = none := rfl
    have e2 : strsOf (D.str s :: ss.map D.str) = some (s :: ss) := strsOf_map (s :: ss)
    show sortD [.lst (D.str s :: ss.map D.str)] = _
    unfold sortD
    dsimp only
    rw [e1]
    dsimp only
    rw [e2]
theorem lr_1 (lo hi : Int) (ns : List Int) (i : Nat) (a b : Option D) : ∀ (fd lg : List (List Nat)) (g5 g6 : Option D), lg.length + 2 * fd.length < 1000000 → (∀ ks ∈ fd, ks.length < 1000) →
    ∃ g5' g6', forL (gtN 5) B__law_readings_1 (fd.map D.str) [a, b, some (lstS fd0), some (.int (i : Nat)), some (lstS lg), g5, g6] = .next [a, b, some (lstS fd0), some (.int (i : Nat)), some (lstS (lg ++ fd.flatMap fun ks => (sgn i).map fun c => ks ++ [c])), g5', g6'] := by
  intro fd
  induction fd with
  | nil => exact fun lg g5 g6 _ _ => ⟨g5, g6, by rw [List.map_nil, List.flatMap_nil, List.append_nil, forL_nil]⟩
  | cons ks fd ih =>
    intro lg g5 g6 hl hk
    rw [List.length_cons] at hl
    have hs := sgn_len i
    obtain ⟨y5, y6, h1⟩ := ih (lg ++ (sgn i).map fun c => ks ++ [c]) (some (.str ks)) g6 (by rw [List.length_append, List.length_map]; omega) fun z hz => hk z (List.mem_cons_of_mem _ hz)
    have hk0 := hk ks (List.mem_cons_self ..)
    refine ⟨y5, y6, (forL_step (gtN_eq ..) ?_).trans (h1.trans ?_)⟩
    · have hc := compL_map (f := fun c : Nat => D.str [c]) (g := gtN 6) (c := tTrue) (e := eBin addD (eVar 5) (eVar 6)) (ρ := [a, b, some (lstS fd0), some (.int (i : Nat)), some (lstS lg), some (.str ks), none]) (fun _ => true) (fun c => D.str (ks ++ [c])) (sgn i) fun c _ => by
        refine ⟨_, gtN_eq .., rfl, fun _ => ?_⟩
        simp only [ev_seq, ev_nil, ev_set, ev_ret, ev_if, ev_for, forI_ok, ev_varS, ev_var0, ev_cst, ev_un, ev_bin, ev_eif, ev_tst, blD_bl, ev_tval, ev_cmp, ev_chn, ev_tnot, ev_tand, ev_tor, ev_anil, ev_acons, ev_args, ev_eand, ev_eor, notD_bl, addD_int, subD_int, negD_int, ltD_int, leD_int, gtD_int, geD_int, eqD_int, neD_int, ev_app, lstOf_lst, dctOf_dct, ev_par2, noX_ok, ev_unp, gtN_eq, gtT2, tup2, tup1, tup0, lst0, lst1, idx_pair0, idx_pair1, thn_next, thn_ret, thn_exc, thn_bad, res_next, res_ret, cnd_ok, env_ok, out_ok, bind_ok, forB_ok, setAll_cons, setAll_nil, List.set_cons_succ, List.set_cons_zero, ev_dset, ev_daug, ev_get2, getOr_int, dctOf_I, ev_comp, wipeE_cons, wipeE_nil, ev_slice, ev_onone, ev_osome, intOf_int, ev_ttrue, ev_count, strOf_str, cntS_ch, revD_tup]
        exact add_str (by simp; omega)
      have e1 : ((sgn i).filter fun _ => true).map (fun c => D.str (ks ++ [c])) = ((sgn i).map fun c => ks ++ [c]).map D.str := by
        rw [List.filter_eq_self.mpr fun _ _ => rfl, List.map_map]
        rfl
      rw [e1] at hc
      have e2 : lstD (((sgn i).map fun c => ks ++ [c]).map D.str) = .ok (lstS ((sgn i).map fun c => ks ++ [c])) := lst_ok (by rw [List.length_map]; omega)
      have e3 : addD (lstS lg) (lstS ((sgn i).map fun c => ks ++ [c])) = .ok (lstS (lg ++ (sgn i).map fun c => ks ++ [c])) := by
        show (if (lg.map D.str).length + (((sgn i).map fun c => ks ++ [c]).map D.str).length ≤ LIM then _ else _) = _
        rw [if_pos (by rw [List.length_map, List.length_map, List.length_map]; unfold LIM; omega), ← List.map_append]
      have e4 : itemsD (.str (sgn i)) = .ok ((sgn i).map fun c => D.str [c]) := rfl
      by_cases hi0 : i = 0
      · have t1 : decide ((i : Int) = 0) = true := decide_eq_true (by omega)
        have es : sgn i = [108] := if_pos hi0
        rw [es] at hc e2 e3 e4 ⊢
        simp only [B__law_readings_1, C__law_readings_1, ev_seq, ev_nil, ev_set, ev_ret, ev_if, ev_for, forI_ok, ev_varS, ev_var0, ev_cst, ev_un, ev_bin, ev_eif, ev_tst, blD_bl, ev_tval, ev_cmp, ev_chn, ev_tnot, ev_tand, ev_tor, ev_anil, ev_acons, ev_args, ev_eand, ev_eor, notD_bl, addD_int, subD_int, negD_int, ltD_int, leD_int, gtD_int, geD_int, eqD_int, neD_int, ev_app, lstOf_lst, dctOf_dct, ev_par2, noX_ok, ev_unp, gtN_eq, gtT2, tup2, tup1, tup0, lst0, lst1, idx_pair0, idx_pair1, thn_next, thn_ret, thn_exc, thn_bad, res_next, res_ret, cnd_ok, env_ok, out_ok, bind_ok, forB_ok, setAll_cons, setAll_nil, List.set_cons_succ, List.set_cons_zero, ev_dset, ev_daug, ev_get2, getOr_int, dctOf_I, ev_comp, wipeE_cons, wipeE_nil, ev_slice, ev_onone, ev_osome, intOf_int, ev_ttrue, ev_count, strOf_str, cntS_ch, revD_tup, t1, if_true, e4, hc, e2, e3]
      · have t1 : decide ((i : Int) = 0) = false := decide_eq_false (by omega)
        have es : sgn i = [108, 116] := if_neg hi0
        rw [es] at hc e2 e3 e4 ⊢
        simp only [B__law_readings_1, C__law_readings_1, ev_seq, ev_nil, ev_set, ev_ret, ev_if, ev_for, forI_ok, ev_varS, ev_var0, ev_cst, ev_un, ev_bin, ev_eif, ev_tst, blD_bl, ev_tval, ev_cmp, ev_chn, ev_tnot, ev_tand, ev_tor, ev_anil, ev_acons, ev_args, ev_eand, ev_eor, notD_bl, addD_int, subD_int, negD_int, ltD_int, leD_int, gtD_int, geD_int, eqD_int, neD_int, ev_app, lstOf_lst, dctOf_dct, ev_par2, noX_ok, ev_unp, gtN_eq, gtT2, tup2, tup1, tup0, lst0, lst1, idx_pair0, idx_pair1, thn_next, thn_ret, thn_exc, thn_bad, res_next, res_ret, cnd_ok, env_ok, out_ok, bind_ok, forB_ok, setAll_cons, setAll_nil, List.set_cons_succ, List.set_cons_zero, ev_dset, ev_daug, ev_get2, getOr_int, dctOf_I, ev_comp, wipeE_cons, wipeE_nil, ev_slice, ev_onone, ev_osome, intOf_int, ev_ttrue, ev_count, strOf_str, cntS_ch, revD_tup, t1, Bool.false_eq_true, if_false, e4, hc, e2, e3]
    · rw [List.flatMap_cons, List.append_assoc]
theorem lr_2 (lo hi : Int) (ns : List Int) (hn : ns.length ≤ 14) : ∀ (m i : Nat) (g4 g5 g6 g3 : Option D), i + m = ns.length →
    ∃ g3' g4' g5' g6', forL (gtN 3) B__law_readings_2 ((List.range' i m).map fun k => .int (k : Nat)) [some (pr lo hi), some (tupI ns), some (lstS (lrUp lo hi ns i)), g3, g4, g5, g6] = .next [some (pr lo hi), some (tupI ns), some (lstS (lrUp lo hi ns ns.length)), g3', g4', g5', g6'] := by
  intro m
  induction m with
  | zero => exact fun i g4 g5 g6 g3 h => ⟨g3, g4, g5, g6, by rw [show ns.length = i by omega]; rfl⟩
  | succ m ih =>
    intro i g4 g5 g6 g3 h
    have hL := lrUp_len lo hi ns i
    have h14 : 2 ^ i ≤ 2 ^ 14 := Nat.pow_le_pow_right (by decide) (by omega)
    have hF := flat_len i (lrUp lo hi ns i)
    have hFil := List.length_filter_le (fun ks => (lapsM 0 (ns.take (i + 1)) ks).all (okR lo hi)) ((lrUp lo hi ns i).flatMap fun ks => (sgn i).map fun c => ks ++ [c])
    have hKS := lrUp_KS lo hi ns i
    obtain ⟨x5, x6, h1⟩ := lr_1 (fd0 := lrUp lo hi ns i) lo hi ns i (some (pr lo hi)) (some (tupI ns)) (lrUp lo hi ns i) [] g5 g6 (by simp; omega) (fun ks hk => by have := (hKS ks hk).2; omega)
    obtain ⟨y3, y4, y5, y6, h2⟩ := ih (i + 1) (some (lstS ((lrUp lo hi ns i).flatMap fun ks => (sgn i).map fun c => ks ++ [c]))) x5 x6 (some (.int (i : Nat))) (by omega)
    refine ⟨y3, y4, y5, y6, ?_⟩
    rw [List.range'_succ, List.map_cons]
    refine (forL_step (gtN_eq ..) ?_).trans h2
    have hc := compL_map (f := D.str) (g := gtN 5) (c := tVal (eArgs S__law_good (aCons (eVar 0) (aCons (eSlice (eVar 1) oNone (oSome (eBin addD (eVar 3) (eCst (.int 1))))) (aCons (eVar 5) aNil))))) (e := eVar 5) (ρ := [some (pr lo hi), some (tupI ns), some (lstS (lrUp lo hi ns i)), some (.int (i : Nat)), some (lstS ((lrUp lo hi ns i).flatMap fun ks => (sgn i).map fun c => ks ++ [c])), none, x6]) (fun ks => (lapsM 0 (ns.take (i + 1)) ks).all (okR lo hi)) D.str ((lrUp lo hi ns i).flatMap fun ks => (sgn i).map fun c => ks ++ [c]) fun ks hk => by
      refine ⟨_, gtN_eq .., ?_, fun _ => rfl⟩
      have hks : KS ks := by
        obtain ⟨ks0, h2, h3⟩ := List.mem_flatMap.mp hk
        obtain ⟨c, h4, rfl⟩ := List.mem_map.mp h3
        intro x hx
        rcases List.mem_append.mp hx with hx | hx
        · exact (hKS ks0 h2).1 x hx
        · rw [List.mem_singleton.mp hx]; exact sgn_KS h4
      have e1 : (i : Int) + 1 = ((i + 1 : Nat) : Int) := rfl
      have e2 : sliceD (tupI ns) none (some ((i + 1 : Nat) : Int)) = .ok (tupI (ns.take (i + 1))) := by rw [slT_to, ← List.map_take]
      simp only [ev_seq, ev_nil, ev_set, ev_ret, ev_if, ev_for, forI_ok, ev_varS, ev_var0, ev_cst, ev_un, ev_bin, ev_eif, ev_tst, blD_bl, ev_tval, ev_cmp, ev_chn, ev_tnot, ev_tand, ev_tor, ev_anil, ev_acons, ev_args, ev_eand, ev_eor, notD_bl, addD_int, subD_int, negD_int, ltD_int, leD_int, gtD_int, geD_int, eqD_int, neD_int, ev_app, lstOf_lst, dctOf_dct, ev_par2, noX_ok, ev_unp, gtN_eq, gtT2, tup2, tup1, tup0, lst0, lst1, idx_pair0, idx_pair1, thn_next, thn_ret, thn_exc, thn_bad, res_next, res_ret, cnd_ok, env_ok, out_ok, bind_ok, forB_ok, setAll_cons, setAll_nil, List.set_cons_succ, List.set_cons_zero, ev_dset, ev_daug, ev_get2, getOr_int, dctOf_I, ev_comp, wipeE_cons, wipeE_nil, ev_slice, ev_onone, ev_osome, intOf_int, ev_ttrue, ev_count, strOf_str, cntS_ch, revD_tup, e1, e2, good_ok lo hi (ns.take (i + 1)) ks hks (by rw [List.length_take]; omega)]
    have e0 : D.lst [] = lstS [] := rfl
    have ei : itemsD (lstS (lrUp lo hi ns i)) = .ok ((lrUp lo hi ns i).map D.str) := rfl
    have ei2 : itemsD (lstS ((lrUp lo hi ns i).flatMap fun ks => (sgn i).map fun c => ks ++ [c])) = .ok (((lrUp lo hi ns i).flatMap fun ks => (sgn i).map fun c => ks ++ [c]).map D.str) := rfl
    rw [List.nil_append] at h1
    simp only [B__law_readings_2, C__law_readings_2, ev_seq, ev_nil, ev_set, ev_ret, ev_if, ev_for, forI_ok, ev_varS, ev_var0, ev_cst, ev_un, ev_bin, ev_eif, ev_tst, blD_bl, ev_tval, ev_cmp, ev_chn, ev_tnot, ev_tand, ev_tor, ev_anil, ev_acons, ev_args, ev_eand, ev_eor, notD_bl, addD_int, subD_int, negD_int, ltD_int, leD_int, gtD_int, geD_int, eqD_int, neD_int, ev_app, lstOf_lst, dctOf_dct, ev_par2, noX_ok, ev_unp, gtN_eq, gtT2, tup2, tup1, tup0, lst0, lst1, idx_pair0, idx_pair1, thn_next, thn_ret, thn_exc, thn_bad, res_next, res_ret, cnd_ok, env_ok, out_ok, bind_ok, forB_ok, setAll_cons, setAll_nil, List.set_cons_succ, List.set_cons_zero, ev_dset, ev_daug, ev_get2, getOr_int, dctOf_I, ev_comp, wipeE_cons, wipeE_nil, ev_slice, ev_onone, ev_osome, intOf_int, ev_ttrue, ev_count, strOf_str, cntS_ch, revD_tup, e0, ei, h1, ei2, hc]
    rw [lst_ok (by omega)]
    simp only [ev_seq, ev_nil, ev_set, ev_ret, ev_if, ev_for, forI_ok, ev_varS, ev_var0, ev_cst, ev_un, ev_bin, ev_eif, ev_tst, blD_bl, ev_tval, ev_cmp, ev_chn, ev_tnot, ev_tand, ev_tor, ev_anil, ev_acons, ev_args, ev_eand, ev_eor, notD_bl, addD_int, subD_int, negD_int, ltD_int, leD_int, gtD_int, geD_int, eqD_int, neD_int, ev_app, lstOf_lst, dctOf_dct, ev_par2, noX_ok, ev_unp, gtN_eq, gtT2, tup2, tup1, tup0, lst0, lst1, idx_pair0, idx_pair1, thn_next, thn_ret, thn_exc, thn_bad, res_next, res_ret, cnd_ok, env_ok, out_ok, bind_ok, forB_ok, setAll_cons, setAll_nil, List.set_cons_succ, List.set_cons_zero, ev_dset, ev_daug, ev_get2, getOr_int, dctOf_I, ev_comp, wipeE_cons, wipeE_nil, ev_slice, ev_onone, ev_osome, intOf_int, ev_ttrue, ev_count, strOf_str, cntS_ch, revD_tup]
    rfl
theorem readings_ok (lo hi : Int) (ns : List Int) (hn : ns.length ≤ 14) : S__law_readings [pr lo hi, tupI ns] = .ok (lstS (rd lo hi 0 true ns)) := by
  obtain ⟨y3, y4, y5, y6, h1⟩ := lr_2 lo hi ns hn ns.length 0 none none none none (by omega)
  rw [R__law_readings]
  rw [← List.range_eq_range'] at h1
  have e0 : lstD [.str []] = .ok (lstS [[]]) := rfl
  have e1 : lstS (lrUp lo hi ns 0) = lstS [[]] := rfl
  rw [e1] at h1
  simp only [B__law_readings, ev_seq, ev_nil, ev_set, ev_ret, ev_if, ev_for, forI_ok, ev_varS, ev_var0, ev_cst, ev_un, ev_bin, ev_eif, ev_tst, blD_bl, ev_tval, ev_cmp, ev_chn, ev_tnot, ev_tand, ev_tor, ev_anil, ev_acons, ev_args, ev_eand, ev_eor, notD_bl, addD_int, subD_int, negD_int, ltD_int, leD_int, gtD_int, geD_int, eqD_int, neD_int, ev_app, lstOf_lst, dctOf_dct, ev_par2, noX_ok, ev_unp, gtN_eq, gtT2, tup2, tup1, tup0, lst0, lst1, idx_pair0, idx_pair1, thn_next, thn_ret, thn_exc, thn_bad, res_next, res_ret, cnd_ok, env_ok, out_ok, bind_ok, forB_ok, setAll_cons, setAll_nil, List.set_cons_succ, List.set_cons_zero, ev_dset, ev_daug, ev_get2, getOr_int, dctOf_I, ev_comp, wipeE_cons, wipeE_nil, ev_slice, ev_onone, ev_osome, intOf_int, ev_ttrue, ev_count, strOf_str, cntS_ch, revD_tup, e0, len_tupI, rng1_eq (show ns.length < 1000000000 by omega), h1, sort_strs]
  congr 2
  rw [isort_of (lrUp_nodup lo hi ns ns.length) (rd_sorted lo hi ns 0 true) fun ks => by
    rw [lrUp_mem lo hi ns ns.length (Nat.le_refl _), List.take_length, mem_rd]]
end PL
set_option Elab.async false
set_option linter.all false
set_option maxRecDepth 100000
set_option maxHeartbeats 4000000
namespace PL
open PySem PySem.Spec PyProof.Rows L2
def tmM (t : Int) : List Int → List Nat → Int
  | n :: ns, k :: ks => tmM (if k = 108 then t + n else n) ns ks
  | _, _ => t
theorem row_mem (lo hi : Int) : ∀ (m : Nat) (ns : List Int) (row : List (Int × Int)) (f : Bool) (r : List (Int × Int)), m ≤ ns.length → (fwRows lo hi row f ns)[m]? = some r →
    ∀ t, t ∈ keys r ↔ ∃ t0 ∈ keys row, ∃ ks ∈ rd lo hi t0 f (ns.take m), tmM t0 (ns.take m) ks = t
  | 0, ns, row, f, r, _, hr, t => by
    rw [fwRows_zero] at hr
    cases hr
    simp [rd, tmM]
  | m + 1, [], row, f, r, h, hr, t => by simp at h
  | m + 1, n :: ns, row, f, r, h, hr, t => by
    have hr' : (fwRows lo hi (fwNext lo hi n f [] row) false ns)[m]? = some r := hr
    rw [row_mem lo hi m ns _ false r (by simpa using h) hr' t]
    constructor
    · rintro ⟨t1, h1, ks, h2, h3⟩
      rcases (fwNext_mem lo hi n f t1 row []).mp h1 with h4 | ⟨t0, h4, e, h5, rfl⟩
      · simp [keys] at h4
      · refine ⟨t0, h4, e.1 :: ks, ?_, ?_⟩
        · show e.1 :: ks ∈ (stepsM lo hi t0 n f).flatMap fun e => (rd lo hi e.2 false (ns.take m)).map (e.1 :: ·)
          exact List.mem_flatMap.mpr ⟨e, h5, List.mem_map.mpr ⟨ks, h2, rfl⟩⟩
        · rw [← h3]
          show tmM (if e.1 = 108 then t0 + n else n) (ns.take m) ks = tmM e.2 (ns.take m) ks
          rcases mem_steps.mp h5 with ⟨_, rfl⟩ | ⟨_, _, rfl⟩
          · rw [if_pos rfl]
          · rw [if_neg (show ¬ (116 : Nat) = 108 by decide)]
    · rintro ⟨t0, h1, ks, h2, h3⟩
      have h2' : ks ∈ (stepsM lo hi t0 n f).flatMap fun e => (rd lo hi e.2 false (ns.take m)).map (e.1 :: ·) := h2
      obtain ⟨e, h4, h5⟩ := List.mem_flatMap.mp h2'
      obtain ⟨ks', h6, rfl⟩ := List.mem_map.mp h5
      refine ⟨e.2, (fwNext_mem lo hi n f e.2 row []).mpr (.inr ⟨t0, h1, e, h4, rfl⟩), ks', h6, ?_⟩
      rw [← h3]
      show tmM e.2 (ns.take m) ks' = tmM (if e.1 = 108 then t0 + n else n) (ns.take m) ks'
      rcases mem_steps.mp h4 with ⟨_, rfl⟩ | ⟨_, _, rfl⟩
      · rw [if_pos rfl]
      · rw [if_neg (show ¬ (116 : Nat) = 108 by decide)]
theorem row_mem0 {lo hi : Int} {m : Nat} {ns : List Int} {r : List (Int × Int)} (hm : m ≤ ns.length) (hr : (fwRows lo hi [(0, 1)] true ns)[m]? = some r) (t : Int) :
    t ∈ keys r ↔ ∃ ks ∈ rd lo hi 0 true (ns.take m), tmM 0 (ns.take m) ks = t := by
  rw [row_mem lo hi m ns [(0, 1)] true r hm hr t]
  simp [keys]
theorem keys_nil {r : List (Int × Int)} : keys r = [] ↔ r = [] := by unfold keys; exact List.map_eq_nil_iff
theorem row_empty {lo hi : Int} {m : Nat} {ns : List Int} {r : List (Int × Int)} (hm : m ≤ ns.length) (hr : (fwRows lo hi [(0, 1)] true ns)[m]? = some r) : r = [] ↔ rd lo hi 0 true (ns.take m) = [] := by
  rw [← keys_nil]
  constructor
  · intro h
    rw [List.eq_nil_iff_forall_not_mem]
    intro ks hk
    have : tmM 0 (ns.take m) ks ∈ keys r := (row_mem0 hm hr _).mpr ⟨ks, hk, rfl⟩
    rw [h] at this
    simp at this
  · intro h
    rw [List.eq_nil_iff_forall_not_mem]
    intro t ht
    obtain ⟨ks, hk, _⟩ := (row_mem0 hm hr t).mp ht
    rw [h] at hk
    simp at hk
theorem rd_prefix (lo hi : Int) : ∀ (m : Nat) (ns : List Int) (t : Int) (f : Bool), rd lo hi t f ns ≠ [] → rd lo hi t f (ns.take m) ≠ []
  | 0, ns, t, f, _ => by simp [rd]
  | m + 1, [], t, f, h => by simpa using h
  | m + 1, n :: ns, t, f, h => by
    obtain ⟨ks, hk⟩ := List.exists_mem_of_ne_nil _ h
    have hk' : ks ∈ (stepsM lo hi t n f).flatMap fun e => (rd lo hi e.2 false ns).map (e.1 :: ·) := hk
    obtain ⟨e, h4, h5⟩ := List.mem_flatMap.mp hk'
    obtain ⟨ks', h6, rfl⟩ := List.mem_map.mp h5
    obtain ⟨ks2, h7⟩ := List.exists_mem_of_ne_nil _ (rd_prefix lo hi m ns e.2 false (List.ne_nil_of_mem h6))
    have : e.1 :: ks2 ∈ rd lo hi t f ((n :: ns).take (m + 1)) := by
      show e.1 :: ks2 ∈ (stepsM lo hi t n f).flatMap fun e => (rd lo hi e.2 false (ns.take m)).map (e.1 :: ·)
      exact List.mem_flatMap.mpr ⟨e, h4, List.mem_map.mpr ⟨ks2, h7, rfl⟩⟩
    exact List.ne_nil_of_mem this
theorem emptyD_I (r : List (Int × Int)) : emptyD (dctI r) (.dct []) = .ok r.isEmpty := by
  show Res.ok (r.map kvD).isEmpty = _
  cases r <;> rfl
theorem fw_all (a b : Option D) : ∀ (rows : List (List (Int × Int))) (k : Nat) (g2 g3 : Option D), (∀ r ∈ rows, r ≠ []) →
    ∃ g2' g3', forL (gtT [2, 3]) B_first_wrong_1 ((enI k rows).map (enD dctI)) [a, b, g2, g3] = .next [a, b, g2', g3'] := by
  intro rows
  induction rows with
  | nil => exact fun k g2 g3 _ => ⟨g2, g3, rfl⟩
  | cons r rows ih =>
    intro k g2 g3 h
    obtain ⟨y2, y3, h1⟩ := ih (k + 1) (some (.int (k : Nat))) (some (dctI r)) fun z hz => h z (List.mem_cons_of_mem _ hz)
    refine ⟨y2, y3, (forL_step rfl ?_).trans h1⟩
    have : r.isEmpty = false := by
      have := h r (List.mem_cons_self ..)
      cases r with
      | nil => exact absurd rfl this
      | cons _ _ => rfl
    simp only [B_first_wrong_1, ev_seq, ev_nil, ev_set, ev_ret, ev_if, ev_for, forI_ok, ev_varS, ev_var0, ev_cst, ev_un, ev_bin, ev_eif, ev_tst, blD_bl, ev_tval, ev_cmp, ev_chn, ev_tnot, ev_tand, ev_tor, ev_anil, ev_acons, ev_args, ev_eand, ev_eor, notD_bl, addD_int, subD_int, negD_int, ltD_int, leD_int, gtD_int, geD_int, eqD_int, neD_int, ev_app, lstOf_lst, dctOf_dct, ev_par2, noX_ok, ev_unp, gtN_eq, gtT2, tup2, tup1, tup0, lst0, lst1, idx_pair0, idx_pair1, thn_next, thn_ret, thn_exc, thn_bad, res_next, res_ret, cnd_ok, env_ok, out_ok, bind_ok, forB_ok, setAll_cons, setAll_nil, List.set_cons_succ, List.set_cons_zero, ev_dset, ev_daug, ev_get2, getOr_int, dctOf_I, ev_comp, wipeE_cons, wipeE_nil, ev_slice, ev_onone, ev_osome, intOf_int, ev_ttrue, ev_count, strOf_str, cntS_ch, revD_tup, emptyD_I, this, Bool.false_eq_true, if_false]
theorem fw_one (a b : Option D) : ∀ (pre : List (List (Int × Int))) (k : Nat) (post : List (List (Int × Int))) (g2 g3 : Option D), (∀ r ∈ pre, r ≠ []) →
    forL (gtT [2, 3]) B_first_wrong_1 ((enI k (pre ++ [] :: post)).map (enD dctI)) [a, b, g2, g3] = .ret (.int (((k + pre.length : Nat) : Int) - 1)) := by
  intro pre
  induction pre with
  | nil =>
    intro k post g2 g3 _
    refine forL_ret rfl ?_
    simp only [B_first_wrong_1, ev_seq, ev_nil, ev_set, ev_ret, ev_if, ev_for, forI_ok, ev_varS, ev_var0, ev_cst, ev_un, ev_bin, ev_eif, ev_tst, blD_bl, ev_tval, ev_cmp, ev_chn, ev_tnot, ev_tand, ev_tor, ev_anil, ev_acons, ev_args, ev_eand, ev_eor, notD_bl, addD_int, subD_int, negD_int, ltD_int, leD_int, gtD_int, geD_int, eqD_int, neD_int, ev_app, lstOf_lst, dctOf_dct, ev_par2, noX_ok, ev_unp, gtN_eq, gtT2, tup2, tup1, tup0, lst0, lst1, idx_pair0, idx_pair1, thn_next, thn_ret, thn_exc, thn_bad, res_next, res_ret, cnd_ok, env_ok, out_ok, bind_ok, forB_ok, setAll_cons, setAll_nil, List.set_cons_succ, List.set_cons_zero, ev_dset, ev_daug, ev_get2, getOr_int, dctOf_I, ev_comp, wipeE_cons, wipeE_nil, ev_slice, ev_onone, ev_osome, intOf_int, ev_ttrue, ev_count, strOf_str, cntS_ch, revD_tup, emptyD_I, List.isEmpty_nil, if_true]
    rfl
  | cons r pre ih =>
    intro k post g2 g3 h
    have h1 := ih (k + 1) post (some (.int (k : Nat))) (some (dctI r)) fun z hz => h z (List.mem_cons_of_mem _ hz)
    refine (forL_step rfl ?_).trans (h1.trans ?_)
    · have : r.isEmpty = false := by
        have := h r (List.mem_cons_self ..)
        cases r with
        | nil => exact absurd rfl this
        | cons _ _ => rfl
      simp only [B_first_wrong_1, ev_seq, ev_nil, ev_set, ev_ret, ev_if, ev_for, forI_ok, ev_varS, ev_var0, ev_cst, ev_un, ev_bin, ev_eif, ev_tst, blD_bl, ev_tval, ev_cmp, ev_chn, ev_tnot, ev_tand, ev_tor, ev_anil, ev_acons, ev_args, ev_eand, ev_eor, notD_bl, addD_int, subD_int, negD_int, ltD_int, leD_int, gtD_int, geD_int, eqD_int, neD_int, ev_app, lstOf_lst, dctOf_dct, ev_par2, noX_ok, ev_unp, gtN_eq, gtT2, tup2, tup1, tup0, lst0, lst1, idx_pair0, idx_pair1, thn_next, thn_ret, thn_exc, thn_bad, res_next, res_ret, cnd_ok, env_ok, out_ok, bind_ok, forB_ok, setAll_cons, setAll_nil, List.set_cons_succ, List.set_cons_zero, ev_dset, ev_daug, ev_get2, getOr_int, dctOf_I, ev_comp, wipeE_cons, wipeE_nil, ev_slice, ev_onone, ev_osome, intOf_int, ev_ttrue, ev_count, strOf_str, cntS_ch, revD_tup, emptyD_I, this, Bool.false_eq_true, if_false]
    · rw [List.length_cons, show k + 1 + pre.length = k + (pre.length + 1) by omega]
theorem first_none {lo hi : Int} {ns : List Int} (hn : ns.length < 900) (h : rd lo hi 0 true ns ≠ []) : S_first_wrong [pr lo hi, tupI ns] = .ok .non := by
  have hlen := fwRows_len lo hi ns [(0, 1)] true
  obtain ⟨y2, y3, h1⟩ := fw_all (some (pr lo hi)) (some (tupI ns)) (fwRows lo hi [(0, 1)] true ns) 0 none none fun r hr => by
    obtain ⟨m, hm, rfl⟩ := List.getElem_of_mem hr
    have e : (fwRows lo hi [(0, 1)] true ns)[m]? = some (fwRows lo hi [(0, 1)] true ns)[m] := List.getElem?_eq_getElem hm
    intro h2
    exact rd_prefix lo hi m ns 0 true h ((row_empty (by omega) e).mp h2)
  rw [R_first_wrong]
  simp only [B_first_wrong, ev_seq, ev_nil, ev_set, ev_ret, ev_if, ev_for, forI_ok, ev_varS, ev_var0, ev_cst, ev_un, ev_bin, ev_eif, ev_tst, blD_bl, ev_tval, ev_cmp, ev_chn, ev_tnot, ev_tand, ev_tor, ev_anil, ev_acons, ev_args, ev_eand, ev_eor, notD_bl, addD_int, subD_int, negD_int, ltD_int, leD_int, gtD_int, geD_int, eqD_int, neD_int, ev_app, lstOf_lst, dctOf_dct, ev_par2, noX_ok, ev_unp, gtN_eq, gtT2, tup2, tup1, tup0, lst0, lst1, idx_pair0, idx_pair1, thn_next, thn_ret, thn_exc, thn_bad, res_next, res_ret, cnd_ok, env_ok, out_ok, bind_ok, forB_ok, setAll_cons, setAll_nil, List.set_cons_succ, List.set_cons_zero, ev_dset, ev_daug, ev_get2, getOr_int, dctOf_I, ev_comp, wipeE_cons, wipeE_nil, ev_slice, ev_onone, ev_osome, intOf_int, ev_ttrue, ev_count, strOf_str, cntS_ch, revD_tup, forward_eq lo hi ns hn, enum_lst, h1]
theorem first_some {lo hi : Int} {ns : List Int} (hn : ns.length < 900) {a : Nat} (ha : a < ns.length) (h : rd lo hi 0 true (ns.take (a + 1)) = []) (h2 : rd lo hi 0 true (ns.take a) ≠ []) : S_first_wrong [pr lo hi, tupI ns] = .ok (.int (a : Nat)) := by
  have hlen := fwRows_len lo hi ns [(0, 1)] true
  have e1 : (fwRows lo hi [(0, 1)] true ns)[a + 1]? = some (fwRows lo hi [(0, 1)] true ns)[a + 1] := List.getElem?_eq_getElem (by omega)
  have e2 := (row_empty (by omega) e1).mpr h
  have e3 : fwRows lo hi [(0, 1)] true ns = (fwRows lo hi [(0, 1)] true ns).take (a + 1) ++ [] :: (fwRows lo hi [(0, 1)] true ns).drop (a + 2) := by
    have := (List.take_append_drop (a + 1) (fwRows lo hi [(0, 1)] true ns)).symm
    rw [List.drop_eq_getElem_cons (show a + 1 < (fwRows lo hi [(0, 1)] true ns).length by omega), e2] at this
    exact this
  have h1 := fw_one (some (pr lo hi)) (some (tupI ns)) ((fwRows lo hi [(0, 1)] true ns).take (a + 1)) 0 ((fwRows lo hi [(0, 1)] true ns).drop (a + 2)) none none fun r hr => by
    obtain ⟨m, hm, h4⟩ := List.getElem_of_mem hr
    have hm' : m < a + 1 := by rw [List.length_take] at hm; omega
    rw [List.getElem_take] at h4
    have e : (fwRows lo hi [(0, 1)] true ns)[m]? = some r := by rw [← h4]; exact List.getElem?_eq_getElem (by omega)
    intro h5
    have h6 := (row_empty (by omega) e).mp h5
    have h7 := rd_prefix lo hi m (ns.take a) 0 true h2
    rw [List.take_take, Nat.min_eq_left (by omega)] at h7
    exact h7 h6
  rw [← e3] at h1
  have e4 : (((0 + ((fwRows lo hi [(0, 1)] true ns).take (a + 1)).length : Nat) : Int) - 1) = (a : Nat) := by
    rw [List.length_take]
    omega
  rw [e4] at h1
  rw [R_first_wrong]
  simp only [B_first_wrong, ev_seq, ev_nil, ev_set, ev_ret, ev_if, ev_for, forI_ok, ev_varS, ev_var0, ev_cst, ev_un, ev_bin, ev_eif, ev_tst, blD_bl, ev_tval, ev_cmp, ev_chn, ev_tnot, ev_tand, ev_tor, ev_anil, ev_acons, ev_args, ev_eand, ev_eor, notD_bl, addD_int, subD_int, negD_int, ltD_int, leD_int, gtD_int, geD_int, eqD_int, neD_int, ev_app, lstOf_lst, dctOf_dct, ev_par2, noX_ok, ev_unp, gtN_eq, gtT2, tup2, tup1, tup0, lst0, lst1, idx_pair0, idx_pair1, thn_next, thn_ret, thn_exc, thn_bad, res_next, res_ret, cnd_ok, env_ok, out_ok, bind_ok, forB_ok, setAll_cons, setAll_nil, List.set_cons_succ, List.set_cons_zero, ev_dset, ev_daug, ev_get2, getOr_int, dctOf_I, ev_comp, wipeE_cons, wipeE_nil, ev_slice, ev_onone, ev_osome, intOf_int, ev_ttrue, ev_count, strOf_str, cntS_ch, revD_tup, forward_eq lo hi ns hn, enum_lst, h1]
theorem laps_noted : ∀ (ls : List Int) (ks : List Nat) (t : Int), ks.length = ls.length → lapsM t (notedM t ls ks) ks = ls
  | [], ks, t, h => by
    cases ks with
    | nil => rfl
    | cons _ _ => simp at h
  | l :: ls, [], t, h => by simp at h
  | l :: ls, k :: ks, t, h => by
    have ih := laps_noted ls ks (t + l) (by simpa using h)
    by_cases hk : k = 108
    · subst hk
      show ((if 108 = 108 then t + (if 108 = 108 then l else t + l) else _) - t) :: lapsM _ (notedM (t + l) ls ks) ks = _
      rw [if_pos rfl, if_pos rfl, ih]
      congr 1
      omega
    · show ((if k = 108 then t + (if k = 108 then l else t + l) else (if k = 108 then l else t + l)) - t) :: lapsM (if k = 108 then t + (if k = 108 then l else t + l) else (if k = 108 then l else t + l)) (notedM (t + l) ls ks) ks = _
      simp only [if_neg hk]
      rw [ih]
      congr 1
      omega
theorem noted_len : ∀ (ls : List Int) (ks : List Nat) (t : Int), ks.length = ls.length → (notedM t ls ks).length = ls.length
  | [], ks, t, h => by cases ks <;> rfl
  | l :: ls, [], t, h => by simp at h
  | l :: ls, k :: ks, t, h => by
    show (notedM (t + l) ls ks).length + 1 = ls.length + 1
    rw [noted_len ls ks (t + l) (by simpa using h)]
theorem noted_rdg {lo hi : Int} {ls : List Int} {ks : List Nat} (hl : ks.length = ls.length) (hk : KS ks) (h0 : ∀ k ∈ ks.head?, k = 108) (hr : ∀ l ∈ ls, lo ≤ l ∧ l ≤ hi) : Rdg lo hi 0 true (notedM 0 ls ks) ks := by
  refine ⟨by rw [noted_len ls ks 0 hl, hl], hk, fun _ => h0, fun l h => ?_⟩
  rw [laps_noted ls ks 0 hl] at h
  have := hr l h
  unfold okR
  rw [decide_eq_true this.1, decide_eq_true this.2]
  rfl
theorem noted_bnd {lo hi : Int} (h1 : 1 ≤ lo) : ∀ (ls : List Int) (ks : List Nat) (t : Int), 0 ≤ t → (∀ l ∈ ls, lo ≤ l ∧ l ≤ hi) → ∀ n ∈ notedM t ls ks, 1 ≤ n ∧ n ≤ t + hi * (ls.length : Nat)
  | [], ks, t, h0, hr, n, hn => by cases ks <;> simp [notedM] at hn
  | l :: ls, [], t, h0, hr, n, hn => by simp [notedM] at hn
  | l :: ls, k :: ks, t, h0, hr, n, hn => by
    have hl := hr l (List.mem_cons_self ..)
    have hp : (0 : Int) ≤ hi * (ls.length : Nat) := Int.mul_nonneg (by omega) (by omega)
    have e : hi * ((l :: ls).length : Nat) = hi * (ls.length : Nat) + hi := by
      rw [List.length_cons, Int.natCast_add, Int.mul_add]
      simp
    rw [e]
    rcases List.mem_cons.mp (show n ∈ (if k = 108 then l else t + l) :: notedM (t + l) ls ks from hn) with h | h
    · rw [h]; split <;> omega
    · have := noted_bnd h1 ls ks (t + l) (by omega) (fun x hx => hr x (List.mem_cons_of_mem _ hx)) n h
      omega
structure Made (lo hi : Int) (many : Nat) (ns : List Int) (ks : List Nat) : Prop where
  len : ns.length = many
  rdg : Rdg lo hi 0 true ns ks
  bnd : ∀ n ∈ ns, 1 ≤ n ∧ n ≤ hi * (many : Nat) + 1
theorem made_ok {ds es : List Int} (h0 : 0 < ds.length) (h0' : 0 < es.length) {b : Int} (hb : 0 < b) (hd : inR b ds) {lo hi : Int} (h1 : 1 ≤ lo) (hlh : lo ≤ hi) (many : Nat) (hm : many < 10000) :
    ∃ ls ns, S__law_lengths [lstI ds, pr lo hi, .int (many : Nat)] = .ok (tupI ls) ∧ S__law_kinds [lstI es, .int (many : Nat)] = .ok (.str ((List.range many).map (kg es))) ∧ S__law_noted [tupI ls, .str ((List.range many).map (kg es))] = .ok (tupI ns) ∧
      ls.length = many ∧ (∀ l ∈ ls, lo ≤ l ∧ l ≤ hi) ∧ ns = notedM 0 ls ((List.range many).map (kg es)) ∧ Made lo hi many ns ((List.range many).map (kg es)) := by
  obtain ⟨ls, e1, l1, l2⟩ := lengths_ok h0 hb hd lo hi hlh many hm
  have hk : KS ((List.range many).map (kg es)) := fun c hc => by
    obtain ⟨j, _, rfl⟩ := List.mem_map.mp hc
    exact kg_or es j
  have hl : ((List.range many).map (kg es)).length = ls.length := by rw [List.length_map, List.length_range, l1]
  refine ⟨ls, notedM 0 ls ((List.range many).map (kg es)), e1, kinds_ok h0' many hm, noted_ok ls _ hk (by omega), l1, l2, rfl, by rw [noted_len ls _ 0 hl, l1], noted_rdg hl hk (fun k h => ?_) l2, fun n hn => ?_⟩
  · cases many with
    | zero => simp at h
    | succ m =>
      rw [List.range_succ_eq_map, List.map_cons] at h
      have : kg es 0 = k := by simpa using h
      rw [← this]
      exact if_pos (.inl rfl)
  · have := noted_bnd h1 ls _ 0 (Int.le_refl 0) l2 n hn
    rw [l1] at this
    omega
theorem forL_keep {g : D → Env → Res Env} {b : Env → Out} {P : Env → Prop} : ∀ (ds : List D) (ρ : Env), (∀ d ∈ ds, ∀ ρ, P ρ → ∃ ρ1 ρ2, g d ρ = .ok ρ1 ∧ b ρ1 = .next ρ2 ∧ P ρ2) → P ρ → ∃ ρ', forL g b ds ρ = .next ρ' ∧ P ρ'
  | [], ρ, _, h => ⟨ρ, rfl, h⟩
  | d :: ds, ρ, hb, h => by
    obtain ⟨ρ1, ρ2, h1, h2, h3⟩ := hb d (List.mem_cons_self ..) ρ h
    obtain ⟨ρ', h4, h5⟩ := forL_keep ds ρ2 (fun x hx => hb x (List.mem_cons_of_mem _ hx)) h3
    exact ⟨ρ', (forL_step h1 h2).trans h4, h5⟩
end PL
set_option Elab.async false
set_option linter.all false
set_option maxRecDepth 100000
set_option maxHeartbeats 4000000
namespace PL
open PySem PySem.Spec PyProof.Rows L2
def fwAt (lo hi : Int) (ns : List Int) (m : Nat) : List (Int × Int) := ((fwRows lo hi [(0, 1)] true ns)[m]?).getD []
theorem fwAt_get {lo hi : Int} {ns : List Int} {m : Nat} (h : m ≤ ns.length) : (fwRows lo hi [(0, 1)] true ns)[m]? = some (fwAt lo hi ns m) := by
  have hlen := fwRows_len lo hi ns [(0, 1)] true
  unfold fwAt
  rw [List.getElem?_eq_getElem (by omega)]
  rfl
theorem bw_idx {lo hi : Int} {ns : List Int} {m : Nat} (h : m ≤ ns.length) : idxD (.lst ((bwRows lo hi ns).map dctI)) (.int (m : Nat)) = .ok (dctI (bwRow lo hi ns m (fwAt lo hi ns m))) := idx_lst (by
  unfold bwRows
  rw [List.getElem?_map, List.getElem?_map, List.getElem?_range (by omega)]
  show some (dctI (((fwRows lo hi [(0, 1)] true ns)[m]?.map (bwRow lo hi ns m)).getD [])) = _
  rw [fwAt_get h]
  rfl)
theorem fwAt_nodup (lo hi : Int) {ns : List Int} {m : Nat} (h : m ≤ ns.length) : (keys (fwAt lo hi ns m)).Nodup :=
  fwRows_nodup lo hi ns [(0, 1)] true (by simp [keys]) _ (List.mem_of_getElem? (fwAt_get h))
theorem keys_bw (lo hi : Int) (ns : List Int) (m : Nat) (r : List (Int × Int)) : keys (bwRow lo hi ns m r) = keys r := keys_pairs (fun t => ((cnt lo hi t (isF true m) (ns.drop m) : Nat) : Int)) (keys r)
theorem get_bw {lo hi : Int} {ns : List Int} {m : Nat} {r : List (Int × Int)} {t : Int} (h : t ∈ keys r) : getI (bwRow lo hi ns m r) t = some ((cnt lo hi t (isF true m) (ns.drop m) : Nat) : Int) :=
  getI_map_keys (f := fun t => ((cnt lo hi t (isF true m) (ns.drop m) : Nat) : Int)) h
def ptS (lo hi : Int) (ns : List Int) (m : Nat) : List Int := (keys (fwAt lo hi ns m)).filter fun t => decide ((0 : Int) < (cnt lo hi t (isF true m) (ns.drop m) : Nat))
theorem intsOf_map : ∀ ns : List Int, intsOf (ns.map D.int) = some ns
  | [] => rfl
  | n :: ns => by show (intsOf (ns.map D.int)).map (n :: ·) = _; rw [intsOf_map ns]; rfl
theorem sort_ints (ns : List Int) : sortD [lstI ns] = .ok (lstI (isort ltI ns)) := by
  show (match intsOf (ns.map D.int) with | some ns => Res.ok (D.lst ((isort ltI ns).map D.int)) | none => _) = _
  rw [intsOf_map]
theorem fwAt_len (lo hi : Int) {ns : List Int} {m : Nat} (h : m ≤ ns.length) : (fwAt lo hi ns m).length ≤ 1 + ns.length :=
  fwRows_lens lo hi ns [(0, 1)] true _ (List.mem_of_getElem? (fwAt_get h))
theorem possible_eq (lo hi : Int) (ns : List Int) (a : Nat) (ha : a < ns.length) (hn : ns.length < 900) : S_possible_times [pr lo hi, tupI ns, .int (a : Nat)] = .ok (lstI (isort ltI (ptS lo hi ns (a + 1)))) := by
  rw [R_possible_times]
  have e1 : (a : Int) + 1 = ((a + 1 : Nat) : Int) := rfl
  have hc := compL_map (f := D.int) (g := gtN 4) (c := tCmp gtD (eBin idxD (eVar 3) (eVar 4)) (eCst (.int 0))) (e := eVar 4) (ρ := [some (pr lo hi), some (tupI ns), some (.int (a : Nat)), some (dctI (bwRow lo hi ns (a + 1) (fwAt lo hi ns (a + 1)))), none])
    (fun t => decide ((0 : Int) < (cnt lo hi t (isF true (a + 1)) (ns.drop (a + 1)) : Nat))) D.int (keys (fwAt lo hi ns (a + 1))) fun t ht => by
      refine ⟨_, gtN_eq .., ?_, fun _ => rfl⟩
      simp only [ev_seq, ev_nil, ev_set, ev_ret, ev_if, ev_for, forI_ok, ev_varS, ev_var0, ev_cst, ev_un, ev_bin, ev_eif, ev_tst, blD_bl, ev_tval, ev_cmp, ev_chn, ev_tnot, ev_tand, ev_tor, ev_anil, ev_acons, ev_args, ev_eand, ev_eor, notD_bl, addD_int, subD_int, negD_int, ltD_int, leD_int, gtD_int, geD_int, eqD_int, neD_int, ev_app, lstOf_lst, dctOf_dct, ev_par2, noX_ok, ev_unp, gtN_eq, gtT2, tup2, tup1, tup0, lst0, lst1, idx_pair0, idx_pair1, thn_next, thn_ret, thn_exc, thn_bad, res_next, res_ret, cnd_ok, env_ok, out_ok, bind_ok, forB_ok, setAll_cons, setAll_nil, List.set_cons_succ, List.set_cons_zero, ev_dset, ev_daug, ev_get2, getOr_int, dctOf_I, ev_comp, wipeE_cons, wipeE_nil, ev_slice, ev_onone, ev_osome, intOf_int, ev_ttrue, ev_count, strOf_str, cntS_ch, revD_tup, idx_dct (get_bw ht)]
  have hl := fwAt_len lo hi (ns := ns) (m := a + 1) (by omega)
  have h2 := List.length_filter_le (fun t => decide ((0 : Int) < (cnt lo hi t (isF true (a + 1)) (ns.drop (a + 1)) : Nat))) (keys (fwAt lo hi ns (a + 1)))
  have h3 : (keys (fwAt lo hi ns (a + 1))).length = (fwAt lo hi ns (a + 1)).length := by unfold keys; rw [List.length_map]
  have h4 : (ptS lo hi ns (a + 1)).length ≤ 1000000 := by unfold ptS; omega
  simp only [B_possible_times, C_possible_times_1, ev_seq, ev_nil, ev_set, ev_ret, ev_if, ev_for, forI_ok, ev_varS, ev_var0, ev_cst, ev_un, ev_bin, ev_eif, ev_tst, blD_bl, ev_tval, ev_cmp, ev_chn, ev_tnot, ev_tand, ev_tor, ev_anil, ev_acons, ev_args, ev_eand, ev_eor, notD_bl, addD_int, subD_int, negD_int, ltD_int, leD_int, gtD_int, geD_int, eqD_int, neD_int, ev_app, lstOf_lst, dctOf_dct, ev_par2, noX_ok, ev_unp, gtN_eq, gtT2, tup2, tup1, tup0, lst0, lst1, idx_pair0, idx_pair1, thn_next, thn_ret, thn_exc, thn_bad, res_next, res_ret, cnd_ok, env_ok, out_ok, bind_ok, forB_ok, setAll_cons, setAll_nil, List.set_cons_succ, List.set_cons_zero, ev_dset, ev_daug, ev_get2, getOr_int, dctOf_I, ev_comp, wipeE_cons, wipeE_nil, ev_slice, ev_onone, ev_osome, intOf_int, ev_ttrue, ev_count, strOf_str, cntS_ch, revD_tup, backward_eq lo hi ns hn, e1, bw_idx (show a + 1 ≤ ns.length by omega), keys_kv, keys_bw, hc]
  show (Res.out (((lstD ((ptS lo hi ns (a + 1)).map D.int)).bind fun x => Res.ok [x]).bind sortD)).res = _
  rw [lst_ok h4]
  simp only [ev_seq, ev_nil, ev_set, ev_ret, ev_if, ev_for, forI_ok, ev_varS, ev_var0, ev_cst, ev_un, ev_bin, ev_eif, ev_tst, blD_bl, ev_tval, ev_cmp, ev_chn, ev_tnot, ev_tand, ev_tor, ev_anil, ev_acons, ev_args, ev_eand, ev_eor, notD_bl, addD_int, subD_int, negD_int, ltD_int, leD_int, gtD_int, geD_int, eqD_int, neD_int, ev_app, lstOf_lst, dctOf_dct, ev_par2, noX_ok, ev_unp, gtN_eq, gtT2, tup2, tup1, tup0, lst0, lst1, idx_pair0, idx_pair1, thn_next, thn_ret, thn_exc, thn_bad, res_next, res_ret, cnd_ok, env_ok, out_ok, bind_ok, forB_ok, setAll_cons, setAll_nil, List.set_cons_succ, List.set_cons_zero, ev_dset, ev_daug, ev_get2, getOr_int, dctOf_I, ev_comp, wipeE_cons, wipeE_nil, ev_slice, ev_onone, ev_osome, intOf_int, ev_ttrue, ev_count, strOf_str, cntS_ch, revD_tup, sort_ints]
theorem fwRows_lens2 (lo hi : Int) : ∀ (ns : List Int) (row : List (Int × Int)) (m : Nat) (r : List (Int × Int)), (fwRows lo hi row false ns)[m]? = some r → r.length ≤ row.length + m
  | [], row, m, r, hr => by
    cases m with
    | zero => have : row = r := by simpa [fwRows] using hr
              rw [this]; omega
    | succ m => simp [fwRows] at hr
  | n :: ns, row, 0, r, hr => by
    have : row = r := by simpa [fwRows] using hr
    rw [this]; omega
  | n :: ns, row, m + 1, r, hr => by
    have h1 := fwRows_lens2 lo hi ns (fwNext lo hi n false [] row) m r (by simpa [fwRows] using hr)
    have h2 := fwNext_len1 lo hi n false row
    omega
theorem fwAt_len2 (lo hi : Int) {ns : List Int} {m : Nat} (h : m < ns.length) : (fwAt lo hi ns (m + 1)).length ≤ m + 1 := by
  have hg := fwAt_get (lo := lo) (hi := hi) (ns := ns) (m := m + 1) (by omega)
  cases ns with
  | nil => simp at h
  | cons n ns =>
    have hg' : (fwRows lo hi (fwNext lo hi n true [] [(0, 1)]) false ns)[m]? = some (fwAt lo hi (n :: ns) (m + 1)) := by simpa [fwRows] using hg
    have h1 := fwRows_lens2 lo hi ns _ m _ hg'
    have h2 : (fwNext lo hi n true [] [(0, 1)]).length ≤ 1 := by
      show (fwAdd 1 [] (stepsM lo hi 0 n true)).length ≤ 1
      have h3 := fwAdd_len 1 (stepsM lo hi 0 n true) []
      have h4 : (stepsM lo hi 0 n true).length ≤ 1 := by
        unfold stepsM
        split <;> simp
      simp at h3
      omega
    omega
theorem ptS_len (lo hi : Int) {ns : List Int} {a : Nat} (h : a < ns.length) : (isort ltI (ptS lo hi ns (a + 1))).length ≤ a + 1 := by
  rw [(isort_perm ltI _).length_eq]
  have h1 := fwAt_len2 lo hi h
  have h2 := List.length_filter_le (fun t => decide ((0 : Int) < (cnt lo hi t (isF true (a + 1)) (ns.drop (a + 1)) : Nat))) (keys (fwAt lo hi ns (a + 1)))
  have h3 : (keys (fwAt lo hi ns (a + 1))).length = (fwAt lo hi ns (a + 1)).length := by unfold keys; rw [List.length_map]
  unfold ptS
  omega
end PL
set_option Elab.async false
set_option linter.all false
set_option maxRecDepth 100000
set_option maxHeartbeats 4000000
namespace PL
open PySem PySem.Spec PyProof.Rows L2
theorem rd_pos {lo hi t : Int} {f : Bool} {ns : List Int} : (decide ((0 : Int) < (cnt lo hi t f ns : Nat))) = !decide (rd lo hi t f ns = []) := by
  rw [← rd_cnt]
  cases rd lo hi t f ns with
  | nil => rfl
  | cons a l =>
    rw [decide_eq_false (show ¬ a :: l = [] from fun h => nomatch h), decide_eq_true (show (0 : Int) < ((a :: l).length : Nat) by rw [List.length_cons]; omega)]
    rfl
theorem lrd_nil (lo hi : Int) (ns : List Int) : eqD (lstS (rd lo hi 0 true ns)) (.lst []) = .ok (decide (rd lo hi 0 true ns = [])) := eq_nil plS (by decide) fun ks h => (rd_KS h).ok
theorem take_tup (ns : List Int) (k : Nat) : sliceD (tupI ns) none (some (k : Int)) = .ok (tupI (ns.take k)) := by rw [slT_to, ← List.map_take]
theorem drop_lst (ns : List Int) (k : Nat) : sliceD (lstI ns) (some (k : Int)) none = .ok (lstI (ns.drop k)) := by rw [slL_from, ← List.map_drop]
theorem inR.drop {b : Int} {ds : List Int} (h : inR b ds) (k : Nat) : inR b (ds.drop k) := fun d hd => h d (List.mem_of_mem_drop hd)
theorem tm_bnd {lo hi : Int} (h1 : 0 ≤ lo) (h2 : 0 ≤ hi) : ∀ (ns : List Int) (ks : List Nat) (t : Int), (∀ l ∈ lapsM t ns ks, okR lo hi l = true) → t ≤ tmM t ns ks ∧ tmM t ns ks ≤ t + hi * (ns.length : Nat)
  | [], ks, t, _ => by cases ks <;> simp [tmM]
  | n :: ns, [], t, _ => by
    have : (0 : Int) ≤ hi * ((n :: ns).length : Nat) := Int.mul_nonneg h2 (by omega)
    show t ≤ t ∧ t ≤ t + _
    omega
  | n :: ns, k :: ks, t, h => by
    have a1 := h ((if k = 108 then t + n else n) - t) (List.mem_cons_self ..)
    have ih := tm_bnd h1 h2 ns ks (if k = 108 then t + n else n) fun l hl => h l (List.mem_cons_of_mem _ hl)
    have e : hi * ((n :: ns).length : Nat) = hi * (ns.length : Nat) + hi := by
      rw [List.length_cons, Int.natCast_add, Int.mul_add]
      simp
    unfold okR at a1
    rw [Bool.and_eq_true] at a1
    have a2 := of_decide_eq_true a1.1
    have a3 := of_decide_eq_true a1.2
    rw [e]
    show t ≤ tmM (if k = 108 then t + n else n) ns ks ∧ tmM (if k = 108 then t + n else n) ns ks ≤ _
    omega
theorem laps_snoc : ∀ (ns : List Int) (ks : List Nat) (t x : Int) (k : Nat), ks.length = ns.length → lapsM t (ns ++ [x]) (ks ++ [k]) = lapsM t ns ks ++ [(if k = 108 then tmM t ns ks + x else x) - tmM t ns ks]
  | [], [], t, x, k, _ => rfl
  | [], _ :: _, t, x, k, h => by simp at h
  | _ :: _, [], t, x, k, h => by simp at h
  | n :: ns, j :: ks, t, x, k, h => by
    show _ :: lapsM (if j = 108 then t + n else n) (ns ++ [x]) (ks ++ [k]) = _ :: (lapsM (if j = 108 then t + n else n) ns ks ++ _)
    rw [laps_snoc ns ks _ x k (by simpa using h)]
    rfl
theorem big_last {lo hi : Int} (h1 : 1 ≤ lo) (ns : List Int) (x : Int) (hx : hi * ((ns.length : Nat) + 1) < x) (h0 : 0 ≤ hi) : rd lo hi 0 true (ns ++ [x]) = [] := by
  cases hh : rd lo hi 0 true (ns ++ [x]) with
  | nil => rfl
  | cons ks r =>
    exfalso
    have hk : Rdg lo hi 0 true (ns ++ [x]) ks := mem_rd.mp (by rw [hh]; exact List.mem_cons_self ..)
    have hl : ks.length = ns.length + 1 := by rw [hk.len]; simp
    have hne : ks ≠ [] := fun e => by rw [e] at hl; simp at hl
    obtain ⟨ks0, c, rfl⟩ : ∃ ks0 c, ks = ks0 ++ [c] := ⟨ks.dropLast, ks.getLast hne, (List.dropLast_concat_getLast hne).symm⟩
    have hok := hk.ok
    rw [laps_snoc ns ks0 0 x c (by simpa using hl)] at hok
    have h3 := tm_bnd (by omega) h0 ns ks0 0 fun l hl => hok l (List.mem_append_left _ hl)
    have h4 := hok _ (List.mem_append_right _ (List.mem_singleton.mpr rfl))
    unfold okR at h4
    rw [Bool.and_eq_true] at h4
    have h5 := of_decide_eq_true h4.2
    have h6 : hi * ((ns.length : Nat) + 1) = hi * (ns.length : Nat) + hi := by rw [Int.mul_add]; simp
    split at h5 <;> omega
theorem in_dct (k : Int) (w : List (Int × Int)) : inD (.int k) (dctI w) = .ok (decide (k ∈ keys w)) := by
  show Res.ok ((w.map kvD).any fun e => e.1 == k) = _
  congr 1
  rw [List.any_map, Bool.eq_iff_iff, List.any_eq_true, decide_eq_true_eq]
  constructor
  · rintro ⟨e, h1, h2⟩
    exact List.mem_map.mpr ⟨e, h1, eq_of_beq h2⟩
  · intro h
    obtain ⟨e, h1, h2⟩ := List.mem_map.mp h
    exact ⟨e, h1, beq_iff_eq.mpr h2⟩
theorem get_in : ∀ {w : List (Int × Int)} {k : Int}, k ∈ keys w → ∃ v, getI w k = some v ∧ (k, v) ∈ w
  | [], k, h => by simp [keys] at h
  | (a, v) :: w, k, h => by
    by_cases e : a = k
    · subst e
      exact ⟨v, by simp [getI], List.mem_cons_self ..⟩
    · have h' : k ∈ keys w := by
        rcases List.mem_cons.mp h with h | h
        · exact absurd h.symm e
        · exact h
      obtain ⟨v2, h1, h2⟩ := get_in h'
      refine ⟨v2, ?_, List.mem_cons_of_mem _ h2⟩
      have hb : (a == k) = false := beq_eq_false_iff_ne.mpr e
      unfold getI at h1 ⊢
      rw [List.find?_cons]
      dsimp only
      rw [hb]
      exact h1
theorem nodup_len {α : Type} [DecidableEq α] : ∀ (l m : List α), l.Nodup → (∀ x ∈ l, x ∈ m) → l.length ≤ m.length
  | [], m, _, _ => Nat.zero_le _
  | x :: l, m, hn, hs => by
    obtain ⟨h1, h2⟩ := List.nodup_cons.mp hn
    have hx : x ∈ m := hs x (List.mem_cons_self ..)
    have ih := nodup_len l (m.erase x) h2 fun y hy => (List.mem_erase_of_ne (fun e => h1 (by rw [← e]; exact hy))).mpr (hs y (List.mem_cons_of_mem _ hy))
    rw [List.length_erase_of_mem hx] at ih
    have := List.length_pos_of_mem hx
    rw [List.length_cons]
    omega
theorem okR_chn (lo hi x : Int) : (if decide (lo ≤ x) = true then Res.ok (decide (x ≤ hi)) else .ok false) = .ok (okR lo hi x) := by
  unfold okR
  by_cases h : lo ≤ x
  · rw [if_pos (decide_eq_true h), decide_eq_true h, Bool.true_and]
  · rw [if_neg (by simpa using h), decide_eq_false h, Bool.false_and]
theorem whL_stop {t : Env → Res Bool} {b : Env → Out} {n : Nat} {ρ : Env} (h : t ρ = .ok false) : whL t b (n + 1) ρ = .next ρ := by
  unfold whL
  rw [h]
theorem whL_go {t : Env → Res Bool} {b : Env → Out} {n : Nat} {ρ ρ2 : Env} (h : t ρ = .ok true) (h2 : b ρ = .next ρ2) : whL t b (n + 1) ρ = whL t b n ρ2 := by
  conv => lhs; unfold whL
  rw [h]
  dsimp only
  rw [h2]
theorem cnt_cons (lo hi t n : Int) (ns : List Int) : (cnt lo hi t false (n :: ns) : Int) = (if okR lo hi n = true then (cnt lo hi (t + n) false ns : Int) else 0) + (if okR lo hi (n - t) = true then (cnt lo hi n false ns : Int) else 0) := by
  show ((((stepsM lo hi t n false).map fun e => cnt lo hi e.2 false ns).sum : Nat) : Int) = _
  unfold stepsM
  by_cases h1 : okR lo hi n = true <;> by_cases h2 : okR lo hi (n - t) = true <;> simp [h1, h2]
theorem cnt_cons1 (lo hi n : Int) (ns : List Int) : (cnt lo hi 0 true (n :: ns) : Int) = if okR lo hi n = true then (cnt lo hi n false ns : Int) else 0 := by
  show ((((stepsM lo hi 0 n true).map fun e => cnt lo hi e.2 false ns).sum : Nat) : Int) = _
  unfold stepsM
  by_cases h1 : okR lo hi n = true <;> simp [h1]
theorem drop_dg {ns : List Int} {a : Nat} (h : a < ns.length) : ns.drop a = dg ns a :: ns.drop (a + 1) := by
  rw [List.drop_eq_getElem_cons h]
  congr 1
  exact Option.some.inj ((List.getElem?_eq_getElem h).symm.trans (dg_get h))
theorem idx_dgT {ns : List Int} {k : Nat} (h : k < ns.length) : idxD (tupI ns) (.int (k : Nat)) = .ok (.int (dg ns k)) := idx_ints (dg_get h)
end PL
set_option Elab.async false
set_option linter.all false
set_option maxRecDepth 100000
set_option maxHeartbeats 4000000
namespace PL
open PySem PySem.Spec PyProof.Rows L2
theorem step_tm {lo hi t n : Int} {f : Bool} {e : Nat × Int} (h : e ∈ stepsM lo hi t n f) : e.2 = if e.1 = 108 then t + n else n := by
  rcases mem_steps.mp h with ⟨_, rfl⟩ | ⟨_, _, rfl⟩
  · rw [if_pos rfl]
  · rw [if_neg (show ¬ (116 : Nat) = 108 by decide)]
theorem mem_rd_cons {lo hi t n : Int} {f : Bool} {ns : List Int} {ks : List Nat} : ks ∈ rd lo hi t f (n :: ns) ↔ ∃ e ∈ stepsM lo hi t n f, ∃ ks' ∈ rd lo hi e.2 false ns, ks = e.1 :: ks' := by
  show ks ∈ (stepsM lo hi t n f).flatMap (fun e => (rd lo hi e.2 false ns).map (e.1 :: ·)) ↔ _
  rw [List.mem_flatMap]
  constructor
  · rintro ⟨e, h1, h2⟩
    obtain ⟨ks', h3, h4⟩ := List.mem_map.mp h2
    exact ⟨e, h1, ks', h3, h4.symm⟩
  · rintro ⟨e, h1, ks', h3, h4⟩
    exact ⟨e, h1, List.mem_map.mpr ⟨ks', h3, h4.symm⟩⟩
theorem rd_split {lo hi : Int} : ∀ {xs ys : List Int} {t : Int} {f : Bool} {ks : List Nat}, ks ∈ rd lo hi t f (xs ++ ys) ↔ ∃ p q, ks = p ++ q ∧ p ∈ rd lo hi t f xs ∧ q ∈ rd lo hi (tmM t xs p) (f && xs.isEmpty) ys
  | [], ys, t, f, ks => by
    constructor
    · intro h
      exact ⟨[], ks, rfl, by simp [rd], by simpa [tmM] using h⟩
    · rintro ⟨p, q, rfl, hp, hq⟩
      have : p = [] := by simpa [rd] using hp
      subst this
      simpa [tmM] using hq
  | n :: xs, ys, t, f, ks => by
    have key : ∀ (e : Nat × Int), e ∈ stepsM lo hi t n f → ∀ p, tmM t (n :: xs) (e.1 :: p) = tmM e.2 xs p := fun e he p => by
      show tmM (if e.1 = 108 then t + n else n) xs p = _
      rw [step_tm he]
    have hf : (f && (n :: xs).isEmpty) = false := by simp
    rw [List.cons_append, mem_rd_cons, hf]
    constructor
    · rintro ⟨e, h1, ks', h2, rfl⟩
      obtain ⟨p, q, rfl, hp, hq⟩ := rd_split.mp h2
      refine ⟨e.1 :: p, q, rfl, mem_rd_cons.mpr ⟨e, h1, p, hp, rfl⟩, ?_⟩
      rw [key e h1]
      simpa using hq
    · rintro ⟨p, q, rfl, hp, hq⟩
      obtain ⟨e, h1, p', h2, rfl⟩ := mem_rd_cons.mp hp
      rw [key e h1] at hq
      exact ⟨e, h1, p' ++ q, rd_split.mpr ⟨p', q, rfl, h2, by simpa using hq⟩, rfl⟩
theorem rd_len {lo hi t : Int} {f : Bool} {ns : List Int} {ks : List Nat} (h : ks ∈ rd lo hi t f ns) : ks.length = ns.length := (mem_rd.mp h).len
theorem cnt_pos {lo hi t : Int} {f : Bool} {ns : List Int} : (0 : Int) < (cnt lo hi t f ns : Nat) ↔ ∃ ks, ks ∈ rd lo hi t f ns := by
  rw [← rd_cnt]
  constructor
  · intro h
    cases hh : rd lo hi t f ns with
    | nil => rw [hh] at h; simp at h
    | cons a l => exact ⟨a, List.mem_cons_self ..⟩
  · rintro ⟨ks, h⟩
    have := List.length_pos_of_mem h
    omega
theorem isF_take {m : Nat} {ns : List Int} (hm : m ≤ ns.length) : (true && (ns.take m).isEmpty) = isF true m := by
  unfold isF
  rw [Bool.true_and, Bool.true_and]
  cases m with
  | zero => simp
  | succ m =>
    cases ns with
    | nil => simp at hm
    | cons a l => simp
theorem mem_ptS {lo hi : Int} {ns : List Int} {m : Nat} (hm : m ≤ ns.length) {t : Int} : t ∈ ptS lo hi ns m ↔ ∃ ks ∈ rd lo hi 0 true ns, tmM 0 (ns.take m) (ks.take m) = t := by
  unfold ptS
  rw [List.mem_filter, row_mem0 hm (fwAt_get hm), decide_eq_true_eq, cnt_pos]
  have hl : (ns.take m).length = m := by rw [List.length_take]; omega
  constructor
  · rintro ⟨⟨p, hp, rfl⟩, q, hq⟩
    refine ⟨p ++ q, ?_, ?_⟩
    · have := rd_split (xs := ns.take m) (ys := ns.drop m) |>.mpr ⟨p, q, rfl, hp, by rw [isF_take hm]; exact hq⟩
      rw [List.take_append_drop] at this
      exact this
    · rw [List.take_left' (by rw [rd_len hp, hl])]
  · rintro ⟨ks, hk, rfl⟩
    have hk' : ks ∈ rd lo hi 0 true (ns.take m ++ ns.drop m) := by rw [List.take_append_drop]; exact hk
    obtain ⟨p, q, rfl, hp, hq⟩ := rd_split.mp hk'
    have e : (p ++ q).take m = p := List.take_left' (by rw [rd_len hp, hl])
    rw [e]
    exact ⟨⟨p, hp, rfl⟩, q, by rw [isF_take hm] at hq; exact hq⟩
def kAt (lo hi : Int) (ns : List Int) (i : Nat) : List Nat := (keys (fwAt lo hi ns i)).flatMap fun t => if (0 : Int) < (cnt lo hi t (isF true i) (ns.drop i) : Nat) then
  ((stepsM lo hi t (dg ns i) (isF true i)).filter fun e => decide ((0 : Int) < (cnt lo hi e.2 false (ns.drop (i + 1)) : Nat))).map (·.1) else []
theorem mem_kAt {lo hi : Int} {ns : List Int} {i : Nat} (hi' : i < ns.length) {c : Nat} : c ∈ kAt lo hi ns i ↔ ∃ ks ∈ rd lo hi 0 true ns, ks[i]? = some c := by
  have hl : (ns.take i).length = i := by rw [List.length_take]; omega
  unfold kAt
  rw [List.mem_flatMap]
  constructor
  · rintro ⟨t, ht, hc⟩
    obtain ⟨p, hp, rfl⟩ := (row_mem0 (by omega) (fwAt_get (by omega)) t).mp ht
    split at hc
    · obtain ⟨e, he, rfl⟩ := List.mem_map.mp hc
      obtain ⟨h1, h2⟩ := List.mem_filter.mp he
      obtain ⟨q, hq⟩ := cnt_pos.mp (of_decide_eq_true h2)
      refine ⟨p ++ e.1 :: q, ?_, ?_⟩
      · have h3 : e.1 :: q ∈ rd lo hi (tmM 0 (ns.take i) p) (true && (ns.take i).isEmpty) (ns.drop i) := by
          rw [isF_take (by omega), drop_dg hi']
          exact mem_rd_cons.mpr ⟨e, h1, q, hq, rfl⟩
        have := rd_split (xs := ns.take i) (ys := ns.drop i) |>.mpr ⟨p, e.1 :: q, rfl, hp, h3⟩
        rw [List.take_append_drop] at this
        exact this
      · rw [List.getElem?_append_right (by rw [rd_len hp, hl]; exact Nat.le_refl _), rd_len hp, hl]
        simp
    · simp at hc
  · rintro ⟨ks, hk, hc⟩
    have hk' : ks ∈ rd lo hi 0 true (ns.take i ++ ns.drop i) := by rw [List.take_append_drop]; exact hk
    obtain ⟨p, q, rfl, hp, hq⟩ := rd_split.mp hk'
    rw [isF_take (by omega), drop_dg hi'] at hq
    obtain ⟨e, h1, q', h2, rfl⟩ := mem_rd_cons.mp hq
    rw [List.getElem?_append_right (by rw [rd_len hp, hl]; exact Nat.le_refl _), rd_len hp, hl] at hc
    have hc' : e.1 = c := by simpa using hc
    refine ⟨tmM 0 (ns.take i) p, (row_mem0 (by omega) (fwAt_get (by omega)) _).mpr ⟨p, hp, rfl⟩, ?_⟩
    rw [if_pos (cnt_pos.mpr ⟨e.1 :: q', by rw [drop_dg hi']; exact mem_rd_cons.mpr ⟨e, h1, q', h2, rfl⟩⟩)]
    exact List.mem_map.mpr ⟨e, List.mem_filter.mpr ⟨h1, decide_eq_true (cnt_pos.mpr ⟨q', h2⟩)⟩, hc'⟩
def skc (l : List Nat) : Nat := if 108 ∈ l ∧ 116 ∈ l then 63 else l.headD 0
theorem kAt_or {lo hi : Int} {ns : List Int} {i : Nat} {c : Nat} (hi' : i < ns.length) (h : c ∈ kAt lo hi ns i) : c = 108 ∨ c = 116 := by
  obtain ⟨ks, hk, hc⟩ := (mem_kAt hi').mp h
  exact rd_KS hk c (List.mem_of_getElem? hc)
theorem kAt_ne {lo hi : Int} {ns : List Int} {i : Nat} (hi' : i < ns.length) (h : rd lo hi 0 true ns ≠ []) : kAt lo hi ns i ≠ [] := by
  obtain ⟨ks, hk⟩ := List.exists_mem_of_ne_nil _ h
  have hl := rd_len hk
  exact List.ne_nil_of_mem ((mem_kAt hi').mpr ⟨ks, hk, List.getElem?_eq_getElem (by omega)⟩)
end PL
set_option Elab.async false
set_option linter.all false
set_option maxRecDepth 100000
set_option maxHeartbeats 4000000
namespace PL
open PySem PySem.Spec PyProof.Rows L2
abbrev bwD (lo hi : Int) (ns : List Int) : D := .lst ((bwRows lo hi ns).map dctI)
theorem idx_bw {lo hi : Int} {ns : List Int} {m : Nat} (hm : m ≤ ns.length) {t : Int} (ht : t ∈ keys (fwAt lo hi ns m)) : idxD (dctI (bwRow lo hi ns m (fwAt lo hi ns m))) (.int t) = .ok (.int (cnt lo hi t (isF true m) (ns.drop m) : Nat)) := idx_dct (get_bw ht)
theorem fwAt_step {lo hi : Int} {ns : List Int} {i : Nat} (hi' : i < ns.length) {t : Int} (ht : t ∈ keys (fwAt lo hi ns i)) {e : Nat × Int} (he : e ∈ stepsM lo hi t (dg ns i) (isF true i)) : e.2 ∈ keys (fwAt lo hi ns (i + 1)) := by
  have h1 := fwRows_next lo hi ns [(0, 1)] true i (dg ns i) _ (dg_get hi') (fwAt_get (lo := lo) (hi := hi) (show i ≤ ns.length by omega))
  rw [fwAt_get (show i + 1 ≤ ns.length by omega)] at h1
  rw [Option.some.inj h1]
  exact (fwNext_mem lo hi (dg ns i) (isF true i) e.2 _ []).mpr (.inr ⟨t, ht, e, he, rfl⟩)
theorem isF_dec (i : Nat) : decide ((i : Int) = 0) = isF true i := by
  unfold isF
  rw [Bool.true_and]
  exact decide_eq_decide.mpr (by omega)
theorem isF_succ (i : Nat) : isF true (i + 1) = false := by simp [isF]
def skF (lo hi : Int) (ns : List Int) (i : Nat) (ps : List (Nat × Int)) : List Nat := (ps.filter fun e => decide ((0 : Int) < (cnt lo hi e.2 false (ns.drop (i + 1)) : Nat))).map (·.1)
theorem skF_len (lo hi : Int) (ns : List Int) (i : Nat) (ps : List (Nat × Int)) : (skF lo hi ns i ps).length ≤ ps.length := by
  unfold skF
  rw [List.length_map]
  exact List.length_filter_le _ _
theorem sk_1 (lo hi : Int) (ns : List Int) (i : Nat) (hi' : i < ns.length) (a b fd nt tm : Option D) : ∀ (ps : List (Nat × Int)) (s : List Nat) (g8 g9 : Option D), s.length + ps.length < 100000 → (∀ e ∈ ps, e.2 ∈ keys (fwAt lo hi ns (i + 1))) →
    ∃ g8' g9', forL (gtT [8, 9]) B_sure_kinds_1 (ps.map stD) [a, b, some (bwD lo hi ns), fd, some (.int (i : Nat)), nt, some (.str s), tm, g8, g9] = .next [a, b, some (bwD lo hi ns), fd, some (.int (i : Nat)), nt, some (.str (s ++ skF lo hi ns i ps)), tm, g8', g9'] := by
  intro ps
  induction ps with
  | nil => exact fun s g8 g9 _ _ => ⟨g8, g9, by simp [skF, forL_nil]⟩
  | cons e ps ih =>
    intro s g8 g9 hl he
    rw [List.length_cons] at hl
    have e1 : (i : Int) + 1 = ((i + 1 : Nat) : Int) := rfl
    have hk := he e (List.mem_cons_self ..)
    by_cases h : (0 : Int) < (cnt lo hi e.2 false (ns.drop (i + 1)) : Nat)
    · obtain ⟨y8, y9, h1⟩ := ih (s ++ [e.1]) (some (.str [e.1])) (some (.int e.2)) (by rw [List.length_append, List.length_singleton]; omega) fun x hx => he x (List.mem_cons_of_mem _ hx)
      refine ⟨y8, y9, (forL_step rfl ?_).trans (h1.trans ?_)⟩
      · simp only [B_sure_kinds_1, ev_seq, ev_nil, ev_set, ev_ret, ev_if, ev_for, forI_ok, ev_varS, ev_var0, ev_cst, ev_un, ev_bin, ev_eif, ev_tst, blD_bl, ev_tval, ev_cmp, ev_chn, ev_tnot, ev_tand, ev_tor, ev_anil, ev_acons, ev_args, ev_eand, ev_eor, notD_bl, addD_int, subD_int, negD_int, ltD_int, leD_int, gtD_int, geD_int, eqD_int, neD_int, ev_app, lstOf_lst, dctOf_dct, ev_par2, noX_ok, ev_unp, gtN_eq, gtT2, tup2, tup1, tup0, lst0, lst1, idx_pair0, idx_pair1, thn_next, thn_ret, thn_exc, thn_bad, res_next, res_ret, cnd_ok, env_ok, out_ok, bind_ok, forB_ok, setAll_cons, setAll_nil, List.set_cons_succ, List.set_cons_zero, ev_dset, ev_daug, ev_get2, getOr_int, dctOf_I, ev_comp, wipeE_cons, wipeE_nil, ev_slice, ev_onone, ev_osome, intOf_int, ev_ttrue, ev_count, strOf_str, cntS_ch, revD_tup, e1, bw_idx (show i + 1 ≤ ns.length by omega), idx_bw (show i + 1 ≤ ns.length by omega) hk, isF_succ, decide_eq_true h, if_true, add_str (show s.length + [e.1].length ≤ 1000000 by rw [List.length_singleton]; omega)]
      · have : skF lo hi ns i (e :: ps) = e.1 :: skF lo hi ns i ps := by
          unfold skF
          rw [List.filter_cons, if_pos (decide_eq_true h)]
          rfl
        rw [this, List.append_assoc]
        rfl
    · obtain ⟨y8, y9, h1⟩ := ih s (some (.str [e.1])) (some (.int e.2)) (by omega) fun x hx => he x (List.mem_cons_of_mem _ hx)
      refine ⟨y8, y9, (forL_step rfl ?_).trans (h1.trans ?_)⟩
      · simp only [B_sure_kinds_1, ev_seq, ev_nil, ev_set, ev_ret, ev_if, ev_for, forI_ok, ev_varS, ev_var0, ev_cst, ev_un, ev_bin, ev_eif, ev_tst, blD_bl, ev_tval, ev_cmp, ev_chn, ev_tnot, ev_tand, ev_tor, ev_anil, ev_acons, ev_args, ev_eand, ev_eor, notD_bl, addD_int, subD_int, negD_int, ltD_int, leD_int, gtD_int, geD_int, eqD_int, neD_int, ev_app, lstOf_lst, dctOf_dct, ev_par2, noX_ok, ev_unp, gtN_eq, gtT2, tup2, tup1, tup0, lst0, lst1, idx_pair0, idx_pair1, thn_next, thn_ret, thn_exc, thn_bad, res_next, res_ret, cnd_ok, env_ok, out_ok, bind_ok, forB_ok, setAll_cons, setAll_nil, List.set_cons_succ, List.set_cons_zero, ev_dset, ev_daug, ev_get2, getOr_int, dctOf_I, ev_comp, wipeE_cons, wipeE_nil, ev_slice, ev_onone, ev_osome, intOf_int, ev_ttrue, ev_count, strOf_str, cntS_ch, revD_tup, e1, bw_idx (show i + 1 ≤ ns.length by omega), idx_bw (show i + 1 ≤ ns.length by omega) hk, isF_succ, decide_eq_false h, Bool.false_eq_true, if_false]
      · have : skF lo hi ns i (e :: ps) = skF lo hi ns i ps := by
          unfold skF
          rw [List.filter_cons, if_neg (by simpa using h)]
        rw [this]
def kAtL (lo hi : Int) (ns : List Int) (i : Nat) (ts : List Int) : List Nat := ts.flatMap fun t => if (0 : Int) < (cnt lo hi t (isF true i) (ns.drop i) : Nat) then skF lo hi ns i (stepsM lo hi t (dg ns i) (isF true i)) else []
theorem sk_2 (lo hi : Int) (ns : List Int) (i : Nat) (hi' : i < ns.length) (fd : Option D) : ∀ (ts : List Int) (s : List Nat) (g7 g8 g9 : Option D), s.length + 2 * ts.length < 100000 → (∀ t ∈ ts, t ∈ keys (fwAt lo hi ns i)) →
    ∃ g7' g8' g9', forL (gtN 7) B_sure_kinds_2 (ts.map D.int) [some (pr lo hi), some (tupI ns), some (bwD lo hi ns), fd, some (.int (i : Nat)), some (.int (dg ns i)), some (.str s), g7, g8, g9] =
      .next [some (pr lo hi), some (tupI ns), some (bwD lo hi ns), fd, some (.int (i : Nat)), some (.int (dg ns i)), some (.str (s ++ kAtL lo hi ns i ts)), g7', g8', g9'] := by
  intro ts
  induction ts with
  | nil => exact fun s g7 g8 g9 _ _ => ⟨g7, g8, g9, by simp [kAtL, forL_nil]⟩
  | cons t ts ih =>
    intro s g7 g8 g9 hl ht
    rw [List.length_cons] at hl
    have hk := ht t (List.mem_cons_self ..)
    have h3 := stepsM_len lo hi t (dg ns i) (isF true i)
    by_cases h : (0 : Int) < (cnt lo hi t (isF true i) (ns.drop i) : Nat)
    · have h4 := skF_len lo hi ns i (stepsM lo hi t (dg ns i) (isF true i))
      obtain ⟨x8, x9, h0⟩ := sk_1 lo hi ns i hi' (some (pr lo hi)) (some (tupI ns)) fd (some (.int (dg ns i))) (some (.int t)) (stepsM lo hi t (dg ns i) (isF true i)) s g8 g9 (by omega) fun e he => fwAt_step hi' hk he
      obtain ⟨y7, y8, y9, h1⟩ := ih (s ++ skF lo hi ns i (stepsM lo hi t (dg ns i) (isF true i))) (some (.int t)) x8 x9 (by rw [List.length_append]; omega) fun x hx => ht x (List.mem_cons_of_mem _ hx)
      refine ⟨y7, y8, y9, (forL_step (gtN_eq ..) ?_).trans (h1.trans ?_)⟩
      · simp only [B_sure_kinds_2, ev_seq, ev_nil, ev_set, ev_ret, ev_if, ev_for, forI_ok, ev_varS, ev_var0, ev_cst, ev_un, ev_bin, ev_eif, ev_tst, blD_bl, ev_tval, ev_cmp, ev_chn, ev_tnot, ev_tand, ev_tor, ev_anil, ev_acons, ev_args, ev_eand, ev_eor, notD_bl, addD_int, subD_int, negD_int, ltD_int, leD_int, gtD_int, geD_int, eqD_int, neD_int, ev_app, lstOf_lst, dctOf_dct, ev_par2, noX_ok, ev_unp, gtN_eq, gtT2, tup2, tup1, tup0, lst0, lst1, idx_pair0, idx_pair1, thn_next, thn_ret, thn_exc, thn_bad, res_next, res_ret, cnd_ok, env_ok, out_ok, bind_ok, forB_ok, setAll_cons, setAll_nil, List.set_cons_succ, List.set_cons_zero, ev_dset, ev_daug, ev_get2, getOr_int, dctOf_I, ev_comp, wipeE_cons, wipeE_nil, ev_slice, ev_onone, ev_osome, intOf_int, ev_ttrue, ev_count, strOf_str, cntS_ch, revD_tup, bw_idx (show i ≤ ns.length by omega), idx_bw (show i ≤ ns.length by omega) hk, decide_eq_true h, if_true, isF_dec, steps_eq, itemsD, h0]
      · have : kAtL lo hi ns i (t :: ts) = skF lo hi ns i (stepsM lo hi t (dg ns i) (isF true i)) ++ kAtL lo hi ns i ts := by
          unfold kAtL
          rw [List.flatMap_cons, if_pos h]
        rw [this, List.append_assoc]
    · obtain ⟨y7, y8, y9, h1⟩ := ih s (some (.int t)) g8 g9 (by omega) fun x hx => ht x (List.mem_cons_of_mem _ hx)
      refine ⟨y7, y8, y9, (forL_step (gtN_eq ..) ?_).trans (h1.trans ?_)⟩
      · simp only [B_sure_kinds_2, ev_seq, ev_nil, ev_set, ev_ret, ev_if, ev_for, forI_ok, ev_varS, ev_var0, ev_cst, ev_un, ev_bin, ev_eif, ev_tst, blD_bl, ev_tval, ev_cmp, ev_chn, ev_tnot, ev_tand, ev_tor, ev_anil, ev_acons, ev_args, ev_eand, ev_eor, notD_bl, addD_int, subD_int, negD_int, ltD_int, leD_int, gtD_int, geD_int, eqD_int, neD_int, ev_app, lstOf_lst, dctOf_dct, ev_par2, noX_ok, ev_unp, gtN_eq, gtT2, tup2, tup1, tup0, lst0, lst1, idx_pair0, idx_pair1, thn_next, thn_ret, thn_exc, thn_bad, res_next, res_ret, cnd_ok, env_ok, out_ok, bind_ok, forB_ok, setAll_cons, setAll_nil, List.set_cons_succ, List.set_cons_zero, ev_dset, ev_daug, ev_get2, getOr_int, dctOf_I, ev_comp, wipeE_cons, wipeE_nil, ev_slice, ev_onone, ev_osome, intOf_int, ev_ttrue, ev_count, strOf_str, cntS_ch, revD_tup, bw_idx (show i ≤ ns.length by omega), idx_bw (show i ≤ ns.length by omega) hk, decide_eq_false h, Bool.false_eq_true, if_false]
      · have : kAtL lo hi ns i (t :: ts) = kAtL lo hi ns i ts := by
          unfold kAtL
          rw [List.flatMap_cons, if_neg h, List.nil_append]
        rw [this]
theorem in_ch (c : Nat) (s : List Nat) : inD (.str [c]) (.str s) = .ok (decide (c ∈ s)) := by
  show Res.ok (s.contains c) = _
  congr 1
  exact Bool.eq_iff_iff.mpr (List.contains_iff_mem.trans decide_eq_true_iff.symm)
theorem idx_ch {s : List Nat} {i : Nat} {c : Nat} (hl : s.length < 1000000) (h : s[i]? = some c) : idxD (.str s) (.int (i : Nat)) = .ok (.str [c]) := by
  have hi : i < s.length := (List.getElem?_eq_some_iff.mp h).1
  show (if s.length ≤ LIM then (match ixN s.length (i : Int) with | some j => (match s[j]? with | some c => Res.ok (D.str [c]) | none => .bad) | none => .bad) else .bad) = _
  rw [if_pos (by unfold LIM; omega), ixN_nat hi]
  dsimp only
  rw [h]
theorem sk_3 (lo hi : Int) (ns : List Int) (hn : ns.length < 900) (hr : rd lo hi 0 true ns ≠ []) : ∀ (m i : Nat) (s : List Nat) (g4 g5 g6 g7 g8 g9 : Option D), i + m = ns.length → s.length = i →
    ∃ g4' g5' g6' g7' g8' g9', forL (gtT [4, 5]) B_sure_kinds_3 ((enI i (ns.drop i)).map (enD D.int)) [some (pr lo hi), some (tupI ns), some (bwD lo hi ns), some (.str s), g4, g5, g6, g7, g8, g9] =
      .next [some (pr lo hi), some (tupI ns), some (bwD lo hi ns), some (.str (s ++ (List.range' i m).map fun i => skc (kAt lo hi ns i))), g4', g5', g6', g7', g8', g9'] := by
  intro m
  induction m with
  | zero =>
    intro i s g4 g5 g6 g7 g8 g9 h hs
    rw [show ns.drop i = [] from List.drop_eq_nil_of_le (by omega)]
    exact ⟨g4, g5, g6, g7, g8, g9, by simp [enI, forL_nil]⟩
  | succ m ih =>
    intro i s g4 g5 g6 g7 g8 g9 h hs
    have hi' : i < ns.length := by omega
    have hkl : (keys (fwAt lo hi ns i)).length ≤ 1 + ns.length := by
      have := fwAt_len lo hi (ns := ns) (m := i) (by omega)
      unfold keys
      rw [List.length_map]
      exact this
    obtain ⟨x7, x8, x9, h0⟩ := sk_2 lo hi ns i hi' (some (.str s)) (keys (fwAt lo hi ns i)) [] g7 g8 g9 (by simp; omega) fun t ht => ht
    have hK : kAtL lo hi ns i (keys (fwAt lo hi ns i)) = kAt lo hi ns i := rfl
    rw [hK, List.nil_append] at h0
    have hne := kAt_ne hi' hr
    obtain ⟨y4, y5, y6, y7, y8, y9, h1⟩ := ih (i + 1) (s ++ [skc (kAt lo hi ns i)]) (some (.int (i : Nat))) (some (.int (dg ns i))) (some (.str (kAt lo hi ns i))) x7 x8 x9 (by omega) (by simp [hs])
    rw [drop_dg hi']
    refine ⟨y4, y5, y6, y7, y8, y9, (forL_step rfl ?_).trans (h1.trans ?_)⟩
    · have hlen : (kAt lo hi ns i).length < 1000000 := by
        rw [← hK]
        have : ∀ ts : List Int, (kAtL lo hi ns i ts).length ≤ 2 * ts.length := by
          intro ts
          induction ts with
          | nil => simp [kAtL]
          | cons t ts ih2 =>
            have h3 := stepsM_len lo hi t (dg ns i) (isF true i)
            have h4 := skF_len lo hi ns i (stepsM lo hi t (dg ns i) (isF true i))
            unfold kAtL at ih2 ⊢
            rw [List.flatMap_cons, List.length_append, List.length_cons]
            split
            · omega
            · rw [List.length_nil]; omega
        have := this (keys (fwAt lo hi ns i))
        omega
      have e0 : idxD (.str (kAt lo hi ns i)) (.int 0) = .ok (.str [(kAt lo hi ns i).headD 0]) := idx_ch (i := 0) hlen (by
        cases hh : kAt lo hi ns i with
        | nil => exact absurd hh hne
        | cons a l => rfl)
      have ea : ∀ c : Nat, addD (.str s) (.str [c]) = .ok (.str (s ++ [c])) := fun c => add_str (by rw [List.length_singleton]; omega)
      by_cases h8 : 108 ∈ kAt lo hi ns i
      · by_cases h6 : 116 ∈ kAt lo hi ns i
        · have e1 : skc (kAt lo hi ns i) = 63 := if_pos ⟨h8, h6⟩
          simp only [B_sure_kinds_3, ev_seq, ev_nil, ev_set, ev_ret, ev_if, ev_for, forI_ok, ev_varS, ev_var0, ev_cst, ev_un, ev_bin, ev_eif, ev_tst, blD_bl, ev_tval, ev_cmp, ev_chn, ev_tnot, ev_tand, ev_tor, ev_anil, ev_acons, ev_args, ev_eand, ev_eor, notD_bl, addD_int, subD_int, negD_int, ltD_int, leD_int, gtD_int, geD_int, eqD_int, neD_int, ev_app, lstOf_lst, dctOf_dct, ev_par2, noX_ok, ev_unp, gtN_eq, gtT2, tup2, tup1, tup0, lst0, lst1, idx_pair0, idx_pair1, thn_next, thn_ret, thn_exc, thn_bad, res_next, res_ret, cnd_ok, env_ok, out_ok, bind_ok, forB_ok, setAll_cons, setAll_nil, List.set_cons_succ, List.set_cons_zero, ev_dset, ev_daug, ev_get2, getOr_int, dctOf_I, ev_comp, wipeE_cons, wipeE_nil, ev_slice, ev_onone, ev_osome, intOf_int, ev_ttrue, ev_count, strOf_str, cntS_ch, revD_tup, bw_idx (show i ≤ ns.length by omega), keys_kv, keys_bw, h0, in_ch, decide_eq_true h8, decide_eq_true h6, if_true, ea, e1]
        · have e1 : skc (kAt lo hi ns i) = (kAt lo hi ns i).headD 0 := if_neg fun h => h6 h.2
          simp only [B_sure_kinds_3, ev_seq, ev_nil, ev_set, ev_ret, ev_if, ev_for, forI_ok, ev_varS, ev_var0, ev_cst, ev_un, ev_bin, ev_eif, ev_tst, blD_bl, ev_tval, ev_cmp, ev_chn, ev_tnot, ev_tand, ev_tor, ev_anil, ev_acons, ev_args, ev_eand, ev_eor, notD_bl, addD_int, subD_int, negD_int, ltD_int, leD_int, gtD_int, geD_int, eqD_int, neD_int, ev_app, lstOf_lst, dctOf_dct, ev_par2, noX_ok, ev_unp, gtN_eq, gtT2, tup2, tup1, tup0, lst0, lst1, idx_pair0, idx_pair1, thn_next, thn_ret, thn_exc, thn_bad, res_next, res_ret, cnd_ok, env_ok, out_ok, bind_ok, forB_ok, setAll_cons, setAll_nil, List.set_cons_succ, List.set_cons_zero, ev_dset, ev_daug, ev_get2, getOr_int, dctOf_I, ev_comp, wipeE_cons, wipeE_nil, ev_slice, ev_onone, ev_osome, intOf_int, ev_ttrue, ev_count, strOf_str, cntS_ch, revD_tup, bw_idx (show i ≤ ns.length by omega), keys_kv, keys_bw, h0, in_ch, decide_eq_true h8, decide_eq_false h6, if_true, Bool.false_eq_true, if_false, ea, e0, e1]
      · have e1 : skc (kAt lo hi ns i) = (kAt lo hi ns i).headD 0 := if_neg fun h => h8 h.1
        simp only [B_sure_kinds_3, ev_seq, ev_nil, ev_set, ev_ret, ev_if, ev_for, forI_ok, ev_varS, ev_var0, ev_cst, ev_un, ev_bin, ev_eif, ev_tst, blD_bl, ev_tval, ev_cmp, ev_chn, ev_tnot, ev_tand, ev_tor, ev_anil, ev_acons, ev_args, ev_eand, ev_eor, notD_bl, addD_int, subD_int, negD_int, ltD_int, leD_int, gtD_int, geD_int, eqD_int, neD_int, ev_app, lstOf_lst, dctOf_dct, ev_par2, noX_ok, ev_unp, gtN_eq, gtT2, tup2, tup1, tup0, lst0, lst1, idx_pair0, idx_pair1, thn_next, thn_ret, thn_exc, thn_bad, res_next, res_ret, cnd_ok, env_ok, out_ok, bind_ok, forB_ok, setAll_cons, setAll_nil, List.set_cons_succ, List.set_cons_zero, ev_dset, ev_daug, ev_get2, getOr_int, dctOf_I, ev_comp, wipeE_cons, wipeE_nil, ev_slice, ev_onone, ev_osome, intOf_int, ev_ttrue, ev_count, strOf_str, cntS_ch, revD_tup, bw_idx (show i ≤ ns.length by omega), keys_kv, keys_bw, h0, in_ch, decide_eq_false h8, Bool.false_eq_true, if_false, ea, e0, e1]
    · rw [List.range'_succ, List.map_cons, List.append_assoc]
      rfl
def skS (lo hi : Int) (ns : List Int) : List Nat := (List.range ns.length).map fun i => skc (kAt lo hi ns i)
theorem bw00 (lo hi : Int) (ns : List Int) : (idxD (bwD lo hi ns) (.int 0)).bind (fun x => idxD x (.int 0)) = .ok (.int (cnt lo hi 0 true ns : Nat)) := by
  have e1 : idxD (bwD lo hi ns) (.int 0) = .ok (dctI (bwRow lo hi ns 0 (fwAt lo hi ns 0))) := bw_idx (m := 0) (Nat.zero_le _)
  have e2 : fwAt lo hi ns 0 = [(0, 1)] := by
    unfold fwAt
    rw [fwRows_zero]
    rfl
  rw [e1, bind_ok, e2]
  exact idx_dct rfl
theorem sure_none {lo hi : Int} {ns : List Int} (hn : ns.length < 900) (hr : rd lo hi 0 true ns = []) : S_sure_kinds [pr lo hi, tupI ns] = .ok .non := by
  rw [R_sure_kinds]
  have hz : decide (((cnt lo hi 0 true ns : Nat) : Int) = 0) = true := decide_eq_true (by rw [← rd_cnt, hr]; rfl)
  have h1 := bw00 lo hi ns
  simp only [B_sure_kinds, ev_seq, ev_nil, ev_set, ev_ret, ev_if, ev_for, forI_ok, ev_varS, ev_var0, ev_cst, ev_un, ev_bin, ev_eif, ev_tst, blD_bl, ev_tval, ev_cmp, ev_chn, ev_tnot, ev_tand, ev_tor, ev_anil, ev_acons, ev_args, ev_eand, ev_eor, notD_bl, addD_int, subD_int, negD_int, ltD_int, leD_int, gtD_int, geD_int, eqD_int, neD_int, ev_app, lstOf_lst, dctOf_dct, ev_par2, noX_ok, ev_unp, gtN_eq, gtT2, tup2, tup1, tup0, lst0, lst1, idx_pair0, idx_pair1, thn_next, thn_ret, thn_exc, thn_bad, res_next, res_ret, cnd_ok, env_ok, out_ok, bind_ok, forB_ok, setAll_cons, setAll_nil, List.set_cons_succ, List.set_cons_zero, ev_dset, ev_daug, ev_get2, getOr_int, dctOf_I, ev_comp, wipeE_cons, wipeE_nil, ev_slice, ev_onone, ev_osome, intOf_int, ev_ttrue, ev_count, strOf_str, cntS_ch, revD_tup, backward_eq lo hi ns hn, h1, hz, if_true]
theorem sure_some {lo hi : Int} {ns : List Int} (hn : ns.length < 900) (hr : rd lo hi 0 true ns ≠ []) : S_sure_kinds [pr lo hi, tupI ns] = .ok (.str (skS lo hi ns)) := by
  rw [R_sure_kinds]
  have hz : decide (((cnt lo hi 0 true ns : Nat) : Int) = 0) = false := decide_eq_false (by
    have h1 := rd_cnt lo hi ns 0 true
    have h2 := List.length_pos_iff.mpr hr
    omega)
  have h1 := bw00 lo hi ns
  obtain ⟨y4, y5, y6, y7, y8, y9, h2⟩ := sk_3 lo hi ns hn hr ns.length 0 [] none none none none none none (by omega) rfl
  rw [List.drop_zero, ← List.range_eq_range', List.nil_append] at h2
  simp only [B_sure_kinds, ev_seq, ev_nil, ev_set, ev_ret, ev_if, ev_for, forI_ok, ev_varS, ev_var0, ev_cst, ev_un, ev_bin, ev_eif, ev_tst, blD_bl, ev_tval, ev_cmp, ev_chn, ev_tnot, ev_tand, ev_tor, ev_anil, ev_acons, ev_args, ev_eand, ev_eor, notD_bl, addD_int, subD_int, negD_int, ltD_int, leD_int, gtD_int, geD_int, eqD_int, neD_int, ev_app, lstOf_lst, dctOf_dct, ev_par2, noX_ok, ev_unp, gtN_eq, gtT2, tup2, tup1, tup0, lst0, lst1, idx_pair0, idx_pair1, thn_next, thn_ret, thn_exc, thn_bad, res_next, res_ret, cnd_ok, env_ok, out_ok, bind_ok, forB_ok, setAll_cons, setAll_nil, List.set_cons_succ, List.set_cons_zero, ev_dset, ev_daug, ev_get2, getOr_int, dctOf_I, ev_comp, wipeE_cons, wipeE_nil, ev_slice, ev_onone, ev_osome, intOf_int, ev_ttrue, ev_count, strOf_str, cntS_ch, revD_tup, backward_eq lo hi ns hn, h1, hz, Bool.false_eq_true, if_false, enum_tup, h2]
  rfl
end PL
set_option Elab.async false
set_option linter.all false
set_option maxRecDepth 100000
set_option maxHeartbeats 4000000
namespace PL
open PySem PySem.Spec PyProof.Rows L2
theorem tails_nodup (c : Nat) : ∀ L : List (List Nat), L.Nodup → (∀ ks ∈ L, ks.head? = some c) → (L.map List.tail).Nodup
  | [], _, _ => .nil
  | ks :: L, hn, hc => by
    obtain ⟨h1, h2⟩ := List.nodup_cons.mp hn
    refine List.nodup_cons.mpr ⟨fun h => ?_, tails_nodup c L h2 fun x hx => hc x (List.mem_cons_of_mem _ hx)⟩
    obtain ⟨ks2, h3, h4⟩ := List.mem_map.mp h
    have e1 := hc ks (List.mem_cons_self ..)
    have e2 := hc ks2 (List.mem_cons_of_mem _ h3)
    have : ks2 = ks := by
      cases ks with
      | nil => simp at e1
      | cons a r =>
        cases ks2 with
        | nil => simp at e2
        | cons b r2 =>
          have ea : a = c := by simpa using e1
          have eb : b = c := by simpa using e2
          have er : r2 = r := h4
          rw [ea, eb, er]
    exact h1 (this ▸ h3)
theorem words_two : ∀ (n : Nat) (L : List (List Nat)) (B : Nat → Bool), L.Nodup → (∀ ks ∈ L, ks.length = n ∧ KS ks) → (∀ i, i < n → B i = false → ∃ c, ∀ ks ∈ L, ks[i]? = some c) → L.length ≤ 2 ^ ((List.range n).countP B)
  | 0, L, B, hn, hk, _ => by
    have : ∀ ks ∈ L, ks ∈ [([] : List Nat)] := fun ks h => by
      rw [List.mem_singleton]
      exact List.length_eq_zero_iff.mp (hk ks h).1
    have := nodup_len L [[]] hn this
    simpa using this
  | n + 1, L, B, hn, hk, hB => by
    have e1 : (List.range (n + 1)).countP B = (if B 0 = true then 1 else 0) + (List.range n).countP fun i => B (i + 1) := by
      rw [List.range_succ_eq_map, List.countP_cons, List.countP_map]
      rw [Nat.add_comm]
      rfl
    have part : ∀ (c : Nat) (M : List (List Nat)), M.Nodup → (∀ ks ∈ M, ks ∈ L) → (∀ ks ∈ M, ks.head? = some c) → M.length ≤ 2 ^ ((List.range n).countP fun i => B (i + 1)) := by
      intro c M hM hML hMc
      have := words_two n (M.map List.tail) (fun i => B (i + 1)) (tails_nodup c M hM hMc) (fun ks h => by
        obtain ⟨ks2, h3, rfl⟩ := List.mem_map.mp h
        obtain ⟨k1, k2⟩ := hk ks2 (hML ks2 h3)
        exact ⟨by rw [List.length_tail, k1]; rfl, fun x hx => k2 x (List.mem_of_mem_tail hx)⟩) fun i hi hb => by
          obtain ⟨d, hd⟩ := hB (i + 1) (by omega) hb
          refine ⟨d, fun ks h => ?_⟩
          obtain ⟨ks2, h3, rfl⟩ := List.mem_map.mp h
          have := hd ks2 (hML ks2 h3)
          rw [← this]
          exact List.getElem?_tail
      rw [List.length_map] at this
      exact this
    cases h0 : B 0 with
    | false =>
      obtain ⟨c, hc⟩ := hB 0 (by omega) h0
      rw [e1, h0, if_neg Bool.false_ne_true, Nat.zero_add]
      exact part c L hn (fun _ h => h) fun ks h => by rw [List.head?_eq_getElem?]; exact hc ks h
    | true =>
      rw [e1, h0, if_pos rfl, Nat.pow_add, Nat.pow_one]
      have hs : L.length = (L.filter fun ks => decide (ks.head? = some 108)).length + (L.filter fun ks => !decide (ks.head? = some 108)).length := by
        rw [← List.countP_eq_length_filter, ← List.countP_eq_length_filter]
        have h9 := List.length_eq_countP_add_countP (fun ks : List Nat => decide (ks.head? = some 108)) (l := L)
        rw [h9]
        congr 1
        refine List.countP_congr fun ks _ => ?_
        simp
      have p1 := part 108 (L.filter fun ks => decide (ks.head? = some 108)) (List.Pairwise.filter _ hn) (fun ks h => (List.mem_filter.mp h).1) fun ks h => of_decide_eq_true (List.mem_filter.mp h).2
      have p2 := part 116 (L.filter fun ks => !decide (ks.head? = some 108)) (List.Pairwise.filter _ hn) (fun ks h => (List.mem_filter.mp h).1) fun ks h => by
        obtain ⟨h1, h2⟩ := List.mem_filter.mp h
        obtain ⟨k1, k2⟩ := hk ks h1
        cases ks with
        | nil => simp at k1
        | cons a r =>
          have : ¬ a = 108 := by simpa using h2
          rcases k2 a (List.mem_cons_self ..) with e | e
          · exact absurd e this
          · rw [e]; rfl
      omega
theorem skc_63 {lo hi : Int} {ns : List Int} {i : Nat} (hi' : i < ns.length) (hr : rd lo hi 0 true ns ≠ []) : skc (kAt lo hi ns i) = 63 ↔ 108 ∈ kAt lo hi ns i ∧ 116 ∈ kAt lo hi ns i := by
  unfold skc
  split
  · rename_i h; simp [h]
  · rename_i h
    have hne := kAt_ne hi' hr
    cases hh : kAt lo hi ns i with
    | nil => exact absurd hh hne
    | cons a l =>
      have := kAt_or hi' (show a ∈ kAt lo hi ns i by rw [hh]; exact List.mem_cons_self ..)
      rw [hh] at h
      simp only [h, iff_false]
      show ¬ a = 63
      omega
theorem skc_one {lo hi : Int} {ns : List Int} {i : Nat} (hi' : i < ns.length) (hr : rd lo hi 0 true ns ≠ []) {c : Nat} (h : ∀ x ∈ kAt lo hi ns i, x = c) (hc : c = 108 ∨ c = 116) : skc (kAt lo hi ns i) = c := by
  have hne := kAt_ne hi' hr
  unfold skc
  rw [if_neg]
  · cases hh : kAt lo hi ns i with
    | nil => exact absurd hh hne
    | cons a l => exact h a (by rw [hh]; exact List.mem_cons_self ..)
  · rintro ⟨h1, h2⟩
    have a1 := h 108 h1
    have a2 := h 116 h2
    omega
theorem rd_count_le {lo hi : Int} {ns : List Int} (hr : rd lo hi 0 true ns ≠ []) : (rd lo hi 0 true ns).length ≤ 2 ^ ((skS lo hi ns).count 63) := by
  have h1 := words_two ns.length (rd lo hi 0 true ns) (fun i => decide (skc (kAt lo hi ns i) = 63)) (rd_nodup lo hi 0 true ns) (fun ks h => ⟨rd_len h, rd_KS h⟩) fun i hi' hb => by
    have hb' := of_decide_eq_false hb
    rw [skc_63 hi' hr] at hb'
    obtain ⟨ks0, hk0⟩ := List.exists_mem_of_ne_nil _ hr
    have hl0 := rd_len hk0
    refine ⟨ks0[i]'(by omega), fun ks hk => ?_⟩
    have hl := rd_len hk
    have e0 : ks0[i]? = some (ks0[i]'(by omega)) := List.getElem?_eq_getElem (by omega)
    have e1 : ks[i]? = some (ks[i]'(by omega)) := List.getElem?_eq_getElem (by omega)
    have m0 := (mem_kAt hi').mpr ⟨ks0, hk0, e0⟩
    have m1 := (mem_kAt hi').mpr ⟨ks, hk, e1⟩
    have o0 := kAt_or hi' m0
    have o1 := kAt_or hi' m1
    rw [e1]
    congr 1
    rcases o0 with o0 | o0 <;> rcases o1 with o1 | o1
    · omega
    · exact absurd ⟨o0 ▸ m0, o1 ▸ m1⟩ hb'
    · exact absurd ⟨o1 ▸ m1, o0 ▸ m0⟩ hb'
    · omega
  have h2 : (skS lo hi ns).count 63 = (List.range ns.length).countP fun i => decide (skc (kAt lo hi ns i) = 63) := by
    unfold skS List.count
    rw [List.countP_map]
    congr 1
  rw [h2]
  exact h1
end PL
set_option Elab.async false
set_option linter.all false
set_option maxRecDepth 100000
set_option maxHeartbeats 4000000
namespace PL
open PySem PySem.Spec PyProof.Rows L2
theorem enum_str (z : List Nat) : enumD [.str z] = .ok ((enI 0 z).map (enD fun c => .str [c])) := by
  show Res.ok _ = _
  rw [List.range_eq_range', enI_eq, enI_map, List.map_map]
  rfl
theorem mem_enI {α : Type} : ∀ {xs : List α} {s : Nat} {e : Nat × α}, e ∈ enI s xs → s ≤ e.1 ∧ xs[e.1 - s]? = some e.2
  | [], s, e, h => by simp [enI] at h
  | x :: xs, s, e, h => by
    rcases List.mem_cons.mp h with h | h
    · subst h; simp
    · obtain ⟨h1, h2⟩ := mem_enI h
      refine ⟨by omega, ?_⟩
      rw [show e.1 - s = (e.1 - (s + 1)) + 1 by omega]
      exact h2
theorem mem_enI0 {α : Type} {xs : List α} {e : Nat × α} (h : e ∈ enI 0 xs) : xs[e.1]? = some e.2 := (mem_enI h).2
theorem len_str {s : List Nat} (h : s.length < 1000000) : lenD [.str s] = .ok (.int (s.length : Nat)) := if_pos (by unfold LIM; omega)
theorem rd_at {lo hi : Int} {ns : List Int} {ks : List Nat} (hk : ks ∈ rd lo hi 0 true ns) {a : Nat} (ha : a < ns.length) :
    ks.take a ∈ rd lo hi 0 true (ns.take a) ∧ ∃ e ∈ stepsM lo hi (tmM 0 (ns.take a) (ks.take a)) (dg ns a) (isF true a), ks[a]? = some e.1 := by
  have hl : (ns.take a).length = a := by rw [List.length_take]; omega
  have hk' : ks ∈ rd lo hi 0 true (ns.take a ++ ns.drop a) := by rw [List.take_append_drop]; exact hk
  obtain ⟨p, q, rfl, hp, hq⟩ := rd_split.mp hk'
  have e1 : (p ++ q).take a = p := List.take_left' (by rw [rd_len hp, hl])
  rw [isF_take (by omega), drop_dg ha] at hq
  obtain ⟨e, h1, q', h2, rfl⟩ := mem_rd_cons.mp hq
  rw [e1]
  refine ⟨hp, e, h1, ?_⟩
  rw [List.getElem?_append_right (by rw [rd_len hp, hl]; exact Nat.le_refl _), rd_len hp, hl]
  simp
theorem tm_low {lo hi : Int} : ∀ (ns : List Int) (ks : List Nat) (t : Int), ks.length = ns.length → (∀ l ∈ lapsM t ns ks, okR lo hi l = true) → t + lo * (ns.length : Nat) ≤ tmM t ns ks
  | [], ks, t, _, _ => by cases ks <;> simp [tmM]
  | n :: ns, [], t, h, _ => by simp at h
  | n :: ns, k :: ks, t, hl, h => by
    have a1 := h ((if k = 108 then t + n else n) - t) (List.mem_cons_self ..)
    have ih := tm_low ns ks (if k = 108 then t + n else n) (by simpa using hl) fun l hl => h l (List.mem_cons_of_mem _ hl)
    have e : lo * ((n :: ns).length : Nat) = lo * (ns.length : Nat) + lo := by
      rw [List.length_cons, Int.natCast_add, Int.mul_add]
      simp
    unfold okR at a1
    rw [Bool.and_eq_true] at a1
    have a2 := of_decide_eq_true a1.1
    rw [e]
    show _ ≤ tmM (if k = 108 then t + n else n) ns ks
    omega
theorem okR_iff {lo hi x : Int} : okR lo hi x = true ↔ lo ≤ x ∧ x ≤ hi := by
  unfold okR
  rw [Bool.and_eq_true, decide_eq_true_eq, decide_eq_true_eq]
theorem doubt_at {lo hi : Int} (h1 : 1 ≤ lo) {ns : List Int} {a : Nat} (ha : a < ns.length) (hr : rd lo hi 0 true ns ≠ []) (h : skc (kAt lo hi ns a) = 63) : 1 ≤ a ∧ (a : Int) ≤ (hi - 1) / lo := by
  obtain ⟨k8, k6⟩ := (skc_63 ha hr).mp h
  obtain ⟨ks1, hk1, hc1⟩ := (mem_kAt ha).mp k8
  obtain ⟨ks2, hk2, hc2⟩ := (mem_kAt ha).mp k6
  obtain ⟨p1, e1, s1, d1⟩ := rd_at hk1 ha
  obtain ⟨p2, e2, s2, d2⟩ := rd_at hk2 ha
  have c1 : e1.1 = 108 := by rw [hc1] at d1; simpa using d1.symm
  have c2 : e2.1 = 116 := by rw [hc2] at d2; simpa using d2.symm
  have o1 : okR lo hi (dg ns a) = true := by
    rcases mem_steps.mp s1 with ⟨o, _⟩ | ⟨_, _, rfl⟩
    · exact o
    · exact absurd c1 (show ¬ (116 : Nat) = 108 by decide)
  have o2 : isF true a = false ∧ okR lo hi (dg ns a - tmM 0 (ns.take a) (ks2.take a)) = true := by
    rcases mem_steps.mp s2 with ⟨_, rfl⟩ | ⟨f, o, _⟩
    · exact absurd c2 (show ¬ (108 : Nat) = 116 by decide)
    · exact ⟨f, o⟩
  have g := mem_rd.mp p2
  have lw := tm_low (ns.take a) (ks2.take a) 0 g.len g.ok
  rw [List.length_take, Nat.min_eq_left (by omega)] at lw
  have q1 := okR_iff.mp o1
  have q2 := okR_iff.mp o2.2
  refine ⟨?_, ?_⟩
  · cases a with
    | zero => exact absurd o2.1 (by decide)
    | succ a => omega
  · refine Int.le_ediv_of_mul_le (by omega) ?_
    rw [Int.mul_comm]
    omega
theorem first_l {lo hi : Int} {ns : List Int} (ha : 0 < ns.length) (hr : rd lo hi 0 true ns ≠ []) : skc (kAt lo hi ns 0) = 108 := skc_one ha hr (fun x hx => by
  obtain ⟨ks, hk, hc⟩ := (mem_kAt ha).mp hx
  exact (mem_rd.mp hk).hd rfl x (by rw [List.head?_eq_getElem?]; exact hc)) (.inl rfl)
theorem isort_first {l : List Int} (h : isort ltI l ≠ []) : ∀ x ∈ l, dg (isort ltI l) 0 ≤ x := by
  intro x hx
  have hm : x ∈ isort ltI l := (isort_perm ltI l).mem_iff.mpr hx
  have hs := isort_srt swoI l
  cases hh : isort ltI l with
  | nil => exact absurd hh h
  | cons a r =>
    rw [hh] at hm hs
    show a ≤ x
    rcases List.mem_cons.mp hm with e | e
    · omega
    · have := of_decide_eq_false ((List.pairwise_cons.mp hs).1 x e)
      omega
theorem ptS_ne {lo hi : Int} {ns : List Int} {m : Nat} (hm : m ≤ ns.length) (hr : rd lo hi 0 true ns ≠ []) : isort ltI (ptS lo hi ns m) ≠ [] := by
  obtain ⟨ks, hk⟩ := List.exists_mem_of_ne_nil _ hr
  have h1 : tmM 0 (ns.take m) (ks.take m) ∈ ptS lo hi ns m := (mem_ptS hm).mpr ⟨ks, hk, rfl⟩
  exact List.ne_nil_of_mem ((isort_perm ltI _).mem_iff.mpr h1)
theorem late_at {lo hi : Int} (h1 : 1 ≤ lo) {ns : List Int} {a : Nat} (ha : a < ns.length) (h0 : 0 < a) (hr : rd lo hi 0 true ns ≠ []) (h : hi ≤ dg (isort ltI (ptS lo hi ns a)) 0) : skc (kAt lo hi ns a) = if dg ns a ≤ hi then 108 else 116 := by
  have hf := isort_first (ptS_ne (show a ≤ ns.length by omega) hr)
  have key : ∀ x ∈ kAt lo hi ns a, x = if dg ns a ≤ hi then 108 else 116 := fun x hx => by
    obtain ⟨ks, hk, hc⟩ := (mem_kAt ha).mp hx
    obtain ⟨p, e, s, d⟩ := rd_at hk ha
    have hx' : e.1 = x := by rw [hc] at d; simpa using d.symm
    have ht := hf _ ((mem_ptS (show a ≤ ns.length by omega)).mpr ⟨ks, hk, rfl⟩)
    rcases mem_steps.mp s with ⟨o, rfl⟩ | ⟨_, o, rfl⟩
    · rw [if_pos (okR_iff.mp o).2]; exact hx'.symm
    · have := okR_iff.mp o
      rw [if_neg (by omega)]; exact hx'.symm
  refine skc_one ha hr key ?_
  split
  · exact .inl rfl
  · exact .inr rfl
theorem doubt_eq {lo hi : Int} (h1 : 1 ≤ lo) (h2 : lo < 1000000000) : S_longest_doubt [pr lo hi] = .ok (.int ((hi - 1) / lo)) := by
  rw [R_longest_doubt]
  simp only [B_longest_doubt, ev_seq, ev_nil, ev_set, ev_ret, ev_if, ev_for, forI_ok, ev_varS, ev_var0, ev_cst, ev_un, ev_bin, ev_eif, ev_tst, blD_bl, ev_tval, ev_cmp, ev_chn, ev_tnot, ev_tand, ev_tor, ev_anil, ev_acons, ev_args, ev_eand, ev_eor, notD_bl, addD_int, subD_int, negD_int, ltD_int, leD_int, gtD_int, geD_int, eqD_int, neD_int, ev_app, lstOf_lst, dctOf_dct, ev_par2, noX_ok, ev_unp, gtN_eq, gtT2, tup2, tup1, tup0, lst0, lst1, idx_pair0, idx_pair1, thn_next, thn_ret, thn_exc, thn_bad, res_next, res_ret, cnd_ok, env_ok, out_ok, bind_ok, forB_ok, setAll_cons, setAll_nil, List.set_cons_succ, List.set_cons_zero, ev_dset, ev_daug, ev_get2, getOr_int, dctOf_I, ev_comp, wipeE_cons, wipeE_nil, ev_slice, ev_onone, ev_osome, intOf_int, ev_ttrue, ev_count, strOf_str, cntS_ch, revD_tup, div_ok (show (0 : Int) < lo by omega) h2]
theorem power_1 (a : Option D) : ∀ (ks : List Nat) (j : Nat) (g2 : Option D), ∃ g2', forL (gtN 2) B__law_power_1 (ks.map fun k => .int (k : Nat)) [a, some (.int ((2 ^ j : Nat) : Int)), g2] = .next [a, some (.int ((2 ^ (j + ks.length) : Nat) : Int)), g2'] := by
  intro ks
  induction ks with
  | nil => exact fun j g2 => ⟨g2, rfl⟩
  | cons k ks ih =>
    intro j g2
    obtain ⟨y2, h1⟩ := ih (j + 1) (some (.int (k : Nat)))
    refine ⟨y2, (forL_step (gtN_eq ..) ?_).trans (h1.trans ?_)⟩
    · have e : ((2 ^ j : Nat) : Int) * 2 = ((2 ^ (j + 1) : Nat) : Int) := by rw [Nat.pow_succ]; omega
      simp only [B__law_power_1, ev_seq, ev_nil, ev_set, ev_ret, ev_if, ev_for, forI_ok, ev_varS, ev_var0, ev_cst, ev_un, ev_bin, ev_eif, ev_tst, blD_bl, ev_tval, ev_cmp, ev_chn, ev_tnot, ev_tand, ev_tor, ev_anil, ev_acons, ev_args, ev_eand, ev_eor, notD_bl, addD_int, subD_int, negD_int, ltD_int, leD_int, gtD_int, geD_int, eqD_int, neD_int, ev_app, lstOf_lst, dctOf_dct, ev_par2, noX_ok, ev_unp, gtN_eq, gtT2, tup2, tup1, tup0, lst0, lst1, idx_pair0, idx_pair1, thn_next, thn_ret, thn_exc, thn_bad, res_next, res_ret, cnd_ok, env_ok, out_ok, bind_ok, forB_ok, setAll_cons, setAll_nil, List.set_cons_succ, List.set_cons_zero, ev_dset, ev_daug, ev_get2, getOr_int, dctOf_I, ev_comp, wipeE_cons, wipeE_nil, ev_slice, ev_onone, ev_osome, intOf_int, ev_ttrue, ev_count, strOf_str, cntS_ch, revD_tup, mul_r (show (0 : Int) ≤ 2 by decide) (by decide), e]
    · rw [List.length_cons, show j + 1 + ks.length = j + (ks.length + 1) by omega]
theorem power_eq (m : Nat) (hm : m < 1000000) : S__law_power [.int (m : Nat)] = .ok (.int ((2 ^ m : Nat) : Int)) := by
  obtain ⟨y2, h1⟩ := power_1 (some (.int (m : Nat))) (List.range m) 0 none
  have e : (D.int 1) = .int ((2 ^ 0 : Nat) : Int) := rfl
  rw [R__law_power]
  rw [List.length_range, Nat.zero_add] at h1
  simp only [B__law_power, ev_seq, ev_nil, ev_set, ev_ret, ev_if, ev_for, forI_ok, ev_varS, ev_var0, ev_cst, ev_un, ev_bin, ev_eif, ev_tst, blD_bl, ev_tval, ev_cmp, ev_chn, ev_tnot, ev_tand, ev_tor, ev_anil, ev_acons, ev_args, ev_eand, ev_eor, notD_bl, addD_int, subD_int, negD_int, ltD_int, leD_int, gtD_int, geD_int, eqD_int, neD_int, ev_app, lstOf_lst, dctOf_dct, ev_par2, noX_ok, ev_unp, gtN_eq, gtT2, tup2, tup1, tup0, lst0, lst1, idx_pair0, idx_pair1, thn_next, thn_ret, thn_exc, thn_bad, res_next, res_ret, cnd_ok, env_ok, out_ok, bind_ok, forB_ok, setAll_cons, setAll_nil, List.set_cons_succ, List.set_cons_zero, ev_dset, ev_daug, ev_get2, getOr_int, dctOf_I, ev_comp, wipeE_cons, wipeE_nil, ev_slice, ev_onone, ev_osome, intOf_int, ev_ttrue, ev_count, strOf_str, cntS_ch, revD_tup, rng1_eq (show m < 1000000000 by omega), e, h1]
end PL
set_option Elab.async false
set_option linter.all false
set_option maxRecDepth 100000
set_option maxHeartbeats 4000000
namespace PL
open PySem PySem.Spec PyProof.Rows L2
structure Ord3 (op pick : Int → Int → Int) (R : Int → Int → Prop) : Prop where
  one : ∀ a b, pick a b = a ∨ pick a b = b
  left : ∀ a b, R (pick a b) a
  right : ∀ a b, R (pick a b) b
  tr : ∀ a b c, R a b → R b c → R a c
  rf : ∀ a, R a a
  mono : ∀ a b l, R a b → R (op a l) (op b l)
def maxZ (a b : Int) : Int := maxI a [b]
def minZ (a b : Int) : Int := minI a [b]
theorem maxZ_eq (a b : Int) : maxZ a b = if a < b then b else a := rfl
theorem minZ_eq (a b : Int) : minZ a b = if b < a then b else a := rfl
theorem ordHigh : Ord3 maxZ minZ (· ≤ ·) where
  one := fun a b => by rw [minZ_eq]; split <;> simp
  left := fun a b => by show minZ a b ≤ a; rw [minZ_eq]; split <;> omega
  right := fun a b => by show minZ a b ≤ b; rw [minZ_eq]; split <;> omega
  tr := fun a b c => Int.le_trans
  rf := Int.le_refl
  mono := fun a b l h => by show maxZ a l ≤ maxZ b l; rw [maxZ_eq, maxZ_eq]; split <;> split <;> omega
theorem ordLow : Ord3 minZ maxZ (· ≥ ·) where
  one := fun a b => by rw [maxZ_eq]; split <;> simp
  left := fun a b => by show maxZ a b ≥ a; rw [maxZ_eq]; split <;> omega
  right := fun a b => by show maxZ a b ≥ b; rw [maxZ_eq]; split <;> omega
  tr := fun a b c h1 h2 => Int.le_trans h2 h1
  rf := Int.le_refl
  mono := fun a b l h => by show minZ a l ≥ minZ b l; rw [minZ_eq, minZ_eq]; split <;> split <;> omega
section
variable (op pick : Int → Int → Int)
def bsAdd (t m : Int) (l : List (Int × Int)) : List (Nat × Int) → List (Int × Int)
  | [] => l
  | e :: ps => bsAdd t m (putI l e.2 (pick (op m (e.2 - t)) ((getI l e.2).getD (op m (e.2 - t))))) ps
def bsNext (lo hi n : Int) (f : Bool) (l : List (Int × Int)) : List (Int × Int) → List (Int × Int)
  | [] => l
  | e :: r => bsNext lo hi n f (bsAdd op pick e.1 e.2 l (stepsM lo hi e.1 n f)) r
def bsRow (lo hi : Int) (row : List (Int × Int)) (f : Bool) : List Int → List (Int × Int)
  | [] => row
  | n :: ns => bsRow lo hi (bsNext op pick lo hi n f [] row) false ns
end
section
variable {op pick : Int → Int → Int}
structure Holds (R : Int → Int → Prop) (l : List (Int × Int)) (vs : Int → Int → Prop) : Prop where
  nd : (keys l).Nodup
  get : ∀ t m, getI l t = some m → vs t m ∧ ∀ m', vs t m' → R m m'
  has : ∀ t m, vs t m → t ∈ keys l
theorem getI_key {l : List (Int × Int)} {t m : Int} (h : getI l t = some m) : t ∈ keys l := by
  by_cases ht : t ∈ keys l
  · exact ht
  · rw [getI_none ht] at h; cases h
theorem Holds.put {R : Int → Int → Prop} (o : Ord3 op pick R) {l : List (Int × Int)} {vs : Int → Int → Prop} (h : Holds R l vs) (k x : Int) : Holds R (putI l k (pick x ((getI l k).getD x))) (fun t m => vs t m ∨ (t = k ∧ m = x)) where
  nd := putI_nodup _ _ h.nd
  get := fun t m hg => by
    rw [getI_putI] at hg
    split at hg
    · rename_i e
      subst e
      cases hg
      cases ho : getI l t with
      | none =>
        have hno : ∀ m', ¬ vs t m' := fun m' hv => by
          obtain ⟨v, h1, _⟩ := get_in (h.has t m' hv)
          rw [ho] at h1; cases h1
        have e : pick x ((none : Option Int).getD x) = x := (o.one x x).elim id id
        rw [e]
        exact ⟨.inr ⟨rfl, rfl⟩, fun m' hm => hm.elim (fun hv => absurd hv (hno m')) fun hv => by rw [hv.2]; exact o.rf x⟩
      | some y =>
        obtain ⟨g1, g2⟩ := h.get t y ho
        show (vs t (pick x y) ∨ (t = t ∧ pick x y = x)) ∧ _
        refine ⟨(o.one x y).elim (fun e => .inr ⟨rfl, e⟩) fun e => .inl (by rw [e]; exact g1), fun m' hm => ?_⟩
        rcases hm with hm | hm
        · exact o.tr _ _ _ (o.right x y) (g2 m' hm)
        · rw [hm.2]; exact o.left x y
    · rename_i e
      obtain ⟨g1, g2⟩ := h.get t m hg
      exact ⟨.inl g1, fun m' hm => hm.elim (g2 m') fun hv => absurd hv.1 e⟩
  has := fun t m hv => (putI_mem _ _ _ _).mpr (hv.elim (fun h1 => .inl (h.has t m h1)) fun h1 => .inr h1.1)
theorem Holds.imp {R : Int → Int → Prop} {l : List (Int × Int)} {vs vs' : Int → Int → Prop} (h : Holds R l vs) (e : ∀ t m, vs t m ↔ vs' t m) : Holds R l vs' :=
  ⟨h.nd, fun t m hg => ⟨(e t m).mp (h.get t m hg).1, fun m' hm => (h.get t m hg).2 m' ((e t m').mpr hm)⟩, fun t m hv => h.has t m ((e t m).mpr hv)⟩
theorem bsAdd_holds {R : Int → Int → Prop} (o : Ord3 op pick R) (t m : Int) : ∀ (ps : List (Nat × Int)) (l : List (Int × Int)) (vs : Int → Int → Prop), Holds R l vs → Holds R (bsAdd op pick t m l ps) (fun u x => vs u x ∨ ∃ e ∈ ps, u = e.2 ∧ x = op m (e.2 - t))
  | [], l, vs, h => h.imp fun u x => by simp
  | e :: ps, l, vs, h => (bsAdd_holds o t m ps _ _ (h.put o e.2 (op m (e.2 - t)))).imp fun u x => by
    simp only [List.mem_cons, exists_eq_or_imp, or_assoc]
theorem bsNext_holds {R : Int → Int → Prop} (o : Ord3 op pick R) (lo hi n : Int) (f : Bool) : ∀ (r l : List (Int × Int)) (vs : Int → Int → Prop), Holds R l vs →
    Holds R (bsNext op pick lo hi n f l r) (fun u x => vs u x ∨ ∃ p ∈ r, ∃ e ∈ stepsM lo hi p.1 n f, u = e.2 ∧ x = op p.2 (e.2 - p.1))
  | [], l, vs, h => h.imp fun u x => by simp
  | p :: r, l, vs, h => (bsNext_holds o lo hi n f r _ _ (bsAdd_holds o p.1 p.2 (stepsM lo hi p.1 n f) l vs h)).imp fun u x => by
    simp only [List.mem_cons, exists_eq_or_imp, or_assoc]
theorem mem_getI : ∀ {l : List (Int × Int)} {p : Int × Int}, (keys l).Nodup → p ∈ l → getI l p.1 = some p.2
  | [], p, _, h => by simp at h
  | e :: l, p, hn, h => by
    obtain ⟨h1, h2⟩ := List.nodup_cons.mp (show (e.1 :: keys l).Nodup from hn)
    unfold getI
    rw [List.find?_cons]
    rcases List.mem_cons.mp h with e1 | e1
    · subst e1; simp
    · have hb : (e.1 == p.1) = false := beq_eq_false_iff_ne.mpr fun h3 => h1 (by rw [h3]; exact List.mem_map.mpr ⟨p, e1, rfl⟩)
      rw [hb]
      exact mem_getI h2 e1
theorem getI_mem : ∀ {l : List (Int × Int)} {t m : Int}, getI l t = some m → (t, m) ∈ l
  | [], t, m, h => by simp [getI] at h
  | e :: l, t, m, h => by
    unfold getI at h
    rw [List.find?_cons] at h
    by_cases hb : e.1 = t
    · have : (e.1 == t) = true := beq_iff_eq.mpr hb
      rw [this] at h
      have h3 : e.2 = m := by simpa using h
      rw [← hb, ← h3]
      exact List.mem_cons_self ..
    · have : (e.1 == t) = false := beq_eq_false_iff_ne.mpr hb
      rw [this] at h
      exact List.mem_cons_of_mem _ (getI_mem h)
def opL (op : Int → Int → Int) (m : Int) : List Int → Int
  | [] => m
  | l :: ls => opL op (op m l) ls
theorem opL_mono {R : Int → Int → Prop} (o : Ord3 op pick R) : ∀ (ls : List Int) (a b : Int), R a b → R (opL op a ls) (opL op b ls)
  | [], a, b, h => h
  | l :: ls, a, b, h => opL_mono o ls _ _ (o.mono a b l h)
theorem lap_step {lo hi t n : Int} {f : Bool} {e : Nat × Int} (h : e ∈ stepsM lo hi t n f) (ns : List Int) (ks : List Nat) : lapsM t (n :: ns) (e.1 :: ks) = (e.2 - t) :: lapsM e.2 ns ks ∧ tmM t (n :: ns) (e.1 :: ks) = tmM e.2 ns ks := by
  have e1 := step_tm h
  constructor
  · show ((if e.1 = 108 then t + n else n) - t) :: lapsM (if e.1 = 108 then t + n else n) ns ks = _
    rw [← e1]
  · show tmM (if e.1 = 108 then t + n else n) ns ks = _
    rw [← e1]
theorem bsRow_holds {R : Int → Int → Prop} (o : Ord3 op pick R) (lo hi : Int) : ∀ (ns : List Int) (row : List (Int × Int)) (f : Bool) (vs : Int → Int → Prop), Holds R row vs →
    (∀ u x, (∃ t m, vs t m ∧ ∃ ks ∈ rd lo hi t f ns, u = tmM t ns ks ∧ x = opL op m (lapsM t ns ks)) → u ∈ keys (bsRow op pick lo hi row f ns)) ∧ (keys (bsRow op pick lo hi row f ns)).Nodup ∧
    ∀ u x, getI (bsRow op pick lo hi row f ns) u = some x → (∃ t m, vs t m ∧ ∃ ks ∈ rd lo hi t f ns, u = tmM t ns ks ∧ x = opL op m (lapsM t ns ks)) ∧ ∀ t m, vs t m → ∀ ks ∈ rd lo hi t f ns, u = tmM t ns ks → R x (opL op m (lapsM t ns ks))
  | [], row, f, vs, h => by
    refine ⟨fun u x ⟨t, m, hv, ks, hk, e1, e2⟩ => ?_, h.nd, fun u x hg => ?_⟩
    · have : ks = [] := by simpa [rd] using hk
      subst this
      rw [e1]
      exact h.has t m hv
    · obtain ⟨g1, g2⟩ := h.get u x hg
      refine ⟨⟨u, x, g1, [], by simp [rd], rfl, rfl⟩, fun t m hv ks hk e => ?_⟩
      have : ks = [] := by simpa [rd] using hk
      subst this
      have e' : u = t := e
      subst e'
      exact g2 m hv
  | n :: ns, row, f, vs, h => by
    have h0 : Holds R ([] : List (Int × Int)) (fun _ _ => False) := ⟨by simp [keys], fun t m hg => by simp [getI] at hg, fun _ _ hv => hv.elim⟩
    have h1 := bsNext_holds o lo hi n f row [] _ h0
    obtain ⟨k1, k2, k3⟩ := bsRow_holds o lo hi ns _ false _ h1
    refine ⟨fun u x ⟨t, m, hv, ks, hk, e1, e2⟩ => ?_, k2, fun u x hg => ?_⟩
    · obtain ⟨e, he, ks', hk', rfl⟩ := mem_rd_cons.mp hk
      obtain ⟨l1, l2⟩ := lap_step he ns ks'
      obtain ⟨m0, hm0, hm1⟩ := get_in (h.has t m hv)
      exact k1 u (opL op (op m0 (e.2 - t)) (lapsM e.2 ns ks')) ⟨e.2, op m0 (e.2 - t), .inr ⟨(t, m0), hm1, e, he, rfl, rfl⟩, ks', hk', by rw [e1, l2], rfl⟩
    · obtain ⟨⟨t1, m1, hv, ks', hk', e1, e2⟩, g2⟩ := k3 u x hg
      rcases hv with hv | ⟨p, hp, e, he, rfl, rfl⟩
      · exact hv.elim
      · obtain ⟨l1, l2⟩ := lap_step he ns ks'
        obtain ⟨q1, q2⟩ := h.get p.1 p.2 (mem_getI h.nd hp)
        refine ⟨⟨p.1, p.2, q1, e.1 :: ks', mem_rd_cons.mpr ⟨e, he, ks', hk', rfl⟩, by rw [l2]; exact e1, by rw [l1]; exact e2⟩, fun t m hv ks hk hu => ?_⟩
        obtain ⟨e', he', ks2, hk2, rfl⟩ := mem_rd_cons.mp hk
        obtain ⟨l3, l4⟩ := lap_step he' ns ks2
        obtain ⟨m0, hm0, hm1⟩ := get_in (h.has t m hv)
        obtain ⟨r1, r2⟩ := h.get t m0 hm0
        have := g2 e'.2 (op m0 (e'.2 - t)) (.inr ⟨(t, m0), hm1, e', he', rfl, rfl⟩) ks2 hk2 (by rw [← l4]; exact hu)
        rw [l3]
        exact o.tr _ _ _ this (opL_mono o _ _ _ (o.mono _ _ _ (r2 m hv)))
end
end PL
set_option Elab.async false
set_option linter.all false
set_option maxRecDepth 100000
set_option maxHeartbeats 4000000
namespace PL
open PySem PySem.Spec PyProof.Rows L2
theorem max_two (a b : Int) : maxD [.lst [.int a, .int b]] = .ok (.int (maxZ a b)) := id rfl
theorem min_two (a b : Int) : minD [.lst [.int a, .int b]] = .ok (.int (minZ a b)) := id rfl
theorem lst2 (a b : D) : lstD [a, b] = .ok (.lst [a, b]) := id rfl
section
variable (op pick : Int → Int → Int)
theorem bsAdd_len (t m : Int) : ∀ (ps : List (Nat × Int)) (l : List (Int × Int)), (bsAdd op pick t m l ps).length ≤ l.length + ps.length
  | [], l => Nat.le_refl _
  | e :: ps, l => by
    have h1 := bsAdd_len t m ps (putI l e.2 (pick (op m (e.2 - t)) ((getI l e.2).getD (op m (e.2 - t)))))
    rw [putI_length] at h1
    show (bsAdd op pick t m _ ps).length ≤ l.length + (ps.length + 1)
    split at h1 <;> omega
theorem bsNext_len (lo hi n : Int) (f : Bool) : ∀ (r l : List (Int × Int)), (bsNext op pick lo hi n f l r).length ≤ l.length + 2 * r.length
  | [], l => Nat.le_refl _
  | e :: r, l => by
    have h1 := bsNext_len lo hi n f r (bsAdd op pick e.1 e.2 l (stepsM lo hi e.1 n f))
    have h2 := bsAdd_len op pick e.1 e.2 (stepsM lo hi e.1 n f) l
    have h3 := stepsM_len lo hi e.1 n f
    show (bsNext op pick lo hi n f _ r).length ≤ l.length + 2 * (r.length + 1)
    omega
end
theorem lh_1 (a b be ix nm : Option D) (t m : Int) : ∀ (ps : List (Nat × Int)) (l : List (Int × Int)) (g8 g9 g10 : Option D), l.length + ps.length < 1000000 →
    ∃ g8' g9' g10', forL (gtT [8, 9]) B_least_high_1 (ps.map stD) [a, b, be, ix, nm, some (dctI l), some (.int t), some (.int m), g8, g9, g10] = .next [a, b, be, ix, nm, some (dctI (bsAdd maxZ minZ t m l ps)), some (.int t), some (.int m), g8', g9', g10'] := by
  intro ps
  induction ps with
  | nil => exact fun l g8 g9 g10 _ => ⟨g8, g9, g10, rfl⟩
  | cons e ps ih =>
    intro l g8 g9 g10 h
    rw [List.length_cons] at h
    have hl := putI_length l e.2 (minZ (maxZ m (e.2 - t)) ((getI l e.2).getD (maxZ m (e.2 - t))))
    obtain ⟨y8, y9, y10, h1⟩ := ih (putI l e.2 (minZ (maxZ m (e.2 - t)) ((getI l e.2).getD (maxZ m (e.2 - t))))) (some (.str [e.1])) (some (.int e.2)) (some (.int (maxZ m (e.2 - t)))) (by split at hl <;> omega)
    refine ⟨y8, y9, y10, (forL_step rfl ?_).trans h1⟩
    simp only [B_least_high_1, ev_seq, ev_nil, ev_set, ev_ret, ev_if, ev_for, forI_ok, ev_varS, ev_var0, ev_cst, ev_un, ev_bin, ev_eif, ev_tst, blD_bl, ev_tval, ev_cmp, ev_chn, ev_tnot, ev_tand, ev_tor, ev_anil, ev_acons, ev_args, ev_eand, ev_eor, notD_bl, addD_int, subD_int, negD_int, ltD_int, leD_int, gtD_int, geD_int, eqD_int, neD_int, ev_app, lstOf_lst, dctOf_dct, ev_par2, noX_ok, ev_unp, gtN_eq, gtT2, tup2, tup1, tup0, lst0, lst1, idx_pair0, idx_pair1, thn_next, thn_ret, thn_exc, thn_bad, res_next, res_ret, cnd_ok, env_ok, out_ok, bind_ok, forB_ok, setAll_cons, setAll_nil, List.set_cons_succ, List.set_cons_zero, ev_dset, ev_daug, ev_get2, getOr_int, dctOf_I, ev_comp, wipeE_cons, wipeE_nil, ev_slice, ev_onone, ev_osome, intOf_int, ev_ttrue, ev_count, strOf_str, cntS_ch, revD_tup, lst2, max_two, min_two, look_kv, getD_int, dset_int l _ _ (show l.length < LIM by unfold LIM; omega)]
theorem lh_2 (low n ix : Int) (b be : Option D) : ∀ (r l : List (Int × Int)) (g6 g7 g8 g9 g10 : Option D), l.length + 2 * r.length < 1000000 →
    ∃ g6' g7' g8' g9' g10', forL (gtT [6, 7]) B_least_high_2 (r.map itD) [b, some (.int low), be, some (.int ix), some (.int n), some (dctI l), g6, g7, g8, g9, g10] = .next [b, some (.int low), be, some (.int ix), some (.int n), some (dctI (bsNext maxZ minZ low 1000000000 n (decide (ix = 0)) l r)), g6', g7', g8', g9', g10'] := by
  intro r
  induction r with
  | nil => exact fun l g6 g7 g8 g9 g10 _ => ⟨g6, g7, g8, g9, g10, rfl⟩
  | cons e r ih =>
    intro l g6 g7 g8 g9 g10 h
    rw [List.length_cons] at h
    have h2 := bsAdd_len maxZ minZ e.1 e.2 (stepsM low 1000000000 e.1 n (decide (ix = 0))) l
    have h3 := stepsM_len low 1000000000 e.1 n (decide (ix = 0))
    obtain ⟨x8, x9, x10, h1⟩ := lh_1 b (some (.int low)) be (some (.int ix)) (some (.int n)) e.1 e.2 (stepsM low 1000000000 e.1 n (decide (ix = 0))) l g8 g9 g10 (by omega)
    obtain ⟨y6, y7, y8, y9, y10, h4⟩ := ih (bsAdd maxZ minZ e.1 e.2 l (stepsM low 1000000000 e.1 n (decide (ix = 0)))) (some (.int e.1)) (some (.int e.2)) x8 x9 x10 (by omega)
    refine ⟨y6, y7, y8, y9, y10, (forL_step rfl ?_).trans h4⟩
    have e0 : powD (.int 10) (.int 9) = .ok (.int 1000000000) := by rfl
    simp only [B_least_high_2, ev_seq, ev_nil, ev_set, ev_ret, ev_if, ev_for, forI_ok, ev_varS, ev_var0, ev_cst, ev_un, ev_bin, ev_eif, ev_tst, blD_bl, ev_tval, ev_cmp, ev_chn, ev_tnot, ev_tand, ev_tor, ev_anil, ev_acons, ev_args, ev_eand, ev_eor, notD_bl, addD_int, subD_int, negD_int, ltD_int, leD_int, gtD_int, geD_int, eqD_int, neD_int, ev_app, lstOf_lst, dctOf_dct, ev_par2, noX_ok, ev_unp, gtN_eq, gtT2, tup2, tup1, tup0, lst0, lst1, idx_pair0, idx_pair1, thn_next, thn_ret, thn_exc, thn_bad, res_next, res_ret, cnd_ok, env_ok, out_ok, bind_ok, forB_ok, setAll_cons, setAll_nil, List.set_cons_succ, List.set_cons_zero, ev_dset, ev_daug, ev_get2, getOr_int, dctOf_I, ev_comp, wipeE_cons, wipeE_nil, ev_slice, ev_onone, ev_osome, intOf_int, ev_ttrue, ev_count, strOf_str, cntS_ch, revD_tup, e0, steps_eq, itemsD, h1]
theorem gl_1 (a b be ix nm : Option D) (t m : Int) : ∀ (ps : List (Nat × Int)) (l : List (Int × Int)) (g8 g9 g10 : Option D), l.length + ps.length < 1000000 →
    ∃ g8' g9' g10', forL (gtT [8, 9]) B_greatest_low_1 (ps.map stD) [a, b, be, ix, nm, some (dctI l), some (.int t), some (.int m), g8, g9, g10] = .next [a, b, be, ix, nm, some (dctI (bsAdd minZ maxZ t m l ps)), some (.int t), some (.int m), g8', g9', g10'] := by
  intro ps
  induction ps with
  | nil => exact fun l g8 g9 g10 _ => ⟨g8, g9, g10, rfl⟩
  | cons e ps ih =>
    intro l g8 g9 g10 h
    rw [List.length_cons] at h
    have hl := putI_length l e.2 (maxZ (minZ m (e.2 - t)) ((getI l e.2).getD (minZ m (e.2 - t))))
    obtain ⟨y8, y9, y10, h1⟩ := ih (putI l e.2 (maxZ (minZ m (e.2 - t)) ((getI l e.2).getD (minZ m (e.2 - t))))) (some (.str [e.1])) (some (.int e.2)) (some (.int (minZ m (e.2 - t)))) (by split at hl <;> omega)
    refine ⟨y8, y9, y10, (forL_step rfl ?_).trans h1⟩
    simp only [B_greatest_low_1, ev_seq, ev_nil, ev_set, ev_ret, ev_if, ev_for, forI_ok, ev_varS, ev_var0, ev_cst, ev_un, ev_bin, ev_eif, ev_tst, blD_bl, ev_tval, ev_cmp, ev_chn, ev_tnot, ev_tand, ev_tor, ev_anil, ev_acons, ev_args, ev_eand, ev_eor, notD_bl, addD_int, subD_int, negD_int, ltD_int, leD_int, gtD_int, geD_int, eqD_int, neD_int, ev_app, lstOf_lst, dctOf_dct, ev_par2, noX_ok, ev_unp, gtN_eq, gtT2, tup2, tup1, tup0, lst0, lst1, idx_pair0, idx_pair1, thn_next, thn_ret, thn_exc, thn_bad, res_next, res_ret, cnd_ok, env_ok, out_ok, bind_ok, forB_ok, setAll_cons, setAll_nil, List.set_cons_succ, List.set_cons_zero, ev_dset, ev_daug, ev_get2, getOr_int, dctOf_I, ev_comp, wipeE_cons, wipeE_nil, ev_slice, ev_onone, ev_osome, intOf_int, ev_ttrue, ev_count, strOf_str, cntS_ch, revD_tup, lst2, max_two, min_two, look_kv, getD_int, dset_int l _ _ (show l.length < LIM by unfold LIM; omega)]
theorem gl_2 (hgh n ix : Int) (b be : Option D) : ∀ (r l : List (Int × Int)) (g6 g7 g8 g9 g10 : Option D), l.length + 2 * r.length < 1000000 →
    ∃ g6' g7' g8' g9' g10', forL (gtT [6, 7]) B_greatest_low_2 (r.map itD) [b, some (.int hgh), be, some (.int ix), some (.int n), some (dctI l), g6, g7, g8, g9, g10] = .next [b, some (.int hgh), be, some (.int ix), some (.int n), some (dctI (bsNext minZ maxZ 1 hgh n (decide (ix = 0)) l r)), g6', g7', g8', g9', g10'] := by
  intro r
  induction r with
  | nil => exact fun l g6 g7 g8 g9 g10 _ => ⟨g6, g7, g8, g9, g10, rfl⟩
  | cons e r ih =>
    intro l g6 g7 g8 g9 g10 h
    rw [List.length_cons] at h
    have h2 := bsAdd_len minZ maxZ e.1 e.2 (stepsM 1 hgh e.1 n (decide (ix = 0))) l
    have h3 := stepsM_len 1 hgh e.1 n (decide (ix = 0))
    obtain ⟨x8, x9, x10, h1⟩ := gl_1 b (some (.int hgh)) be (some (.int ix)) (some (.int n)) e.1 e.2 (stepsM 1 hgh e.1 n (decide (ix = 0))) l g8 g9 g10 (by omega)
    obtain ⟨y6, y7, y8, y9, y10, h4⟩ := ih (bsAdd minZ maxZ e.1 e.2 l (stepsM 1 hgh e.1 n (decide (ix = 0)))) (some (.int e.1)) (some (.int e.2)) x8 x9 x10 (by omega)
    refine ⟨y6, y7, y8, y9, y10, (forL_step rfl ?_).trans h4⟩
    simp only [B_greatest_low_2, ev_seq, ev_nil, ev_set, ev_ret, ev_if, ev_for, forI_ok, ev_varS, ev_var0, ev_cst, ev_un, ev_bin, ev_eif, ev_tst, blD_bl, ev_tval, ev_cmp, ev_chn, ev_tnot, ev_tand, ev_tor, ev_anil, ev_acons, ev_args, ev_eand, ev_eor, notD_bl, addD_int, subD_int, negD_int, ltD_int, leD_int, gtD_int, geD_int, eqD_int, neD_int, ev_app, lstOf_lst, dctOf_dct, ev_par2, noX_ok, ev_unp, gtN_eq, gtT2, tup2, tup1, tup0, lst0, lst1, idx_pair0, idx_pair1, thn_next, thn_ret, thn_exc, thn_bad, res_next, res_ret, cnd_ok, env_ok, out_ok, bind_ok, forB_ok, setAll_cons, setAll_nil, List.set_cons_succ, List.set_cons_zero, ev_dset, ev_daug, ev_get2, getOr_int, dctOf_I, ev_comp, wipeE_cons, wipeE_nil, ev_slice, ev_onone, ev_osome, intOf_int, ev_ttrue, ev_count, strOf_str, cntS_ch, revD_tup, steps_eq, itemsD, h1]
theorem lh_3 (low : Int) (b : Option D) : ∀ (ns : List Int) (k : Nat) (row : List (Int × Int)) (g3 g4 g5 g6 g7 g8 g9 g10 : Option D), row.length * 2 ^ ns.length < 400000 →
    ∃ g3' g4' g5' g6' g7' g8' g9' g10', forL (gtT [3, 4]) B_least_high_3 ((enI k ns).map (enD D.int)) [b, some (.int low), some (dctI row), g3, g4, g5, g6, g7, g8, g9, g10] = .next [b, some (.int low), some (dctI (bsRow maxZ minZ low 1000000000 row (decide ((k : Int) = 0)) ns)), g3', g4', g5', g6', g7', g8', g9', g10'] := by
  intro ns
  induction ns with
  | nil => exact fun k row g3 g4 g5 g6 g7 g8 g9 g10 _ => ⟨g3, g4, g5, g6, g7, g8, g9, g10, rfl⟩
  | cons n ns ih =>
    intro k row g3 g4 g5 g6 g7 g8 g9 g10 h
    have hp : 1 ≤ 2 ^ ns.length := Nat.one_le_two_pow
    rw [List.length_cons, Nat.pow_succ] at h
    have hr : row.length * 2 ≤ row.length * (2 ^ ns.length * 2) := Nat.mul_le_mul_left _ (by omega)
    have hb := bsNext_len maxZ minZ low 1000000000 n (decide ((k : Int) = 0)) row []
    obtain ⟨x6, x7, x8, x9, x10, h1⟩ := lh_2 low n k b (some (dctI row)) row [] g6 g7 g8 g9 g10 (by simp; omega)
    have hb2 : (bsNext maxZ minZ low 1000000000 n (decide ((k : Int) = 0)) [] row).length * 2 ^ ns.length ≤ row.length * (2 ^ ns.length * 2) := by
      have : (bsNext maxZ minZ low 1000000000 n (decide ((k : Int) = 0)) [] row).length ≤ 2 * row.length := by simpa using hb
      calc _ ≤ (2 * row.length) * 2 ^ ns.length := Nat.mul_le_mul_right _ this
        _ = row.length * (2 ^ ns.length * 2) := by rw [Nat.mul_comm 2 row.length, Nat.mul_assoc, Nat.mul_comm 2]
    obtain ⟨y3, y4, y5, y6, y7, y8, y9, y10, h2⟩ := ih (k + 1) (bsNext maxZ minZ low 1000000000 n (decide ((k : Int) = 0)) [] row) (some (.int (k : Nat))) (some (.int n)) (some (dctI (bsNext maxZ minZ low 1000000000 n (decide ((k : Int) = 0)) [] row))) x6 x7 x8 x9 x10 (by omega)
    have ek : decide (((k + 1 : Nat) : Int) = 0) = false := decide_eq_false (by omega)
    rw [ek] at h2
    have e0 : (D.dct []) = dctI [] := rfl
    refine ⟨y3, y4, y5, y6, y7, y8, y9, y10, (forL_step rfl ?_).trans h2⟩
    simp only [B_least_high_3, ev_seq, ev_nil, ev_set, ev_ret, ev_if, ev_for, forI_ok, ev_varS, ev_var0, ev_cst, ev_un, ev_bin, ev_eif, ev_tst, blD_bl, ev_tval, ev_cmp, ev_chn, ev_tnot, ev_tand, ev_tor, ev_anil, ev_acons, ev_args, ev_eand, ev_eor, notD_bl, addD_int, subD_int, negD_int, ltD_int, leD_int, gtD_int, geD_int, eqD_int, neD_int, ev_app, lstOf_lst, dctOf_dct, ev_par2, noX_ok, ev_unp, gtN_eq, gtT2, tup2, tup1, tup0, lst0, lst1, idx_pair0, idx_pair1, thn_next, thn_ret, thn_exc, thn_bad, res_next, res_ret, cnd_ok, env_ok, out_ok, bind_ok, forB_ok, setAll_cons, setAll_nil, List.set_cons_succ, List.set_cons_zero, ev_dset, ev_daug, ev_get2, getOr_int, dctOf_I, ev_comp, wipeE_cons, wipeE_nil, ev_slice, ev_onone, ev_osome, intOf_int, ev_ttrue, ev_count, strOf_str, cntS_ch, revD_tup, e0, items_kv, h1]
theorem gl_3 (hgh : Int) (b : Option D) : ∀ (ns : List Int) (k : Nat) (row : List (Int × Int)) (g3 g4 g5 g6 g7 g8 g9 g10 : Option D), row.length * 2 ^ ns.length < 400000 →
    ∃ g3' g4' g5' g6' g7' g8' g9' g10', forL (gtT [3, 4]) B_greatest_low_3 ((enI k ns).map (enD D.int)) [b, some (.int hgh), some (dctI row), g3, g4, g5, g6, g7, g8, g9, g10] = .next [b, some (.int hgh), some (dctI (bsRow minZ maxZ 1 hgh row (decide ((k : Int) = 0)) ns)), g3', g4', g5', g6', g7', g8', g9', g10'] := by
  intro ns
  induction ns with
  | nil => exact fun k row g3 g4 g5 g6 g7 g8 g9 g10 _ => ⟨g3, g4, g5, g6, g7, g8, g9, g10, rfl⟩
  | cons n ns ih =>
    intro k row g3 g4 g5 g6 g7 g8 g9 g10 h
    have hp : 1 ≤ 2 ^ ns.length := Nat.one_le_two_pow
    rw [List.length_cons, Nat.pow_succ] at h
    have hr : row.length * 2 ≤ row.length * (2 ^ ns.length * 2) := Nat.mul_le_mul_left _ (by omega)
    have hb := bsNext_len minZ maxZ 1 hgh n (decide ((k : Int) = 0)) row []
    obtain ⟨x6, x7, x8, x9, x10, h1⟩ := gl_2 hgh n k b (some (dctI row)) row [] g6 g7 g8 g9 g10 (by simp; omega)
    have hb2 : (bsNext minZ maxZ 1 hgh n (decide ((k : Int) = 0)) [] row).length * 2 ^ ns.length ≤ row.length * (2 ^ ns.length * 2) := by
      have : (bsNext minZ maxZ 1 hgh n (decide ((k : Int) = 0)) [] row).length ≤ 2 * row.length := by simpa using hb
      calc _ ≤ (2 * row.length) * 2 ^ ns.length := Nat.mul_le_mul_right _ this
        _ = row.length * (2 ^ ns.length * 2) := by rw [Nat.mul_comm 2 row.length, Nat.mul_assoc, Nat.mul_comm 2]
    obtain ⟨y3, y4, y5, y6, y7, y8, y9, y10, h2⟩ := ih (k + 1) (bsNext minZ maxZ 1 hgh n (decide ((k : Int) = 0)) [] row) (some (.int (k : Nat))) (some (.int n)) (some (dctI (bsNext minZ maxZ 1 hgh n (decide ((k : Int) = 0)) [] row))) x6 x7 x8 x9 x10 (by omega)
    have ek : decide (((k + 1 : Nat) : Int) = 0) = false := decide_eq_false (by omega)
    rw [ek] at h2
    have e0 : (D.dct []) = dctI [] := rfl
    refine ⟨y3, y4, y5, y6, y7, y8, y9, y10, (forL_step rfl ?_).trans h2⟩
    simp only [B_greatest_low_3, ev_seq, ev_nil, ev_set, ev_ret, ev_if, ev_for, forI_ok, ev_varS, ev_var0, ev_cst, ev_un, ev_bin, ev_eif, ev_tst, blD_bl, ev_tval, ev_cmp, ev_chn, ev_tnot, ev_tand, ev_tor, ev_anil, ev_acons, ev_args, ev_eand, ev_eor, notD_bl, addD_int, subD_int, negD_int, ltD_int, leD_int, gtD_int, geD_int, eqD_int, neD_int, ev_app, lstOf_lst, dctOf_dct, ev_par2, noX_ok, ev_unp, gtN_eq, gtT2, tup2, tup1, tup0, lst0, lst1, idx_pair0, idx_pair1, thn_next, thn_ret, thn_exc, thn_bad, res_next, res_ret, cnd_ok, env_ok, out_ok, bind_ok, forB_ok, setAll_cons, setAll_nil, List.set_cons_succ, List.set_cons_zero, ev_dset, ev_daug, ev_get2, getOr_int, dctOf_I, ev_comp, wipeE_cons, wipeE_nil, ev_slice, ev_onone, ev_osome, intOf_int, ev_ttrue, ev_count, strOf_str, cntS_ch, revD_tup, e0, items_kv, h1]
theorem nemptyD_I (r : List (Int × Int)) : nemptyD (dctI r) (.dct []) = .ok (!r.isEmpty) := by
  show Res.ok (!(r.map kvD).isEmpty) = _
  cases r <;> rfl
theorem vals_I (r : List (Int × Int)) : intsOf ((r.map kvD).map (·.2)) = some (r.map (·.2)) := by
  have : (r.map kvD).map (·.2) = (r.map (·.2)).map D.int := by rw [List.map_map, List.map_map]; rfl
  rw [this, intsOf_map]
theorem minV_I (p : Int × Int) (r : List (Int × Int)) : minV (dctI (p :: r)) = .ok (.int (minI p.2 (r.map (·.2)))) := by
  show (match intsOf (((p :: r).map kvD).map (·.2)) with | some (n :: ns) => Res.ok (D.int (minI n ns)) | _ => .bad) = _
  rw [vals_I]
  rfl
theorem maxV_I (p : Int × Int) (r : List (Int × Int)) : maxV (dctI (p :: r)) = .ok (.int (maxI p.2 (r.map (·.2)))) := by
  show (match intsOf (((p :: r).map kvD).map (·.2)) with | some (n :: ns) => Res.ok (D.int (maxI n ns)) | _ => .bad) = _
  rw [vals_I]
  rfl
def lhM (low : Int) (ns : List Int) : D := match bsRow maxZ minZ low 1000000000 [(0, low)] true ns with
  | [] => .non
  | p :: r => .int (minI p.2 (r.map (·.2)))
def glM (hgh : Int) (ns : List Int) : D := match bsRow minZ maxZ 1 hgh [(0, hgh)] true ns with
  | [] => .non
  | p :: r => .int (maxI p.2 (r.map (·.2)))
theorem least_eq (low : Int) (ns : List Int) (h : ns.length ≤ 18) : S_least_high [tupI ns, .int low] = .ok (lhM low ns) := by
  have hp : 2 ^ ns.length ≤ 2 ^ 18 := Nat.pow_le_pow_right (by decide) h
  obtain ⟨y3, y4, y5, y6, y7, y8, y9, y10, h1⟩ := lh_3 low (some (tupI ns)) ns 0 [(0, low)] none none none none none none none none (by simp; omega)
  have e1 : eDct1 0 (eVar 1) [some (tupI ns), some (.int low), none, none, none, none, none, none, none, none, none] = .ok (dctI [(0, low)]) := rfl
  have et : decide (((0 : Nat) : Int) = 0) = true := rfl
  rw [et] at h1
  rw [R_least_high]
  simp only [B_least_high, ev_seq, ev_nil, ev_set, ev_ret, ev_if, ev_for, forI_ok, ev_varS, ev_var0, ev_cst, ev_un, ev_bin, ev_eif, ev_tst, blD_bl, ev_tval, ev_cmp, ev_chn, ev_tnot, ev_tand, ev_tor, ev_anil, ev_acons, ev_args, ev_eand, ev_eor, notD_bl, addD_int, subD_int, negD_int, ltD_int, leD_int, gtD_int, geD_int, eqD_int, neD_int, ev_app, lstOf_lst, dctOf_dct, ev_par2, noX_ok, ev_unp, gtN_eq, gtT2, tup2, tup1, tup0, lst0, lst1, idx_pair0, idx_pair1, thn_next, thn_ret, thn_exc, thn_bad, res_next, res_ret, cnd_ok, env_ok, out_ok, bind_ok, forB_ok, setAll_cons, setAll_nil, List.set_cons_succ, List.set_cons_zero, ev_dset, ev_daug, ev_get2, getOr_int, dctOf_I, ev_comp, wipeE_cons, wipeE_nil, ev_slice, ev_onone, ev_osome, intOf_int, ev_ttrue, ev_count, strOf_str, cntS_ch, revD_tup, e1, enum_tup, h1, nemptyD_I]
  unfold lhM
  cases bsRow maxZ minZ low 1000000000 [(0, low)] true ns with
  | nil => rfl
  | cons p r => simp only [List.isEmpty_cons, Bool.not_false, if_true, minV_I, ev_seq, ev_nil, ev_set, ev_ret, ev_if, ev_for, forI_ok, ev_varS, ev_var0, ev_cst, ev_un, ev_bin, ev_eif, ev_tst, blD_bl, ev_tval, ev_cmp, ev_chn, ev_tnot, ev_tand, ev_tor, ev_anil, ev_acons, ev_args, ev_eand, ev_eor, notD_bl, addD_int, subD_int, negD_int, ltD_int, leD_int, gtD_int, geD_int, eqD_int, neD_int, ev_app, lstOf_lst, dctOf_dct, ev_par2, noX_ok, ev_unp, gtN_eq, gtT2, tup2, tup1, tup0, lst0, lst1, idx_pair0, idx_pair1, thn_next, thn_ret, thn_exc, thn_bad, res_next, res_ret, cnd_ok, env_ok, out_ok, bind_ok, forB_ok, setAll_cons, setAll_nil, List.set_cons_succ, List.set_cons_zero, ev_dset, ev_daug, ev_get2, getOr_int, dctOf_I, ev_comp, wipeE_cons, wipeE_nil, ev_slice, ev_onone, ev_osome, intOf_int, ev_ttrue, ev_count, strOf_str, cntS_ch, revD_tup]
theorem greatest_eq (hgh : Int) (ns : List Int) (h : ns.length ≤ 18) : S_greatest_low [tupI ns, .int hgh] = .ok (glM hgh ns) := by
  have hp : 2 ^ ns.length ≤ 2 ^ 18 := Nat.pow_le_pow_right (by decide) h
  obtain ⟨y3, y4, y5, y6, y7, y8, y9, y10, h1⟩ := gl_3 hgh (some (tupI ns)) ns 0 [(0, hgh)] none none none none none none none none (by simp; omega)
  have e1 : eDct1 0 (eVar 1) [some (tupI ns), some (.int hgh), none, none, none, none, none, none, none, none, none] = .ok (dctI [(0, hgh)]) := rfl
  have et : decide (((0 : Nat) : Int) = 0) = true := rfl
  rw [et] at h1
  rw [R_greatest_low]
  simp only [B_greatest_low, ev_seq, ev_nil, ev_set, ev_ret, ev_if, ev_for, forI_ok, ev_varS, ev_var0, ev_cst, ev_un, ev_bin, ev_eif, ev_tst, blD_bl, ev_tval, ev_cmp, ev_chn, ev_tnot, ev_tand, ev_tor, ev_anil, ev_acons, ev_args, ev_eand, ev_eor, notD_bl, addD_int, subD_int, negD_int, ltD_int, leD_int, gtD_int, geD_int, eqD_int, neD_int, ev_app, lstOf_lst, dctOf_dct, ev_par2, noX_ok, ev_unp, gtN_eq, gtT2, tup2, tup1, tup0, lst0, lst1, idx_pair0, idx_pair1, thn_next, thn_ret, thn_exc, thn_bad, res_next, res_ret, cnd_ok, env_ok, out_ok, bind_ok, forB_ok, setAll_cons, setAll_nil, List.set_cons_succ, List.set_cons_zero, ev_dset, ev_daug, ev_get2, getOr_int, dctOf_I, ev_comp, wipeE_cons, wipeE_nil, ev_slice, ev_onone, ev_osome, intOf_int, ev_ttrue, ev_count, strOf_str, cntS_ch, revD_tup, e1, enum_tup, h1, nemptyD_I]
  unfold glM
  cases bsRow minZ maxZ 1 hgh [(0, hgh)] true ns with
  | nil => rfl
  | cons p r => simp only [List.isEmpty_cons, Bool.not_false, if_true, maxV_I, ev_seq, ev_nil, ev_set, ev_ret, ev_if, ev_for, forI_ok, ev_varS, ev_var0, ev_cst, ev_un, ev_bin, ev_eif, ev_tst, blD_bl, ev_tval, ev_cmp, ev_chn, ev_tnot, ev_tand, ev_tor, ev_anil, ev_acons, ev_args, ev_eand, ev_eor, notD_bl, addD_int, subD_int, negD_int, ltD_int, leD_int, gtD_int, geD_int, eqD_int, neD_int, ev_app, lstOf_lst, dctOf_dct, ev_par2, noX_ok, ev_unp, gtN_eq, gtT2, tup2, tup1, tup0, lst0, lst1, idx_pair0, idx_pair1, thn_next, thn_ret, thn_exc, thn_bad, res_next, res_ret, cnd_ok, env_ok, out_ok, bind_ok, forB_ok, setAll_cons, setAll_nil, List.set_cons_succ, List.set_cons_zero, ev_dset, ev_daug, ev_get2, getOr_int, dctOf_I, ev_comp, wipeE_cons, wipeE_nil, ev_slice, ev_onone, ev_osome, intOf_int, ev_ttrue, ev_count, strOf_str, cntS_ch, revD_tup]
end PL
set_option Elab.async false
set_option linter.all false
set_option maxRecDepth 100000
set_option maxHeartbeats 4000000
namespace PL
open PySem PySem.Spec PyProof.Rows L2
def mxL : List Int → Int
  | [] => 0
  | a :: r => maxI a r
def mnL : List Int → Int
  | [] => 0
  | a :: r => minI a r
theorem mxL_spec {l : List Int} (h : l ≠ []) : mxL l ∈ l ∧ ∀ x ∈ l, x ≤ mxL l := by
  cases l with
  | nil => exact absurd rfl h
  | cons a r =>
    obtain ⟨s1, s2, s3⟩ := maxI_spec r a
    refine ⟨?_, fun x hx => ?_⟩
    · show maxI a r ∈ a :: r
      rcases s1 with e | e
      · rw [e]; exact List.mem_cons_self ..
      · exact List.mem_cons_of_mem _ e
    · rcases List.mem_cons.mp hx with e | e
      · rw [e]; exact s2
      · exact s3 x e
theorem mnL_spec {l : List Int} (h : l ≠ []) : mnL l ∈ l ∧ ∀ x ∈ l, mnL l ≤ x := by
  cases l with
  | nil => exact absurd rfl h
  | cons a r =>
    obtain ⟨s1, s2, s3⟩ := minI_spec r a
    refine ⟨?_, fun x hx => ?_⟩
    · show minI a r ∈ a :: r
      rcases s1 with e | e
      · rw [e]; exact List.mem_cons_self ..
      · exact List.mem_cons_of_mem _ e
    · rcases List.mem_cons.mp hx with e | e
      · rw [e]; exact s2
      · exact s3 x e
theorem opL_max : ∀ (ls : List Int) (a : Int), a ≤ opL maxZ a ls ∧ (∀ x ∈ ls, x ≤ opL maxZ a ls) ∧ (opL maxZ a ls = a ∨ opL maxZ a ls ∈ ls)
  | [], a => ⟨Int.le_refl _, fun x h => by simp at h, .inl rfl⟩
  | l :: ls, a => by
    obtain ⟨h1, h2, h3⟩ := opL_max ls (maxZ a l)
    have e := maxZ_eq a l
    show a ≤ opL maxZ (maxZ a l) ls ∧ (∀ x ∈ l :: ls, x ≤ opL maxZ (maxZ a l) ls) ∧ (opL maxZ (maxZ a l) ls = a ∨ opL maxZ (maxZ a l) ls ∈ l :: ls)
    refine ⟨by split at e <;> omega, fun x hx => ?_, ?_⟩
    · rcases List.mem_cons.mp hx with h | h
      · split at e <;> omega
      · exact h2 x h
    · rcases h3 with h | h
      · split at e
        · exact .inr (by rw [h, e]; exact List.mem_cons_self ..)
        · exact .inl (h.trans e)
      · exact .inr (List.mem_cons_of_mem _ h)
theorem opL_min : ∀ (ls : List Int) (a : Int), opL minZ a ls ≤ a ∧ (∀ x ∈ ls, opL minZ a ls ≤ x) ∧ (opL minZ a ls = a ∨ opL minZ a ls ∈ ls)
  | [], a => ⟨Int.le_refl _, fun x h => by simp at h, .inl rfl⟩
  | l :: ls, a => by
    obtain ⟨h1, h2, h3⟩ := opL_min ls (minZ a l)
    have e := minZ_eq a l
    show opL minZ (minZ a l) ls ≤ a ∧ (∀ x ∈ l :: ls, opL minZ (minZ a l) ls ≤ x) ∧ (opL minZ (minZ a l) ls = a ∨ opL minZ (minZ a l) ls ∈ l :: ls)
    refine ⟨by split at e <;> omega, fun x hx => ?_, ?_⟩
    · rcases List.mem_cons.mp hx with h | h
      · split at e <;> omega
      · exact h2 x h
    · rcases h3 with h | h
      · split at e
        · exact .inr (by rw [h, e]; exact List.mem_cons_self ..)
        · exact .inl (h.trans e)
      · exact .inr (List.mem_cons_of_mem _ h)
theorem opL_mx {ls : List Int} {a : Int} (hne : ls ≠ []) (h : ∀ x ∈ ls, a ≤ x) : opL maxZ a ls = mxL ls := by
  obtain ⟨h1, h2, h3⟩ := opL_max ls a
  obtain ⟨m1, m2⟩ := mxL_spec hne
  have q1 := h2 _ m1
  have q2 := h _ m1
  rcases h3 with e | e
  · omega
  · have := m2 _ e; omega
theorem opL_mn {ls : List Int} {a : Int} (hne : ls ≠ []) (h : ∀ x ∈ ls, x ≤ a) : opL minZ a ls = mnL ls := by
  obtain ⟨h1, h2, h3⟩ := opL_min ls a
  obtain ⟨m1, m2⟩ := mnL_spec hne
  have q1 := h2 _ m1
  have q2 := h _ m1
  rcases h3 with e | e
  · omega
  · have := m2 _ e; omega
theorem laps_ne {t : Int} {ns : List Int} {ks : List Nat} (hn : ns ≠ []) (hl : ks.length = ns.length) : lapsM t ns ks ≠ [] := by
  cases ns with
  | nil => exact absurd rfl hn
  | cons n ns =>
    cases ks with
    | nil => simp at hl
    | cons k ks => simp [lapsM]
theorem start_holds (R : Int → Int → Prop) (rf : ∀ a, R a a) (a : Int) : Holds R [(0, a)] (fun t m => t = 0 ∧ m = a) where
  nd := by simp [keys]
  get := fun t m h => by
    have := getI_mem h
    have e : (t, m) = (0, a) := by simpa using this
    cases e
    exact ⟨⟨rfl, rfl⟩, fun m' hm => by rw [hm.2]; exact rf _⟩
  has := fun t m h => by rw [h.1]; simp [keys]
theorem lh_none {low : Int} {ns : List Int} (h : rd low 1000000000 0 true ns = []) : lhM low ns = .non := by
  obtain ⟨k1, k2, k3⟩ := bsRow_holds ordHigh low 1000000000 ns [(0, low)] true _ (start_holds _ Int.le_refl low)
  unfold lhM
  cases hb : bsRow maxZ minZ low 1000000000 [(0, low)] true ns with
  | nil => rfl
  | cons p r =>
    rw [hb] at k2 k3
    obtain ⟨⟨t, m, ⟨rfl, _⟩, ks, hk, _⟩, _⟩ := k3 p.1 p.2 (mem_getI k2 (List.mem_cons_self ..))
    rw [h] at hk
    simp at hk
theorem gl_none {hgh : Int} {ns : List Int} (h : rd 1 hgh 0 true ns = []) : glM hgh ns = .non := by
  obtain ⟨k1, k2, k3⟩ := bsRow_holds ordLow 1 hgh ns [(0, hgh)] true _ (start_holds (· ≥ ·) Int.le_refl hgh)
  unfold glM
  cases hb : bsRow minZ maxZ 1 hgh [(0, hgh)] true ns with
  | nil => rfl
  | cons p r =>
    rw [hb] at k2 k3
    obtain ⟨⟨t, m, ⟨rfl, _⟩, ks, hk, _⟩, _⟩ := k3 p.1 p.2 (mem_getI k2 (List.mem_cons_self ..))
    rw [h] at hk
    simp at hk
theorem lh_some {low : Int} {ns : List Int} (hn : ns ≠ []) (h : rd low 1000000000 0 true ns ≠ []) : ∃ m, lhM low ns = .int m ∧ (∃ ks ∈ rd low 1000000000 0 true ns, m = mxL (lapsM 0 ns ks)) ∧ ∀ ks ∈ rd low 1000000000 0 true ns, m ≤ mxL (lapsM 0 ns ks) := by
  obtain ⟨k1, k2, k3⟩ := bsRow_holds ordHigh low 1000000000 ns [(0, low)] true _ (start_holds _ Int.le_refl low)
  have hmx : ∀ ks ∈ rd low 1000000000 0 true ns, opL maxZ low (lapsM 0 ns ks) = mxL (lapsM 0 ns ks) := fun ks hk =>
    opL_mx (laps_ne hn (rd_len hk)) fun x hx => (okR_iff.mp ((mem_rd.mp hk).ok x hx)).1
  unfold lhM
  cases hb : bsRow maxZ minZ low 1000000000 [(0, low)] true ns with
  | nil =>
    obtain ⟨ks, hk⟩ := List.exists_mem_of_ne_nil _ h
    have := k1 _ _ ⟨0, low, ⟨rfl, rfl⟩, ks, hk, rfl, rfl⟩
    rw [hb] at this
    simp [keys] at this
  | cons p r =>
    rw [hb] at k1 k2 k3
    obtain ⟨m1, m2⟩ := mnL_spec (l := (p :: r).map (·.2)) (by simp)
    refine ⟨minI p.2 (r.map (·.2)), rfl, ?_, fun ks hk => ?_⟩
    · obtain ⟨q, hq, e⟩ := List.mem_map.mp m1
      obtain ⟨⟨t, m, ⟨rfl, rfl⟩, ks, hk, _, e2⟩, _⟩ := k3 q.1 q.2 (mem_getI k2 hq)
      refine ⟨ks, hk, ?_⟩
      rw [← hmx ks hk, ← e2, e]
      rfl
    · have hin := k1 _ _ ⟨0, low, ⟨rfl, rfl⟩, ks, hk, rfl, rfl⟩
      obtain ⟨v, h1, h2⟩ := get_in hin
      have h3 := (k3 _ v h1).2 0 low ⟨rfl, rfl⟩ ks hk rfl
      have h4 := m2 v (List.mem_map.mpr ⟨_, h2, rfl⟩)
      rw [hmx ks hk] at h3
      exact Int.le_trans h4 h3
theorem gl_some {hgh : Int} {ns : List Int} (hn : ns ≠ []) (h : rd 1 hgh 0 true ns ≠ []) : ∃ m, glM hgh ns = .int m ∧ (∃ ks ∈ rd 1 hgh 0 true ns, m = mnL (lapsM 0 ns ks)) ∧ ∀ ks ∈ rd 1 hgh 0 true ns, mnL (lapsM 0 ns ks) ≤ m := by
  obtain ⟨k1, k2, k3⟩ := bsRow_holds ordLow 1 hgh ns [(0, hgh)] true _ (start_holds (· ≥ ·) Int.le_refl hgh)
  have hmx : ∀ ks ∈ rd 1 hgh 0 true ns, opL minZ hgh (lapsM 0 ns ks) = mnL (lapsM 0 ns ks) := fun ks hk =>
    opL_mn (laps_ne hn (rd_len hk)) fun x hx => (okR_iff.mp ((mem_rd.mp hk).ok x hx)).2
  unfold glM
  cases hb : bsRow minZ maxZ 1 hgh [(0, hgh)] true ns with
  | nil =>
    obtain ⟨ks, hk⟩ := List.exists_mem_of_ne_nil _ h
    have := k1 _ _ ⟨0, hgh, ⟨rfl, rfl⟩, ks, hk, rfl, rfl⟩
    rw [hb] at this
    simp [keys] at this
  | cons p r =>
    rw [hb] at k1 k2 k3
    obtain ⟨m1, m2⟩ := mxL_spec (l := (p :: r).map (·.2)) (by simp)
    refine ⟨maxI p.2 (r.map (·.2)), rfl, ?_, fun ks hk => ?_⟩
    · obtain ⟨q, hq, e⟩ := List.mem_map.mp m1
      obtain ⟨⟨t, m, ⟨rfl, rfl⟩, ks, hk, _, e2⟩, _⟩ := k3 q.1 q.2 (mem_getI k2 hq)
      refine ⟨ks, hk, ?_⟩
      rw [← hmx ks hk, ← e2, e]
      rfl
    · have hin := k1 _ _ ⟨0, hgh, ⟨rfl, rfl⟩, ks, hk, rfl, rfl⟩
      obtain ⟨v, h1, h2⟩ := get_in hin
      have h3 : opL minZ hgh (lapsM 0 ns ks) ≤ v := (k3 _ v h1).2 0 hgh ⟨rfl, rfl⟩ ks hk rfl
      have h4 := m2 v (List.mem_map.mpr ⟨_, h2, rfl⟩)
      rw [hmx ks hk] at h3
      exact Int.le_trans h3 h4
theorem rd_sub {lo hi lo' hi' : Int} {ns : List Int} {ks : List Nat} : ks ∈ rd lo' hi' 0 true ns ↔ (Rdg lo hi 0 true ns ks ∨ ¬ Rdg lo hi 0 true ns ks) ∧ ks.length = ns.length ∧ KS ks ∧ (∀ k ∈ ks.head?, k = 108) ∧ ∀ l ∈ lapsM 0 ns ks, okR lo' hi' l = true := by
  rw [mem_rd]
  exact ⟨fun h => ⟨Classical.em _, h.len, h.al, h.hd rfl, h.ok⟩, fun h => ⟨h.2.1, h.2.2.1, fun _ => h.2.2.2.1, h.2.2.2.2⟩⟩
theorem rd_low {low : Int} (h1 : 1 ≤ low) {ns : List Int} (hn : ns ≠ []) {ks : List Nat} : ks ∈ rd low 1000000000 0 true ns ↔ ks ∈ rd 1 1000000000 0 true ns ∧ low ≤ mnL (lapsM 0 ns ks) := by
  constructor
  · intro h
    have g := mem_rd.mp h
    obtain ⟨m1, m2⟩ := mnL_spec (laps_ne (t := 0) hn g.len)
    refine ⟨mem_rd.mpr ⟨g.len, g.al, g.hd, fun l hl => okR_iff.mpr ?_⟩, (okR_iff.mp (g.ok _ m1)).1⟩
    have := okR_iff.mp (g.ok l hl)
    omega
  · rintro ⟨h, h2⟩
    have g := mem_rd.mp h
    obtain ⟨m1, m2⟩ := mnL_spec (laps_ne (t := 0) hn g.len)
    refine mem_rd.mpr ⟨g.len, g.al, g.hd, fun l hl => okR_iff.mpr ?_⟩
    have q1 := okR_iff.mp (g.ok l hl)
    have q2 := m2 l hl
    omega
theorem rd_high {hgh : Int} (h1 : hgh ≤ 1000000000) {ns : List Int} (hn : ns ≠ []) {ks : List Nat} : ks ∈ rd 1 hgh 0 true ns ↔ ks ∈ rd 1 1000000000 0 true ns ∧ mxL (lapsM 0 ns ks) ≤ hgh := by
  constructor
  · intro h
    have g := mem_rd.mp h
    obtain ⟨m1, m2⟩ := mxL_spec (laps_ne (t := 0) hn g.len)
    refine ⟨mem_rd.mpr ⟨g.len, g.al, g.hd, fun l hl => okR_iff.mpr ?_⟩, (okR_iff.mp (g.ok _ m1)).2⟩
    have := okR_iff.mp (g.ok l hl)
    omega
  · rintro ⟨h, h2⟩
    have g := mem_rd.mp h
    obtain ⟨m1, m2⟩ := mxL_spec (laps_ne (t := 0) hn g.len)
    refine mem_rd.mpr ⟨g.len, g.al, g.hd, fun l hl => okR_iff.mpr ?_⟩
    have q1 := okR_iff.mp (g.ok l hl)
    have q2 := m2 l hl
    omega
def allR (ns : List Int) : List (Int × Int) := (rd 1 1000000000 0 true ns).map fun ks => (mnL (lapsM 0 ns ks), mxL (lapsM 0 ns ks))
def optMin : List Int → D
  | [] => .non
  | a :: r => .int (minI a r)
def optMax : List Int → D
  | [] => .non
  | a :: r => .int (maxI a r)
theorem lh_due {low : Int} (h1 : 1 ≤ low) {ns : List Int} (hn : ns ≠ []) : lhM low ns = optMin (((allR ns).filter fun p => decide (low ≤ p.1)).map (·.2)) := by
  by_cases h : rd low 1000000000 0 true ns = []
  · rw [lh_none h]
    have : ((allR ns).filter fun p => decide (low ≤ p.1)) = [] := by
      rw [List.filter_eq_nil_iff]
      intro p hp
      obtain ⟨ks, hk, rfl⟩ := List.mem_map.mp hp
      intro h2
      have : ks ∈ rd low 1000000000 0 true ns := (rd_low h1 hn).mpr ⟨hk, of_decide_eq_true h2⟩
      rw [h] at this
      simp at this
    rw [this]
    rfl
  · obtain ⟨m, e, ⟨ks, hk, hm⟩, hle⟩ := lh_some hn h
    rw [e]
    have hin : m ∈ ((allR ns).filter fun p => decide (low ≤ p.1)).map (·.2) := by
      obtain ⟨k1, k2⟩ := (rd_low h1 hn).mp hk
      exact List.mem_map.mpr ⟨(mnL (lapsM 0 ns ks), mxL (lapsM 0 ns ks)), List.mem_filter.mpr ⟨List.mem_map.mpr ⟨ks, k1, rfl⟩, decide_eq_true k2⟩, hm.symm⟩
    have hall : ∀ j ∈ ((allR ns).filter fun p => decide (low ≤ p.1)).map (·.2), m ≤ j := fun j hj => by
      obtain ⟨p, hp, rfl⟩ := List.mem_map.mp hj
      obtain ⟨p1, p2⟩ := List.mem_filter.mp hp
      obtain ⟨ks2, hk2, rfl⟩ := List.mem_map.mp p1
      exact hle ks2 ((rd_low h1 hn).mpr ⟨hk2, of_decide_eq_true p2⟩)
    cases hd : ((allR ns).filter fun p => decide (low ≤ p.1)).map (·.2) with
    | nil => rw [hd] at hin; simp at hin
    | cons a r =>
      rw [hd] at hin hall
      show D.int m = .int (minI a r)
      rw [minI_is hin hall]
theorem gl_due {hgh : Int} (h1 : hgh ≤ 1000000000) {ns : List Int} (hn : ns ≠ []) : glM hgh ns = optMax (((allR ns).filter fun p => decide (p.2 ≤ hgh)).map (·.1)) := by
  by_cases h : rd 1 hgh 0 true ns = []
  · rw [gl_none h]
    have : ((allR ns).filter fun p => decide (p.2 ≤ hgh)) = [] := by
      rw [List.filter_eq_nil_iff]
      intro p hp
      obtain ⟨ks, hk, rfl⟩ := List.mem_map.mp hp
      intro h2
      have : ks ∈ rd 1 hgh 0 true ns := (rd_high h1 hn).mpr ⟨hk, of_decide_eq_true h2⟩
      rw [h] at this
      simp at this
    rw [this]
    rfl
  · obtain ⟨m, e, ⟨ks, hk, hm⟩, hle⟩ := gl_some hn h
    rw [e]
    have hin : m ∈ ((allR ns).filter fun p => decide (p.2 ≤ hgh)).map (·.1) := by
      obtain ⟨k1, k2⟩ := (rd_high h1 hn).mp hk
      exact List.mem_map.mpr ⟨(mnL (lapsM 0 ns ks), mxL (lapsM 0 ns ks)), List.mem_filter.mpr ⟨List.mem_map.mpr ⟨ks, k1, rfl⟩, decide_eq_true k2⟩, hm.symm⟩
    have hall : ∀ j ∈ ((allR ns).filter fun p => decide (p.2 ≤ hgh)).map (·.1), j ≤ m := fun j hj => by
      obtain ⟨p, hp, rfl⟩ := List.mem_map.mp hj
      obtain ⟨p1, p2⟩ := List.mem_filter.mp hp
      obtain ⟨ks2, hk2, rfl⟩ := List.mem_map.mp p1
      exact hle ks2 ((rd_high h1 hn).mpr ⟨hk2, of_decide_eq_true p2⟩)
    cases hd : ((allR ns).filter fun p => decide (p.2 ≤ hgh)).map (·.1) with
    | nil => rw [hd] at hin; simp at hin
    | cons a r =>
      rw [hd] at hin hall
      show D.int m = .int (maxI a r)
      rw [maxI_is hin hall]
theorem laps_1 (ns : List Int) (hn : ns ≠ []) (h100 : ns.length < 1000) : ∀ (ks : List (List Nat)) (fd : List (Int × Int)) (g2 g3 : Option D), (∀ k ∈ ks, k ∈ rd 1 1000000000 0 true ns) → fd.length + ks.length < 1000000 →
    ∃ g2' g3', forL (gtN 2) B__law_all_laps_1 (ks.map D.str) [some (tupI ns), some (lstP fd), g2, g3] = .next [some (tupI ns), some (lstP (fd ++ ks.map fun ks => (mnL (lapsM 0 ns ks), mxL (lapsM 0 ns ks)))), g2', g3'] := by
  intro ks
  induction ks with
  | nil => exact fun fd g2 g3 _ _ => ⟨g2, g3, by rw [List.map_nil, List.map_nil, List.append_nil, forL_nil]⟩
  | cons k ks ih =>
    intro fd g2 g3 hk hl
    rw [List.length_cons] at hl
    have hkr := hk k (List.mem_cons_self ..)
    have hne := laps_ne (t := 0) hn (rd_len hkr)
    obtain ⟨y2, y3, h1⟩ := ih (fd ++ [(mnL (lapsM 0 ns k), mxL (lapsM 0 ns k))]) (some (.str k)) (some (lstI (lapsM 0 ns k))) (fun z hz => hk z (List.mem_cons_of_mem _ hz)) (by rw [List.length_append, List.length_singleton]; omega)
    refine ⟨y2, y3, (forL_step (gtN_eq ..) ?_).trans (h1.trans ?_)⟩
    · have e1 : minD [lstI (lapsM 0 ns k)] = .ok (.int (mnL (lapsM 0 ns k))) := by
        cases hh : lapsM 0 ns k with
        | nil => exact absurd hh hne
        | cons a r =>
          show (match intsOf ((a :: r).map D.int) with | some (n :: ns) => Res.ok (D.int (minI n ns)) | _ => .bad) = _
          rw [intsOf_map]
          rfl
      have e2 : maxD [lstI (lapsM 0 ns k)] = .ok (.int (mxL (lapsM 0 ns k))) := by
        cases hh : lapsM 0 ns k with
        | nil => exact absurd hh hne
        | cons a r =>
          show (match intsOf ((a :: r).map D.int) with | some (n :: ns) => Res.ok (D.int (maxI n ns)) | _ => .bad) = _
          rw [intsOf_map]
          rfl
      have e3 : D.tup [.int (mnL (lapsM 0 ns k)), .int (mxL (lapsM 0 ns k))] = pairD (mnL (lapsM 0 ns k), mxL (lapsM 0 ns k)) := rfl
      simp only [B__law_all_laps_1, ev_seq, ev_nil, ev_set, ev_ret, ev_if, ev_for, forI_ok, ev_varS, ev_var0, ev_cst, ev_un, ev_bin, ev_eif, ev_tst, blD_bl, ev_tval, ev_cmp, ev_chn, ev_tnot, ev_tand, ev_tor, ev_anil, ev_acons, ev_args, ev_eand, ev_eor, notD_bl, addD_int, subD_int, negD_int, ltD_int, leD_int, gtD_int, geD_int, eqD_int, neD_int, ev_app, lstOf_lst, dctOf_dct, ev_par2, noX_ok, ev_unp, gtN_eq, gtT2, tup2, tup1, tup0, lst0, lst1, idx_pair0, idx_pair1, thn_next, thn_ret, thn_exc, thn_bad, res_next, res_ret, cnd_ok, env_ok, out_ok, bind_ok, forB_ok, setAll_cons, setAll_nil, List.set_cons_succ, List.set_cons_zero, ev_dset, ev_daug, ev_get2, getOr_int, dctOf_I, ev_comp, wipeE_cons, wipeE_nil, ev_slice, ev_onone, ev_osome, intOf_int, ev_ttrue, ev_count, strOf_str, cntS_ch, revD_tup, lengths_of_ok ns k (rd_KS hkr) (by omega), e1, e2, e3]
      rw [app_map (by unfold LIM; omega)]
      simp only [ev_seq, ev_nil, ev_set, ev_ret, ev_if, ev_for, forI_ok, ev_varS, ev_var0, ev_cst, ev_un, ev_bin, ev_eif, ev_tst, blD_bl, ev_tval, ev_cmp, ev_chn, ev_tnot, ev_tand, ev_tor, ev_anil, ev_acons, ev_args, ev_eand, ev_eor, notD_bl, addD_int, subD_int, negD_int, ltD_int, leD_int, gtD_int, geD_int, eqD_int, neD_int, ev_app, lstOf_lst, dctOf_dct, ev_par2, noX_ok, ev_unp, gtN_eq, gtT2, tup2, tup1, tup0, lst0, lst1, idx_pair0, idx_pair1, thn_next, thn_ret, thn_exc, thn_bad, res_next, res_ret, cnd_ok, env_ok, out_ok, bind_ok, forB_ok, setAll_cons, setAll_nil, List.set_cons_succ, List.set_cons_zero, ev_dset, ev_daug, ev_get2, getOr_int, dctOf_I, ev_comp, wipeE_cons, wipeE_nil, ev_slice, ev_onone, ev_osome, intOf_int, ev_ttrue, ev_count, strOf_str, cntS_ch, revD_tup]
    · rw [List.append_assoc]; rfl
theorem all_laps_eq (ns : List Int) (hn : ns ≠ []) (h14 : ns.length ≤ 14) : S__law_all_laps [tupI ns] = .ok (lstP (allR ns)) := by
  have hc : (rd 1 1000000000 0 true ns).length ≤ 2 ^ 14 := by
    have h1 := words_two ns.length (rd 1 1000000000 0 true ns) (fun _ => true) (rd_nodup _ _ _ _ _) (fun ks h => ⟨rd_len h, rd_KS h⟩) fun i _ h => by cases h
    have h2 : (List.range ns.length).countP (fun _ => true) ≤ 14 := by
      have := List.countP_le_length (p := fun _ : Nat => true) (l := List.range ns.length)
      rw [List.length_range] at this
      omega
    exact Nat.le_trans h1 (Nat.pow_le_pow_right (by decide) h2)
  obtain ⟨y2, y3, h1⟩ := laps_1 ns hn (by omega) (rd 1 1000000000 0 true ns) [] none none (fun k h => h) (by simp; omega)
  have e0 : powD (.int 10) (.int 9) = .ok (.int 1000000000) := by rfl
  have e1 : D.lst [] = lstP [] := rfl
  rw [R__law_all_laps]
  simp only [B__law_all_laps, ev_seq, ev_nil, ev_set, ev_ret, ev_if, ev_for, forI_ok, ev_varS, ev_var0, ev_cst, ev_un, ev_bin, ev_eif, ev_tst, blD_bl, ev_tval, ev_cmp, ev_chn, ev_tnot, ev_tand, ev_tor, ev_anil, ev_acons, ev_args, ev_eand, ev_eor, notD_bl, addD_int, subD_int, negD_int, ltD_int, leD_int, gtD_int, geD_int, eqD_int, neD_int, ev_app, lstOf_lst, dctOf_dct, ev_par2, noX_ok, ev_unp, gtN_eq, gtT2, tup2, tup1, tup0, lst0, lst1, idx_pair0, idx_pair1, thn_next, thn_ret, thn_exc, thn_bad, res_next, res_ret, cnd_ok, env_ok, out_ok, bind_ok, forB_ok, setAll_cons, setAll_nil, List.set_cons_succ, List.set_cons_zero, ev_dset, ev_daug, ev_get2, getOr_int, dctOf_I, ev_comp, wipeE_cons, wipeE_nil, ev_slice, ev_onone, ev_osome, intOf_int, ev_ttrue, ev_count, strOf_str, cntS_ch, revD_tup, e0, e1, readings_ok 1 1000000000 ns h14, itemsD, h1]
  rfl
end PL
set_option Elab.async false
set_option linter.all false
set_option maxRecDepth 100000
set_option maxHeartbeats 4000000
namespace PL
open PySem PySem.Spec PyProof.Rows L2
def mgGo (pre : List (Int × Int)) (q : Int × Int) : List (Int × Int) → List (Int × Int)
  | [] => pre ++ [q]
  | p :: ps => if p.1 ≤ q.2 + 1 then mgGo pre (q.1, maxZ q.2 p.2) ps else mgGo (pre ++ [q]) p ps
def mgAll : List (Int × Int) → List (Int × Int)
  | [] => []
  | p :: ps => mgGo [] p ps
def mergeM (l : List (Int × Int)) : List (Int × Int) := mgAll (isort ltP2 l)
theorem pairsOfD_map : ∀ ps : List (Int × Int), pairsOfD (ps.map pairD) = some ps
  | [] => rfl
  | p :: ps => by show (pairsOfD (ps.map pairD)).map (p :: ·) = _; rw [pairsOfD_map ps]; rfl
theorem sort_pairs (ps : List (Int × Int)) : sortD [lstP ps] = .ok (lstP (isort ltP2 ps)) := by
  cases ps with
  | nil => rfl
  | cons p ps =>
    have e1 : intsOf (pairD p :: ps.map pairD) = none := rfl
    have e2 : strsOf (pairD p :: ps.map pairD) = none := rfl
    have e3 : pairsOfD (pairD p :: ps.map pairD) = some (p :: ps) := pairsOfD_map (p :: ps)
    show sortD [.lst (pairD p :: ps.map pairD)] = _
    unfold sortD
    dsimp only
    rw [e1]
    dsimp only
    rw [e2]
    dsimp only
    rw [e3]
theorem lset_last (xs : List D) (x y : D) : lsetD (xs ++ [x]) y (.int (-1)) = .ok (.lst (xs ++ [y])) := by
  have e : ixN (xs ++ [x]).length (-1) = some xs.length := by
    unfold ixN
    simp
    omega
  unfold lsetD
  dsimp only
  rw [e]
  dsimp only
  rw [List.set_append_right _ _ (Nat.le_refl _), Nat.sub_self]
  rfl
theorem lstP_snoc (pre : List (Int × Int)) (q : Int × Int) : lstP (pre ++ [q]) = .lst (pre.map pairD ++ [pairD q]) := by
  show D.lst _ = D.lst _
  rw [List.map_append]
  rfl
theorem merged_1 (a : Option D) : ∀ (ps pre : List (Int × Int)) (q : Int × Int) (g2 g3 : Option D), pre.length + 1 + ps.length < 1000000 →
    ∃ g2' g3', forL (gtT [2, 3]) B_merged_1 (ps.map pairD) [a, some (lstP (pre ++ [q])), g2, g3] = .next [a, some (lstP (mgGo pre q ps)), g2', g3'] := by
  intro ps
  induction ps with
  | nil => exact fun pre q g2 g3 _ => ⟨g2, g3, rfl⟩
  | cons p ps ih =>
    intro pre q g2 g3 hl
    rw [List.length_cons] at hl
    have hne : decide (pre ++ [q] = []) = false := decide_eq_false (by simp)
    have e0 : D.lst [] = lstP [] := rfl
    have i1 : idxD (lstP (pre ++ [q])) (.int (-1)) = .ok (pairD q) := by rw [lstP_snoc]; exact idx_last _ _
    have i2 : idxD (pairD q) (.int 1) = .ok (.int q.2) := rfl
    have i3 : idxD (pairD q) (.int 0) = .ok (.int q.1) := rfl
    by_cases h : p.1 ≤ q.2 + 1
    · obtain ⟨y2, y3, h1⟩ := ih pre (q.1, maxZ q.2 p.2) (some (.int p.1)) (some (.int p.2)) (by omega)
      refine ⟨y2, y3, (forL_step rfl ?_).trans (h1.trans ?_)⟩
      · have e1 : lsetD ((pre ++ [q]).map pairD) (.tup [.int q.1, .int (maxZ q.2 p.2)]) (.int (-1)) = .ok (lstP (pre ++ [(q.1, maxZ q.2 p.2)])) := by
          rw [List.map_append, lstP_snoc]
          exact lset_last _ _ _
        simp only [B_merged_1, ev_seq, ev_nil, ev_set, ev_ret, ev_if, ev_for, forI_ok, ev_varS, ev_var0, ev_cst, ev_un, ev_bin, ev_eif, ev_tst, blD_bl, ev_tval, ev_cmp, ev_chn, ev_tnot, ev_tand, ev_tor, ev_anil, ev_acons, ev_args, ev_eand, ev_eor, notD_bl, addD_int, subD_int, negD_int, ltD_int, leD_int, gtD_int, geD_int, eqD_int, neD_int, ev_app, lstOf_lst, dctOf_dct, ev_par2, noX_ok, ev_unp, gtN_eq, gtT2, tup2, tup1, tup0, lst0, lst1, idx_pair0, idx_pair1, thn_next, thn_ret, thn_exc, thn_bad, res_next, res_ret, cnd_ok, env_ok, out_ok, bind_ok, forB_ok, setAll_cons, setAll_nil, List.set_cons_succ, List.set_cons_zero, ev_dset, ev_daug, ev_get2, getOr_int, dctOf_I, ev_comp, wipeE_cons, wipeE_nil, ev_slice, ev_onone, ev_osome, intOf_int, ev_ttrue, ev_count, strOf_str, cntS_ch, revD_tup, e0, ne_lstP, hne, Bool.not_false, if_true, i1, i2, i3, decide_eq_true h, ev_lset, lst2, max_two, e1]
      · show _ = Out.next [a, some (lstP (if p.1 ≤ q.2 + 1 then mgGo pre (q.1, maxZ q.2 p.2) ps else mgGo (pre ++ [q]) p ps)), y2, y3]
        rw [if_pos h]
    · obtain ⟨y2, y3, h1⟩ := ih (pre ++ [q]) p (some (.int p.1)) (some (.int p.2)) (by rw [List.length_append, List.length_singleton]; omega)
      refine ⟨y2, y3, (forL_step rfl ?_).trans (h1.trans ?_)⟩
      · have e1 : D.tup [.int p.1, .int p.2] = pairD p := rfl
        simp only [B_merged_1, ev_seq, ev_nil, ev_set, ev_ret, ev_if, ev_for, forI_ok, ev_varS, ev_var0, ev_cst, ev_un, ev_bin, ev_eif, ev_tst, blD_bl, ev_tval, ev_cmp, ev_chn, ev_tnot, ev_tand, ev_tor, ev_anil, ev_acons, ev_args, ev_eand, ev_eor, notD_bl, addD_int, subD_int, negD_int, ltD_int, leD_int, gtD_int, geD_int, eqD_int, neD_int, ev_app, lstOf_lst, dctOf_dct, ev_par2, noX_ok, ev_unp, gtN_eq, gtT2, tup2, tup1, tup0, lst0, lst1, idx_pair0, idx_pair1, thn_next, thn_ret, thn_exc, thn_bad, res_next, res_ret, cnd_ok, env_ok, out_ok, bind_ok, forB_ok, setAll_cons, setAll_nil, List.set_cons_succ, List.set_cons_zero, ev_dset, ev_daug, ev_get2, getOr_int, dctOf_I, ev_comp, wipeE_cons, wipeE_nil, ev_slice, ev_onone, ev_osome, intOf_int, ev_ttrue, ev_count, strOf_str, cntS_ch, revD_tup, e0, ne_lstP, hne, Bool.not_false, if_true, i1, i2, decide_eq_false h, Bool.false_eq_true, if_false, e1]
        rw [app_map (by rw [List.length_append, List.length_singleton]; unfold LIM; omega)]
        simp only [ev_seq, ev_nil, ev_set, ev_ret, ev_if, ev_for, forI_ok, ev_varS, ev_var0, ev_cst, ev_un, ev_bin, ev_eif, ev_tst, blD_bl, ev_tval, ev_cmp, ev_chn, ev_tnot, ev_tand, ev_tor, ev_anil, ev_acons, ev_args, ev_eand, ev_eor, notD_bl, addD_int, subD_int, negD_int, ltD_int, leD_int, gtD_int, geD_int, eqD_int, neD_int, ev_app, lstOf_lst, dctOf_dct, ev_par2, noX_ok, ev_unp, gtN_eq, gtT2, tup2, tup1, tup0, lst0, lst1, idx_pair0, idx_pair1, thn_next, thn_ret, thn_exc, thn_bad, res_next, res_ret, cnd_ok, env_ok, out_ok, bind_ok, forB_ok, setAll_cons, setAll_nil, List.set_cons_succ, List.set_cons_zero, ev_dset, ev_daug, ev_get2, getOr_int, dctOf_I, ev_comp, wipeE_cons, wipeE_nil, ev_slice, ev_onone, ev_osome, intOf_int, ev_ttrue, ev_count, strOf_str, cntS_ch, revD_tup]
      · show _ = Out.next [a, some (lstP (if p.1 ≤ q.2 + 1 then mgGo pre (q.1, maxZ q.2 p.2) ps else mgGo (pre ++ [q]) p ps)), y2, y3]
        rw [if_neg h]
theorem merged_eq (l : List (Int × Int)) (h : l.length < 900000) : S_merged [lstP l] = .ok (lstP (mergeM l)) := by
  have hl := (isort_perm ltP2 l).length_eq
  rw [R_merged]
  have e0 : D.lst [] = lstP [] := rfl
  have it : itemsD (lstP (isort ltP2 l)) = .ok ((isort ltP2 l).map pairD) := rfl
  unfold mergeM
  cases hs : isort ltP2 l with
  | nil =>
    rw [hs] at it
    simp only [B_merged, ev_seq, ev_nil, ev_set, ev_ret, ev_if, ev_for, forI_ok, ev_varS, ev_var0, ev_cst, ev_un, ev_bin, ev_eif, ev_tst, blD_bl, ev_tval, ev_cmp, ev_chn, ev_tnot, ev_tand, ev_tor, ev_anil, ev_acons, ev_args, ev_eand, ev_eor, notD_bl, addD_int, subD_int, negD_int, ltD_int, leD_int, gtD_int, geD_int, eqD_int, neD_int, ev_app, lstOf_lst, dctOf_dct, ev_par2, noX_ok, ev_unp, gtN_eq, gtT2, tup2, tup1, tup0, lst0, lst1, idx_pair0, idx_pair1, thn_next, thn_ret, thn_exc, thn_bad, res_next, res_ret, cnd_ok, env_ok, out_ok, bind_ok, forB_ok, setAll_cons, setAll_nil, List.set_cons_succ, List.set_cons_zero, ev_dset, ev_daug, ev_get2, getOr_int, dctOf_I, ev_comp, wipeE_cons, wipeE_nil, ev_slice, ev_onone, ev_osome, intOf_int, ev_ttrue, ev_count, strOf_str, cntS_ch, revD_tup, sort_pairs, hs, it, e0]
    rfl
  | cons p ps =>
    rw [hs] at it hl
    rw [List.length_cons] at hl
    obtain ⟨y2, y3, h1⟩ := merged_1 (some (lstP l)) ps [] p (some (.int p.1)) (some (.int p.2)) (by simp; omega)
    have h0 : forL (gtT [2, 3]) B_merged_1 ((p :: ps).map pairD) [some (lstP l), some (lstP []), none, none] = .next [some (lstP l), some (lstP (mgGo [] p ps)), y2, y3] := by
      refine (forL_step rfl ?_).trans h1
      have e1 : D.tup [.int p.1, .int p.2] = pairD p := rfl
      have e2 : neD (lstP []) (lstP []) = .ok false := by rw [ne_lstP]; rfl
      simp only [B_merged_1, ev_seq, ev_nil, ev_set, ev_ret, ev_if, ev_for, forI_ok, ev_varS, ev_var0, ev_cst, ev_un, ev_bin, ev_eif, ev_tst, blD_bl, ev_tval, ev_cmp, ev_chn, ev_tnot, ev_tand, ev_tor, ev_anil, ev_acons, ev_args, ev_eand, ev_eor, notD_bl, addD_int, subD_int, negD_int, ltD_int, leD_int, gtD_int, geD_int, eqD_int, neD_int, ev_app, lstOf_lst, dctOf_dct, ev_par2, noX_ok, ev_unp, gtN_eq, gtT2, tup2, tup1, tup0, lst0, lst1, idx_pair0, idx_pair1, thn_next, thn_ret, thn_exc, thn_bad, res_next, res_ret, cnd_ok, env_ok, out_ok, bind_ok, forB_ok, setAll_cons, setAll_nil, List.set_cons_succ, List.set_cons_zero, ev_dset, ev_daug, ev_get2, getOr_int, dctOf_I, ev_comp, wipeE_cons, wipeE_nil, ev_slice, ev_onone, ev_osome, intOf_int, ev_ttrue, ev_count, strOf_str, cntS_ch, revD_tup, e0, e2, Bool.false_eq_true, if_false, e1]
      rw [app_map (by unfold LIM; simp)]
      simp only [ev_seq, ev_nil, ev_set, ev_ret, ev_if, ev_for, forI_ok, ev_varS, ev_var0, ev_cst, ev_un, ev_bin, ev_eif, ev_tst, blD_bl, ev_tval, ev_cmp, ev_chn, ev_tnot, ev_tand, ev_tor, ev_anil, ev_acons, ev_args, ev_eand, ev_eor, notD_bl, addD_int, subD_int, negD_int, ltD_int, leD_int, gtD_int, geD_int, eqD_int, neD_int, ev_app, lstOf_lst, dctOf_dct, ev_par2, noX_ok, ev_unp, gtN_eq, gtT2, tup2, tup1, tup0, lst0, lst1, idx_pair0, idx_pair1, thn_next, thn_ret, thn_exc, thn_bad, res_next, res_ret, cnd_ok, env_ok, out_ok, bind_ok, forB_ok, setAll_cons, setAll_nil, List.set_cons_succ, List.set_cons_zero, ev_dset, ev_daug, ev_get2, getOr_int, dctOf_I, ev_comp, wipeE_cons, wipeE_nil, ev_slice, ev_onone, ev_osome, intOf_int, ev_ttrue, ev_count, strOf_str, cntS_ch, revD_tup]
    simp only [B_merged, ev_seq, ev_nil, ev_set, ev_ret, ev_if, ev_for, forI_ok, ev_varS, ev_var0, ev_cst, ev_un, ev_bin, ev_eif, ev_tst, blD_bl, ev_tval, ev_cmp, ev_chn, ev_tnot, ev_tand, ev_tor, ev_anil, ev_acons, ev_args, ev_eand, ev_eor, notD_bl, addD_int, subD_int, negD_int, ltD_int, leD_int, gtD_int, geD_int, eqD_int, neD_int, ev_app, lstOf_lst, dctOf_dct, ev_par2, noX_ok, ev_unp, gtN_eq, gtT2, tup2, tup1, tup0, lst0, lst1, idx_pair0, idx_pair1, thn_next, thn_ret, thn_exc, thn_bad, res_next, res_ret, cnd_ok, env_ok, out_ok, bind_ok, forB_ok, setAll_cons, setAll_nil, List.set_cons_succ, List.set_cons_zero, ev_dset, ev_daug, ev_get2, getOr_int, dctOf_I, ev_comp, wipeE_cons, wipeE_nil, ev_slice, ev_onone, ev_osome, intOf_int, ev_ttrue, ev_count, strOf_str, cntS_ch, revD_tup, sort_pairs, hs, it, e0, h0]
    rfl
def inU (l : List (Int × Int)) (n : Int) : Prop := ∃ p ∈ l, p.1 ≤ n ∧ n ≤ p.2
structure Nf (l : List (Int × Int)) : Prop where
  gap : l.Pairwise fun a b => a.2 + 1 < b.1
  ok : ∀ p ∈ l, p.1 ≤ p.2
theorem mgGo_in : ∀ (ps pre : List (Int × Int)) (q : Int × Int) (n : Int), (∀ p ∈ ps, q.1 ≤ p.1) → ps.Pairwise (fun a b => a.1 ≤ b.1) → q.1 ≤ q.2 → (∀ p ∈ ps, p.1 ≤ p.2) → (inU (mgGo pre q ps) n ↔ inU pre n ∨ (q.1 ≤ n ∧ n ≤ q.2) ∨ inU ps n)
  | [], pre, q, n, _, _, _, _ => by
    show inU (pre ++ [q]) n ↔ _
    unfold inU
    simp only [List.mem_append, List.mem_singleton]
    constructor
    · rintro ⟨p, h | h, h2⟩
      · exact .inl ⟨p, h, h2⟩
      · subst h; exact .inr (.inl h2)
    · rintro (⟨p, h, h2⟩ | h | ⟨p, h, _⟩)
      · exact ⟨p, .inl h, h2⟩
      · exact ⟨q, .inr rfl, h⟩
      · simp at h
  | p :: ps, pre, q, n, h1, h2, h3, h4 => by
    obtain ⟨k1, k2⟩ := List.pairwise_cons.mp h2
    have hp := h1 p (List.mem_cons_self ..)
    have hpp := h4 p (List.mem_cons_self ..)
    have hcons : inU (p :: ps) n ↔ (p.1 ≤ n ∧ n ≤ p.2) ∨ inU ps n := by
      unfold inU
      simp only [List.mem_cons, exists_eq_or_imp]
    rw [hcons]
    show inU (if p.1 ≤ q.2 + 1 then mgGo pre (q.1, maxZ q.2 p.2) ps else mgGo (pre ++ [q]) p ps) n ↔ _
    split
    · rename_i hm
      have e := maxZ_eq q.2 p.2
      rw [mgGo_in ps pre (q.1, maxZ q.2 p.2) n (fun x hx => h1 x (List.mem_cons_of_mem _ hx)) k2 (by dsimp only; split at e <;> omega) fun x hx => h4 x (List.mem_cons_of_mem _ hx)]
      dsimp only
      have : (q.1 ≤ n ∧ n ≤ maxZ q.2 p.2) ↔ (q.1 ≤ n ∧ n ≤ q.2) ∨ (p.1 ≤ n ∧ n ≤ p.2) := by split at e <;> omega
      rw [this, or_assoc]
    · rw [mgGo_in ps (pre ++ [q]) p n (fun x hx => k1 x hx) k2 hpp fun x hx => h4 x (List.mem_cons_of_mem _ hx)]
      have : inU (pre ++ [q]) n ↔ inU pre n ∨ (q.1 ≤ n ∧ n ≤ q.2) := by
        unfold inU
        simp only [List.mem_append, List.mem_singleton]
        constructor
        · rintro ⟨x, h | h, h2⟩
          · exact .inl ⟨x, h, h2⟩
          · subst h; exact .inr h2
        · rintro (⟨x, h, h2⟩ | h)
          · exact ⟨x, .inl h, h2⟩
          · exact ⟨q, .inr rfl, h⟩
      rw [this, or_assoc]
theorem mgGo_nf : ∀ (ps pre : List (Int × Int)) (q : Int × Int), Nf (pre ++ [q]) → (∀ p ∈ ps, q.1 ≤ p.1) → ps.Pairwise (fun a b => a.1 ≤ b.1) → (∀ p ∈ ps, p.1 ≤ p.2) → Nf (mgGo pre q ps)
  | [], pre, q, h, _, _, _ => h
  | p :: ps, pre, q, h, h1, h2, h4 => by
    obtain ⟨k1, k2⟩ := List.pairwise_cons.mp h2
    obtain ⟨g1, g2, g3⟩ := List.pairwise_append.mp h.gap
    have hq := h.ok q (List.mem_append_right _ (List.mem_singleton.mpr rfl))
    show Nf (if p.1 ≤ q.2 + 1 then mgGo pre (q.1, maxZ q.2 p.2) ps else mgGo (pre ++ [q]) p ps)
    split
    · have e := maxZ_eq q.2 p.2
      refine mgGo_nf ps pre (q.1, maxZ q.2 p.2) ⟨List.pairwise_append.mpr ⟨g1, List.pairwise_singleton _ _, fun a ha b hb => ?_⟩, fun x hx => ?_⟩ (fun x hx => h1 x (List.mem_cons_of_mem _ hx)) k2 fun x hx => h4 x (List.mem_cons_of_mem _ hx)
      · rw [List.mem_singleton.mp hb]
        exact g3 a ha q (List.mem_singleton.mpr rfl)
      · rcases List.mem_append.mp hx with hx | hx
        · exact h.ok x (List.mem_append_left _ hx)
        · rw [List.mem_singleton.mp hx]
          dsimp only
          split at e <;> omega
    · rename_i hm
      refine mgGo_nf ps (pre ++ [q]) p ⟨List.pairwise_append.mpr ⟨h.gap, List.pairwise_singleton _ _, fun a ha b hb => ?_⟩, fun x hx => ?_⟩ (fun x hx => k1 x hx) k2 fun x hx => h4 x (List.mem_cons_of_mem _ hx)
      · rw [List.mem_singleton.mp hb]
        rcases List.mem_append.mp ha with ha | ha
        · have := g3 a ha q (List.mem_singleton.mpr rfl)
          omega
        · rw [List.mem_singleton.mp ha]; omega
      · rcases List.mem_append.mp hx with hx | hx
        · exact h.ok x hx
        · rw [List.mem_singleton.mp hx]
          exact h4 p (List.mem_cons_self ..)
theorem isort_fst (l : List (Int × Int)) : (isort ltP2 l).Pairwise fun a b => a.1 ≤ b.1 := (isort_srt swoP l).imp fun {a b} h => by
  have := SrtO.lexB_no.mp h
  omega
theorem inU_perm {l m : List (Int × Int)} (h : l.Perm m) (n : Int) : inU l n ↔ inU m n := by
  unfold inU
  constructor
  · rintro ⟨p, h1, h2⟩; exact ⟨p, h.mem_iff.mp h1, h2⟩
  · rintro ⟨p, h1, h2⟩; exact ⟨p, h.mem_iff.mpr h1, h2⟩
theorem merge_in {l : List (Int × Int)} (h : ∀ p ∈ l, p.1 ≤ p.2) (n : Int) : inU (mergeM l) n ↔ inU l n := by
  have hp := isort_perm ltP2 l
  have hs := isort_fst l
  rw [← inU_perm hp n]
  have h' : ∀ p ∈ isort ltP2 l, p.1 ≤ p.2 := fun p hm => h p (hp.mem_iff.mp hm)
  unfold mergeM
  cases hh : isort ltP2 l with
  | nil => exact Iff.rfl
  | cons p ps =>
    rw [hh] at hs h'
    obtain ⟨k1, k2⟩ := List.pairwise_cons.mp hs
    show inU (mgGo [] p ps) n ↔ _
    rw [mgGo_in ps [] p n k1 k2 (h' p (List.mem_cons_self ..)) fun x hx => h' x (List.mem_cons_of_mem _ hx)]
    unfold inU
    simp only [List.mem_cons, exists_eq_or_imp, List.not_mem_nil, false_and, exists_false, false_or]
theorem merge_nf {l : List (Int × Int)} (h : ∀ p ∈ l, p.1 ≤ p.2) : Nf (mergeM l) := by
  have hp := isort_perm ltP2 l
  have hs := isort_fst l
  have h' : ∀ p ∈ isort ltP2 l, p.1 ≤ p.2 := fun p hm => h p (hp.mem_iff.mp hm)
  unfold mergeM
  cases hh : isort ltP2 l with
  | nil => exact ⟨.nil, fun p h => by simp [mgAll] at h⟩
  | cons p ps =>
    rw [hh] at hs h'
    obtain ⟨k1, k2⟩ := List.pairwise_cons.mp hs
    exact mgGo_nf ps [] p ⟨List.pairwise_singleton _ _, fun x hx => by rw [List.mem_singleton.mp hx]; exact h' p (List.mem_cons_self ..)⟩ k1 k2 fun x hx => h' x (List.mem_cons_of_mem _ hx)
theorem nf_uniq : ∀ {l m : List (Int × Int)}, Nf l → Nf m → (∀ n, inU l n ↔ inU m n) → l = m
  | [], [], _, _, _ => rfl
  | [], q :: m, _, hm, h => by
    have := hm.ok q (List.mem_cons_self ..)
    obtain ⟨p, hp, _⟩ := (h q.1).mpr ⟨q, List.mem_cons_self .., by omega, this⟩
    simp at hp
  | p :: l, [], hl, _, h => by
    have := hl.ok p (List.mem_cons_self ..)
    obtain ⟨q, hq, _⟩ := (h p.1).mp ⟨p, List.mem_cons_self .., by omega, this⟩
    simp at hq
  | p :: l, q :: m, hl, hm, h => by
    obtain ⟨gl, gl'⟩ := List.pairwise_cons.mp hl.gap
    obtain ⟨gm, gm'⟩ := List.pairwise_cons.mp hm.gap
    have op := hl.ok p (List.mem_cons_self ..)
    have oq := hm.ok q (List.mem_cons_self ..)
    have al : ∀ x ∈ l, p.2 + 1 < x.1 ∧ x.1 ≤ x.2 := fun x hx => ⟨gl x hx, hl.ok x (List.mem_cons_of_mem _ hx)⟩
    have am : ∀ x ∈ m, q.2 + 1 < x.1 ∧ x.1 ≤ x.2 := fun x hx => ⟨gm x hx, hm.ok x (List.mem_cons_of_mem _ hx)⟩
    have fl : ∀ n, inU (p :: l) n → p.1 ≤ n := fun n ⟨x, hx, h2⟩ => by
      rcases List.mem_cons.mp hx with e | e
      · rw [← e]; exact h2.1
      · have := al x e; omega
    have fm : ∀ n, inU (q :: m) n → q.1 ≤ n := fun n ⟨x, hx, h2⟩ => by
      rcases List.mem_cons.mp hx with e | e
      · rw [← e]; exact h2.1
      · have := am x e; omega
    have e1 : p.1 = q.1 := by
      have a1 := fm _ ((h p.1).mp ⟨p, List.mem_cons_self .., by omega, op⟩)
      have a2 := fl _ ((h q.1).mpr ⟨q, List.mem_cons_self .., by omega, oq⟩)
      omega
    have e2 : p.2 = q.2 := by
      by_cases c1 : p.2 < q.2
      · obtain ⟨x, hx, h2⟩ := (h (p.2 + 1)).mpr ⟨q, List.mem_cons_self .., by omega, by omega⟩
        rcases List.mem_cons.mp hx with e | e
        · subst e; omega
        · have := al x e; omega
      · by_cases c2 : q.2 < p.2
        · obtain ⟨x, hx, h2⟩ := (h (q.2 + 1)).mp ⟨p, List.mem_cons_self .., by omega, by omega⟩
          rcases List.mem_cons.mp hx with e | e
          · subst e; omega
          · have := am x e; omega
        · omega
    have epq : p = q := Prod.ext e1 e2
    subst epq
    have tl : l = m := nf_uniq ⟨gl', fun x hx => hl.ok x (List.mem_cons_of_mem _ hx)⟩ ⟨gm', fun x hx => hm.ok x (List.mem_cons_of_mem _ hx)⟩ fun n => by
      constructor
      · rintro ⟨x, hx, h2⟩
        obtain ⟨y, hy, h3⟩ := (h n).mp ⟨x, List.mem_cons_of_mem _ hx, h2⟩
        rcases List.mem_cons.mp hy with e | e
        · subst e; have := al x hx; omega
        · exact ⟨y, e, h3⟩
      · rintro ⟨x, hx, h2⟩
        obtain ⟨y, hy, h3⟩ := (h n).mpr ⟨x, List.mem_cons_of_mem _ hx, h2⟩
        rcases List.mem_cons.mp hy with e | e
        · subst e; have := am x hx; omega
        · exact ⟨y, e, h3⟩
    rw [tl]
end PL
set_option Elab.async false
set_option linter.all false
set_option maxRecDepth 100000
set_option maxHeartbeats 4000000
namespace PL
open PySem PySem.Spec PyProof.Rows L2
theorem mgGo_len : ∀ (ps pre : List (Int × Int)) (q : Int × Int), (mgGo pre q ps).length ≤ pre.length + 1 + ps.length
  | [], pre, q => by show (pre ++ [q]).length ≤ _; simp
  | p :: ps, pre, q => by
    show (if p.1 ≤ q.2 + 1 then mgGo pre (q.1, maxZ q.2 p.2) ps else mgGo (pre ++ [q]) p ps).length ≤ pre.length + 1 + (ps.length + 1)
    split
    · have := mgGo_len ps pre (q.1, maxZ q.2 p.2); omega
    · have := mgGo_len ps (pre ++ [q]) p; simp at this; omega
theorem merge_len (l : List (Int × Int)) : (mergeM l).length ≤ l.length := by
  have hl := (isort_perm ltP2 l).length_eq
  unfold mergeM
  cases hs : isort ltP2 l with
  | nil => simp [mgAll]
  | cons p ps =>
    rw [hs, List.length_cons] at hl
    have := mgGo_len ps [] p
    simp at this
    show (mgGo [] p ps).length ≤ _
    omega
theorem boolsOf_map {α : Type} (f : α → Bool) : ∀ xs : List α, boolsOf (xs.map fun x => D.bl (f x)) = some (xs.map f)
  | [] => rfl
  | x :: xs => by
    show (boolsOf (xs.map fun x => D.bl (f x))).map (f x :: ·) = _
    rw [boolsOf_map f xs]; rfl
theorem any_map {α : Type} (f : α → Bool) (xs : List α) : anyD [.lst (xs.map fun x => D.bl (f x))] = .ok (.bl (xs.any f)) := by
  show (match boolsOf (xs.map fun x => D.bl (f x)) with | some bs => Res.ok (D.bl (bs.any id)) | none => .bad) = _
  rw [boolsOf_map]
  dsimp only
  rw [List.any_map]
  rfl
theorem all_map {α : Type} (f : α → Bool) (xs : List α) : allD [.lst (xs.map fun x => D.bl (f x))] = .ok (.bl (xs.all f)) := by
  show (match boolsOf (xs.map fun x => D.bl (f x)) with | some bs => Res.ok (D.bl (bs.all id)) | none => .bad) = _
  rw [boolsOf_map]
  dsimp only
  rw [List.all_map]
  rfl
theorem any_inU (l : List (Int × Int)) (n : Int) : (l.any fun p => okR p.1 p.2 n) = true ↔ inU l n := by
  rw [List.any_eq_true]
  unfold inU
  simp only [okR_iff]
def rfStep (lo hi n : Int) (fd : List (Int × Int)) : List (Int × Int) :=
  mergeM ((((if okR lo hi n = true then fd.map fun p => (p.1 - n, p.2 - n) else []) ++ (if (fd.any fun p => okR p.1 p.2 n) = true then [(n - hi, n - lo)] else [])).filter fun p => decide (0 ≤ p.2)).map fun p => (maxZ p.1 0, p.2))
def rfM (lo hi : Int) : List Int → List (Int × Int)
  | [] => [(0, 1000000000)]
  | n :: ns => rfStep lo hi n (rfM lo hi ns)
theorem rfPre_len (lo hi n : Int) (fd : List (Int × Int)) : ((((if okR lo hi n = true then fd.map fun p => (p.1 - n, p.2 - n) else []) ++ (if (fd.any fun p => okR p.1 p.2 n) = true then [(n - hi, n - lo)] else [])).filter fun p => decide (0 ≤ p.2)).map fun p => (maxZ p.1 0, p.2)).length ≤ fd.length + 1 := by
  rw [List.length_map]
  refine Nat.le_trans (List.length_filter_le _ _) ?_
  rw [List.length_append]
  split <;> split <;> simp
theorem rfM_len (lo hi : Int) : ∀ ns : List Int, (rfM lo hi ns).length ≤ ns.length + 1
  | [] => Nat.le_refl _
  | n :: ns => by
    have h1 := rfM_len lo hi ns
    have h2 := rfPre_len lo hi n (rfM lo hi ns)
    exact Nat.le_trans (merge_len _) (by rw [List.length_cons]; omega)
theorem rf_spec {lo hi : Int} (hlh : lo ≤ hi) : ∀ ns : List Int, (∀ n ∈ ns, 0 ≤ n) → Nf (rfM lo hi ns) ∧ ∀ t, inU (rfM lo hi ns) t ↔ 0 ≤ t ∧ ∃ ks ∈ rd lo hi t false ns, tmM t ns ks ≤ 1000000000
  | [], _ => by
    refine ⟨⟨List.pairwise_singleton _ _, fun p hp => by rw [List.mem_singleton.mp hp]; decide⟩, fun t => ?_⟩
    unfold inU rfM
    simp only [List.mem_singleton, exists_eq_left, rd]
    rfl
  | n :: ns, hn => by
    obtain ⟨k1, k2⟩ := rf_spec hlh ns fun x hx => hn x (List.mem_cons_of_mem _ hx)
    have h0 := hn n (List.mem_cons_self ..)
    generalize hX : ((((if okR lo hi n = true then (rfM lo hi ns).map fun p => (p.1 - n, p.2 - n) else []) ++ (if ((rfM lo hi ns).any fun p => okR p.1 p.2 n) = true then [(n - hi, n - lo)] else [])).filter fun p => decide (0 ≤ p.2)).map fun p => (maxZ p.1 0, p.2)) = X
    have hrf : rfM lo hi (n :: ns) = mergeM X := by rw [← hX]; rfl
    have hmem : ∀ p, p ∈ X ↔ ∃ q, ((okR lo hi n = true ∧ ∃ r ∈ rfM lo hi ns, q = (r.1 - n, r.2 - n)) ∨ (inU (rfM lo hi ns) n ∧ q = (n - hi, n - lo))) ∧ 0 ≤ q.2 ∧ p = (maxZ q.1 0, q.2) := fun p => by
      rw [← hX, List.mem_map]
      constructor
      · rintro ⟨q, hq, rfl⟩
        obtain ⟨h1, h2⟩ := List.mem_filter.mp hq
        refine ⟨q, ?_, of_decide_eq_true h2, rfl⟩
        rcases List.mem_append.mp h1 with h | h
        · split at h
          · rename_i ho
            obtain ⟨r, hr, e⟩ := List.mem_map.mp h
            exact .inl ⟨ho, r, hr, e.symm⟩
          · simp at h
        · split at h
          · rename_i ho
            exact .inr ⟨(any_inU _ _).mp ho, List.mem_singleton.mp h⟩
          · simp at h
      · rintro ⟨q, hq, h2, rfl⟩
        refine ⟨q, List.mem_filter.mpr ⟨List.mem_append.mpr ?_, decide_eq_true h2⟩, rfl⟩
        rcases hq with ⟨ho, r, hr, e⟩ | ⟨ho, e⟩
        · left; rw [if_pos ho]; exact List.mem_map.mpr ⟨r, hr, e.symm⟩
        · right; rw [if_pos ((any_inU _ _).mpr ho), e]; exact List.mem_singleton.mpr rfl
    have hok : ∀ p ∈ X, p.1 ≤ p.2 := fun p hp => by
      obtain ⟨q, hq, h2, rfl⟩ := (hmem p).mp hp
      have e := maxZ_eq q.1 0
      have : q.1 ≤ q.2 := by
        rcases hq with ⟨_, r, hr, e⟩ | ⟨_, e⟩
        · have := k1.ok r hr; rw [e]; dsimp only; omega
        · rw [e]; dsimp only; omega
      dsimp only
      split at e <;> omega
    have hin : ∀ t, inU X t ↔ 0 ≤ t ∧ ((okR lo hi n = true ∧ inU (rfM lo hi ns) (t + n)) ∨ (inU (rfM lo hi ns) n ∧ okR lo hi (n - t) = true)) := fun t => by
      constructor
      · rintro ⟨p, hp, h1, h2⟩
        obtain ⟨q, hq, h3, rfl⟩ := (hmem p).mp hp
        have e := maxZ_eq q.1 0
        dsimp only at h1 h2
        have ht : 0 ≤ t ∧ q.1 ≤ t := by split at e <;> omega
        refine ⟨ht.1, ?_⟩
        rcases hq with ⟨ho, r, hr, e⟩ | ⟨ho, e⟩
        · subst e
          dsimp only at ht h2
          exact .inl ⟨ho, r, hr, by omega, by omega⟩
        · subst e
          dsimp only at ht h2
          exact .inr ⟨ho, okR_iff.mpr (by omega)⟩
      · rintro ⟨h0', h⟩
        rcases h with ⟨ho, r, hr, h1, h2⟩ | ⟨ho, h1⟩
        · refine ⟨(maxZ (r.1 - n) 0, r.2 - n), (hmem _).mpr ⟨(r.1 - n, r.2 - n), .inl ⟨ho, r, hr, rfl⟩, by dsimp only; omega, rfl⟩, ?_, by dsimp only; omega⟩
          have e := maxZ_eq (r.1 - n) 0
          dsimp only
          split at e <;> omega
        · have := okR_iff.mp h1
          refine ⟨(maxZ (n - hi) 0, n - lo), (hmem _).mpr ⟨(n - hi, n - lo), .inr ⟨ho, rfl⟩, by dsimp only; omega, rfl⟩, ?_, by dsimp only; omega⟩
          have e := maxZ_eq (n - hi) 0
          dsimp only
          split at e <;> omega
    rw [hrf]
    refine ⟨merge_nf hok, fun t => ?_⟩
    rw [merge_in hok, hin]
    refine and_congr_right fun ht => ?_
    rw [k2, k2]
    constructor
    · rintro (⟨ho, _, ks, hk, hle⟩ | ⟨⟨_, ks, hk, hle⟩, ho⟩)
      · have he : (108, t + n) ∈ stepsM lo hi t n false := mem_steps.mpr (.inl ⟨ho, rfl⟩)
        exact ⟨108 :: ks, mem_rd_cons.mpr ⟨_, he, ks, hk, rfl⟩, by rw [(lap_step he ns ks).2]; exact hle⟩
      · have he : (116, n) ∈ stepsM lo hi t n false := mem_steps.mpr (.inr ⟨rfl, ho, rfl⟩)
        exact ⟨116 :: ks, mem_rd_cons.mpr ⟨_, he, ks, hk, rfl⟩, by rw [(lap_step he ns ks).2]; exact hle⟩
    · rintro ⟨ks, hk, hle⟩
      obtain ⟨e, he, ks', hk', rfl⟩ := mem_rd_cons.mp hk
      rw [(lap_step he ns ks').2] at hle
      rcases mem_steps.mp he with ⟨ho, rfl⟩ | ⟨_, ho, rfl⟩
      · exact .inl ⟨ho, by omega, ks', hk', hle⟩
      · exact .inr ⟨⟨h0, ks', hk', hle⟩, ho⟩
theorem readable_0 (lo hi n : Int) (a : Option D) (fd : List (Int × Int)) (hl : fd.length < 100000) (g4 g5 g6 : Option D) :
    ∃ g4', B_readable_from_1 [some (pr lo hi), a, some (lstP fd), some (.int n), g4, g5, g6] = .next [some (pr lo hi), a, some (lstP (rfStep lo hi n fd)), some (.int n), g4', g5, g6] := by
  have e0 : D.lst [] = lstP [] := rfl
  have it : ∀ l : List (Int × Int), itemsD (lstP l) = .ok (l.map pairD) := fun _ => rfl
  have c1 := compL_map (f := pairD) (g := gtT [5, 6]) (c := tTrue) (e := eArgs tupD (aCons (eBin subD (eVar 5) (eVar 3)) (aCons (eBin subD (eVar 6) (eVar 3)) aNil))) (ρ := [some (pr lo hi), a, some (lstP fd), some (.int n), some (lstP []), none, none]) (fun _ => true) (fun p => pairD (p.1 - n, p.2 - n)) fd fun p _ => ⟨_, rfl, rfl, fun _ => rfl⟩
  have c1' : (fd.filter fun _ => true).map (fun p => pairD (p.1 - n, p.2 - n)) = (fd.map fun p => (p.1 - n, p.2 - n)).map pairD := by
    rw [List.filter_eq_self.mpr fun _ _ => rfl, List.map_map]; rfl
  rw [c1'] at c1
  have l1 : (fd.map fun p => (p.1 - n, p.2 - n)).length ≤ 1000000 := by rw [List.length_map]; omega
  have c2 : ∀ g, compL (gtT [5, 6]) tTrue (eTst (PL.tChn leD leD (eVar 5) (eVar 3) (eVar 6))) [some (pr lo hi), a, some (lstP fd), some (.int n), g, none, none] (fd.map pairD) = .ok (fd.map fun p => D.bl (okR p.1 p.2 n)) := fun g => by
    have h := compL_map (f := pairD) (g := gtT [5, 6]) (c := tTrue) (e := eTst (PL.tChn leD leD (eVar 5) (eVar 3) (eVar 6))) (ρ := [some (pr lo hi), a, some (lstP fd), some (.int n), g, none, none]) (fun _ => true) (fun p => D.bl (okR p.1 p.2 n)) fd fun p _ => ⟨[some (pr lo hi), a, some (lstP fd), some (.int n), g, some (.int p.1), some (.int p.2)], rfl, rfl, fun _ => by simp only [ev_seq, ev_nil, ev_set, ev_ret, ev_if, ev_for, forI_ok, ev_varS, ev_var0, ev_cst, ev_un, ev_bin, ev_eif, ev_tst, blD_bl, ev_tval, ev_cmp, ev_chn, ev_tnot, ev_tand, ev_tor, ev_anil, ev_acons, ev_args, ev_eand, ev_eor, notD_bl, addD_int, subD_int, negD_int, ltD_int, leD_int, gtD_int, geD_int, eqD_int, neD_int, ev_app, lstOf_lst, dctOf_dct, ev_par2, noX_ok, ev_unp, gtN_eq, gtT2, tup2, tup1, tup0, lst0, lst1, idx_pair0, idx_pair1, thn_next, thn_ret, thn_exc, thn_bad, res_next, res_ret, cnd_ok, env_ok, out_ok, bind_ok, forB_ok, setAll_cons, setAll_nil, List.set_cons_succ, List.set_cons_zero, ev_dset, ev_daug, ev_get2, getOr_int, dctOf_I, ev_comp, wipeE_cons, wipeE_nil, ev_slice, ev_onone, ev_osome, intOf_int, ev_ttrue, ev_count, strOf_str, cntS_ch, revD_tup, okR_chn]⟩
    rw [List.filter_eq_self.mpr fun _ _ => rfl] at h
    exact h
  have l2 : lstD (fd.map fun p => D.bl (okR p.1 p.2 n)) = .ok (.lst (fd.map fun p => D.bl (okR p.1 p.2 n))) := lst_ok (f := fun p : Int × Int => D.bl (okR p.1 p.2 n)) (by omega)
  have c3 : ∀ X : List (Int × Int), compL (gtT [5, 6]) (tCmp geD (eVar 6) (eCst (.int 0))) (eArgs tupD (aCons (eArgs maxD (aCons (eArgs lstD (aCons (eVar 5) (aCons (eCst (.int 0)) aNil))) aNil)) (aCons (eVar 6) aNil))) [some (pr lo hi), a, some (lstP fd), some (.int n), some (lstP X), none, none] (X.map pairD) = .ok (((X.filter fun p => decide (0 ≤ p.2)).map fun p => (maxZ p.1 0, p.2)).map pairD) := fun X => by
    have h := compL_map (f := pairD) (g := gtT [5, 6]) (c := tCmp geD (eVar 6) (eCst (.int 0))) (e := eArgs tupD (aCons (eArgs maxD (aCons (eArgs lstD (aCons (eVar 5) (aCons (eCst (.int 0)) aNil))) aNil)) (aCons (eVar 6) aNil))) (ρ := [some (pr lo hi), a, some (lstP fd), some (.int n), some (lstP X), none, none]) (fun p => decide (0 ≤ p.2)) (fun p => pairD (maxZ p.1 0, p.2)) X fun p _ => ⟨[some (pr lo hi), a, some (lstP fd), some (.int n), some (lstP X), some (.int p.1), some (.int p.2)], rfl, rfl, fun _ => by simp only [ev_seq, ev_nil, ev_set, ev_ret, ev_if, ev_for, forI_ok, ev_varS, ev_var0, ev_cst, ev_un, ev_bin, ev_eif, ev_tst, blD_bl, ev_tval, ev_cmp, ev_chn, ev_tnot, ev_tand, ev_tor, ev_anil, ev_acons, ev_args, ev_eand, ev_eor, notD_bl, addD_int, subD_int, negD_int, ltD_int, leD_int, gtD_int, geD_int, eqD_int, neD_int, ev_app, lstOf_lst, dctOf_dct, ev_par2, noX_ok, ev_unp, gtN_eq, gtT2, tup2, tup1, tup0, lst0, lst1, idx_pair0, idx_pair1, thn_next, thn_ret, thn_exc, thn_bad, res_next, res_ret, cnd_ok, env_ok, out_ok, bind_ok, forB_ok, setAll_cons, setAll_nil, List.set_cons_succ, List.set_cons_zero, ev_dset, ev_daug, ev_get2, getOr_int, dctOf_I, ev_comp, wipeE_cons, wipeE_nil, ev_slice, ev_onone, ev_osome, intOf_int, ev_ttrue, ev_count, strOf_str, cntS_ch, revD_tup, lst2, max_two]; rfl⟩
    rw [List.map_map]
    exact h
  have fin : ∀ X : List (Int × Int), X.length ≤ 200000 → lstD (((X.filter fun p => decide (0 ≤ p.2)).map fun p => (maxZ p.1 0, p.2)).map pairD) = .ok (lstP ((X.filter fun p => decide (0 ≤ p.2)).map fun p => (maxZ p.1 0, p.2))) ∧ S_merged [lstP ((X.filter fun p => decide (0 ≤ p.2)).map fun p => (maxZ p.1 0, p.2))] = .ok (lstP (mergeM ((X.filter fun p => decide (0 ≤ p.2)).map fun p => (maxZ p.1 0, p.2)))) := fun X hX => by
    have : ((X.filter fun p => decide (0 ≤ p.2)).map fun p => (maxZ p.1 0, p.2)).length ≤ 200000 := by
      rw [List.length_map]
      exact Nat.le_trans (List.length_filter_le _ _) hX
    exact ⟨lst_ok (by omega), merged_eq _ (by omega)⟩
  have e1 : D.tup [.int (n - hi), .int (n - lo)] = pairD (n - hi, n - lo) := rfl
  unfold rfStep
  by_cases ho : okR lo hi n = true
  · by_cases ha : (fd.any fun p => okR p.1 p.2 n) = true
    · obtain ⟨f1, f2⟩ := fin (fd.map (fun p => (p.1 - n, p.2 - n)) ++ [(n - hi, n - lo)]) (by simp; omega)
      refine ⟨some (lstP (fd.map (fun p => (p.1 - n, p.2 - n)) ++ [(n - hi, n - lo)])), ?_⟩
      simp only [B_readable_from_1, C_readable_from_1, C_readable_from_2, C_readable_from_3, ev_seq, ev_nil, ev_set, ev_ret, ev_if, ev_for, forI_ok, ev_varS, ev_var0, ev_cst, ev_un, ev_bin, ev_eif, ev_tst, blD_bl, ev_tval, ev_cmp, ev_chn, ev_tnot, ev_tand, ev_tor, ev_anil, ev_acons, ev_args, ev_eand, ev_eor, notD_bl, addD_int, subD_int, negD_int, ltD_int, leD_int, gtD_int, geD_int, eqD_int, neD_int, ev_app, lstOf_lst, dctOf_dct, ev_par2, noX_ok, ev_unp, gtN_eq, gtT2, tup2, tup1, tup0, lst0, lst1, idx_pair0, idx_pair1, thn_next, thn_ret, thn_exc, thn_bad, res_next, res_ret, cnd_ok, env_ok, out_ok, bind_ok, forB_ok, setAll_cons, setAll_nil, List.set_cons_succ, List.set_cons_zero, ev_dset, ev_daug, ev_get2, getOr_int, dctOf_I, ev_comp, wipeE_cons, wipeE_nil, ev_slice, ev_onone, ev_osome, intOf_int, ev_ttrue, ev_count, strOf_str, cntS_ch, revD_tup, e0, okR_chn, ho, if_true, it, c1, lst_ok l1, c2, l2, any_map, ha, e1]
      rw [app_map (by rw [List.length_map]; unfold LIM; omega)]
      simp only [ev_seq, ev_nil, ev_set, ev_ret, ev_if, ev_for, forI_ok, ev_varS, ev_var0, ev_cst, ev_un, ev_bin, ev_eif, ev_tst, blD_bl, ev_tval, ev_cmp, ev_chn, ev_tnot, ev_tand, ev_tor, ev_anil, ev_acons, ev_args, ev_eand, ev_eor, notD_bl, addD_int, subD_int, negD_int, ltD_int, leD_int, gtD_int, geD_int, eqD_int, neD_int, ev_app, lstOf_lst, dctOf_dct, ev_par2, noX_ok, ev_unp, gtN_eq, gtT2, tup2, tup1, tup0, lst0, lst1, idx_pair0, idx_pair1, thn_next, thn_ret, thn_exc, thn_bad, res_next, res_ret, cnd_ok, env_ok, out_ok, bind_ok, forB_ok, setAll_cons, setAll_nil, List.set_cons_succ, List.set_cons_zero, ev_dset, ev_daug, ev_get2, getOr_int, dctOf_I, ev_comp, wipeE_cons, wipeE_nil, ev_slice, ev_onone, ev_osome, intOf_int, ev_ttrue, ev_count, strOf_str, cntS_ch, revD_tup, it, c3, f1, f2]
    · obtain ⟨f1, f2⟩ := fin (fd.map (fun p => (p.1 - n, p.2 - n))) (by simp; omega)
      refine ⟨some (lstP (fd.map (fun p => (p.1 - n, p.2 - n)))), ?_⟩
      simp only [B_readable_from_1, C_readable_from_1, C_readable_from_2, C_readable_from_3, ev_seq, ev_nil, ev_set, ev_ret, ev_if, ev_for, forI_ok, ev_varS, ev_var0, ev_cst, ev_un, ev_bin, ev_eif, ev_tst, blD_bl, ev_tval, ev_cmp, ev_chn, ev_tnot, ev_tand, ev_tor, ev_anil, ev_acons, ev_args, ev_eand, ev_eor, notD_bl, addD_int, subD_int, negD_int, ltD_int, leD_int, gtD_int, geD_int, eqD_int, neD_int, ev_app, lstOf_lst, dctOf_dct, ev_par2, noX_ok, ev_unp, gtN_eq, gtT2, tup2, tup1, tup0, lst0, lst1, idx_pair0, idx_pair1, thn_next, thn_ret, thn_exc, thn_bad, res_next, res_ret, cnd_ok, env_ok, out_ok, bind_ok, forB_ok, setAll_cons, setAll_nil, List.set_cons_succ, List.set_cons_zero, ev_dset, ev_daug, ev_get2, getOr_int, dctOf_I, ev_comp, wipeE_cons, wipeE_nil, ev_slice, ev_onone, ev_osome, intOf_int, ev_ttrue, ev_count, strOf_str, cntS_ch, revD_tup, e0, okR_chn, ho, if_true, it, c1, lst_ok l1, c2, l2, any_map, ha, Bool.false_eq_true, if_false, c3, f1, f2, List.append_nil]
  · by_cases ha : (fd.any fun p => okR p.1 p.2 n) = true
    · obtain ⟨f1, f2⟩ := fin [(n - hi, n - lo)] (by simp)
      refine ⟨some (lstP [(n - hi, n - lo)]), ?_⟩
      simp only [B_readable_from_1, C_readable_from_1, C_readable_from_2, C_readable_from_3, ev_seq, ev_nil, ev_set, ev_ret, ev_if, ev_for, forI_ok, ev_varS, ev_var0, ev_cst, ev_un, ev_bin, ev_eif, ev_tst, blD_bl, ev_tval, ev_cmp, ev_chn, ev_tnot, ev_tand, ev_tor, ev_anil, ev_acons, ev_args, ev_eand, ev_eor, notD_bl, addD_int, subD_int, negD_int, ltD_int, leD_int, gtD_int, geD_int, eqD_int, neD_int, ev_app, lstOf_lst, dctOf_dct, ev_par2, noX_ok, ev_unp, gtN_eq, gtT2, tup2, tup1, tup0, lst0, lst1, idx_pair0, idx_pair1, thn_next, thn_ret, thn_exc, thn_bad, res_next, res_ret, cnd_ok, env_ok, out_ok, bind_ok, forB_ok, setAll_cons, setAll_nil, List.set_cons_succ, List.set_cons_zero, ev_dset, ev_daug, ev_get2, getOr_int, dctOf_I, ev_comp, wipeE_cons, wipeE_nil, ev_slice, ev_onone, ev_osome, intOf_int, ev_ttrue, ev_count, strOf_str, cntS_ch, revD_tup, e0, okR_chn, ho, Bool.false_eq_true, if_false, if_true, it, c2, l2, any_map, ha, e1]
      rw [app_map (by unfold LIM; simp)]
      simp only [ev_seq, ev_nil, ev_set, ev_ret, ev_if, ev_for, forI_ok, ev_varS, ev_var0, ev_cst, ev_un, ev_bin, ev_eif, ev_tst, blD_bl, ev_tval, ev_cmp, ev_chn, ev_tnot, ev_tand, ev_tor, ev_anil, ev_acons, ev_args, ev_eand, ev_eor, notD_bl, addD_int, subD_int, negD_int, ltD_int, leD_int, gtD_int, geD_int, eqD_int, neD_int, ev_app, lstOf_lst, dctOf_dct, ev_par2, noX_ok, ev_unp, gtN_eq, gtT2, tup2, tup1, tup0, lst0, lst1, idx_pair0, idx_pair1, thn_next, thn_ret, thn_exc, thn_bad, res_next, res_ret, cnd_ok, env_ok, out_ok, bind_ok, forB_ok, setAll_cons, setAll_nil, List.set_cons_succ, List.set_cons_zero, ev_dset, ev_daug, ev_get2, getOr_int, dctOf_I, ev_comp, wipeE_cons, wipeE_nil, ev_slice, ev_onone, ev_osome, intOf_int, ev_ttrue, ev_count, strOf_str, cntS_ch, revD_tup, it, c3, f1, f2, List.nil_append]
    · obtain ⟨f1, f2⟩ := fin [] (by simp)
      refine ⟨some (lstP []), ?_⟩
      simp only [B_readable_from_1, C_readable_from_1, C_readable_from_2, C_readable_from_3, ev_seq, ev_nil, ev_set, ev_ret, ev_if, ev_for, forI_ok, ev_varS, ev_var0, ev_cst, ev_un, ev_bin, ev_eif, ev_tst, blD_bl, ev_tval, ev_cmp, ev_chn, ev_tnot, ev_tand, ev_tor, ev_anil, ev_acons, ev_args, ev_eand, ev_eor, notD_bl, addD_int, subD_int, negD_int, ltD_int, leD_int, gtD_int, geD_int, eqD_int, neD_int, ev_app, lstOf_lst, dctOf_dct, ev_par2, noX_ok, ev_unp, gtN_eq, gtT2, tup2, tup1, tup0, lst0, lst1, idx_pair0, idx_pair1, thn_next, thn_ret, thn_exc, thn_bad, res_next, res_ret, cnd_ok, env_ok, out_ok, bind_ok, forB_ok, setAll_cons, setAll_nil, List.set_cons_succ, List.set_cons_zero, ev_dset, ev_daug, ev_get2, getOr_int, dctOf_I, ev_comp, wipeE_cons, wipeE_nil, ev_slice, ev_onone, ev_osome, intOf_int, ev_ttrue, ev_count, strOf_str, cntS_ch, revD_tup, e0, okR_chn, ho, Bool.false_eq_true, if_false, it, c2, l2, any_map, ha, c3, f1, f2, List.append_nil]
theorem readable_1 (lo hi : Int) (a : Option D) : ∀ (xs suf : List Int) (g3 g4 g5 g6 : Option D), suf.length + xs.length < 90000 →
    ∃ g3' g4', forL (gtN 3) B_readable_from_1 (xs.map D.int) [some (pr lo hi), a, some (lstP (rfM lo hi suf)), g3, g4, g5, g6] = .next [some (pr lo hi), a, some (lstP (rfM lo hi (xs.reverse ++ suf))), g3', g4', g5, g6] := by
  intro xs
  induction xs with
  | nil => exact fun suf g3 g4 g5 g6 _ => ⟨g3, g4, rfl⟩
  | cons n xs ih =>
    intro suf g3 g4 g5 g6 hl
    rw [List.length_cons] at hl
    have hr := rfM_len lo hi suf
    obtain ⟨x4, h0⟩ := readable_0 lo hi n a (rfM lo hi suf) (by omega) g4 g5 g6
    obtain ⟨y3, y4, h1⟩ := ih (n :: suf) (some (.int n)) x4 g5 g6 (by rw [List.length_cons]; omega)
    refine ⟨y3, y4, (forL_step (gtN_eq ..) h0).trans (h1.trans ?_)⟩
    rw [List.reverse_cons, List.append_assoc]
    rfl
theorem readable_eq (lo hi : Int) (ns : List Int) (h : ns.length < 80000) : S_readable_from [pr lo hi, tupI ns] = .ok (lstP (rfM lo hi ns)) := by
  obtain ⟨y3, y4, h1⟩ := readable_1 lo hi (some (tupI ns)) ns.reverse [] none none none none (by simp; omega)
  rw [List.reverse_reverse, List.append_nil] at h1
  have e0 : powD (.int 10) (.int 9) = .ok (.int 1000000000) := by rfl
  have e1 : D.lst [.tup [.int 0, .int 1000000000]] = lstP (rfM lo hi []) := rfl
  have e2 : itemsD (.tup ((ns.map D.int).reverse)) = .ok (ns.reverse.map D.int) := by rw [← List.map_reverse]; rfl
  rw [R_readable_from]
  simp only [B_readable_from, ev_seq, ev_nil, ev_set, ev_ret, ev_if, ev_for, forI_ok, ev_varS, ev_var0, ev_cst, ev_un, ev_bin, ev_eif, ev_tst, blD_bl, ev_tval, ev_cmp, ev_chn, ev_tnot, ev_tand, ev_tor, ev_anil, ev_acons, ev_args, ev_eand, ev_eor, notD_bl, addD_int, subD_int, negD_int, ltD_int, leD_int, gtD_int, geD_int, eqD_int, neD_int, ev_app, lstOf_lst, dctOf_dct, ev_par2, noX_ok, ev_unp, gtN_eq, gtT2, tup2, tup1, tup0, lst0, lst1, idx_pair0, idx_pair1, thn_next, thn_ret, thn_exc, thn_bad, res_next, res_ret, cnd_ok, env_ok, out_ok, bind_ok, forB_ok, setAll_cons, setAll_nil, List.set_cons_succ, List.set_cons_zero, ev_dset, ev_daug, ev_get2, getOr_int, dctOf_I, ev_comp, wipeE_cons, wipeE_nil, ev_slice, ev_onone, ev_osome, intOf_int, ev_ttrue, ev_count, strOf_str, cntS_ch, revD_tup, e0, e1, e2, h1]
end PL
set_option Elab.async false
set_option linter.all false
set_option maxRecDepth 100000
set_option maxHeartbeats 4000000
namespace PL
open PySem PySem.Spec PyProof.Rows L2
theorem tm_app : ∀ (xs ys : List Int) (p q : List Nat) (t : Int), p.length = xs.length → tmM t (xs ++ ys) (p ++ q) = tmM (tmM t xs p) ys q
  | [], ys, p, q, t, h => by
    have : p = [] := List.length_eq_zero_iff.mp h
    subst this
    rfl
  | x :: xs, ys, [], q, t, h => by simp at h
  | x :: xs, ys, k :: p, q, t, h => tm_app xs ys p q _ (by simpa using h)
theorem fw_last {lo hi : Int} {ns : List Int} : idxD (.lst ((fwRows lo hi [(0, 1)] true ns).map dctI)) (.int (-1)) = .ok (dctI (fwAt lo hi ns ns.length)) := by
  have hlen := fwRows_len lo hi ns [(0, 1)] true
  have h2 : ns.length < (fwRows lo hi [(0, 1)] true ns).length := by omega
  have hg := fwAt_get (lo := lo) (hi := hi) (Nat.le_refl ns.length)
  have e := (List.take_append_drop ns.length (fwRows lo hi [(0, 1)] true ns)).symm
  rw [List.drop_eq_getElem_cons h2, (List.getElem?_eq_some_iff.mp hg).2, List.drop_eq_nil_of_le (show (fwRows lo hi [(0, 1)] true ns).length ≤ ns.length + 1 by omega)] at e
  conv => lhs; rw [e, List.map_append]
  exact idx_last _ _
def hnOne (lo hi t : Int) (i : Nat) (p : Int × Int) : List (Int × Int) := (maxZ (p.1 - t) lo, minZ (p.2 - t) hi) :: if 0 < i then [(maxZ p.1 (t + lo), minZ p.2 (t + hi))] else []
theorem hnOne_len (lo hi t : Int) (i : Nat) (p : Int × Int) : (hnOne lo hi t i p).length ≤ 2 := by
  unfold hnOne
  split <;> simp
theorem hn_1 (lo hi t : Int) (i : Nat) (nt rg : Option D) : ∀ (ps fd : List (Int × Int)) (g6 g7 : Option D), fd.length + 2 * ps.length < 100000 →
    ∃ g6' g7', forL (gtT [6, 7]) B_hidden_numbers_1 (ps.map pairD) [some (pr lo hi), nt, some (.int (i : Nat)), some (lstP fd), rg, some (.int t), g6, g7] = .next [some (pr lo hi), nt, some (.int (i : Nat)), some (lstP (fd ++ ps.flatMap (hnOne lo hi t i))), rg, some (.int t), g6', g7'] := by
  intro ps
  induction ps with
  | nil => exact fun fd g6 g7 _ => ⟨g6, g7, by rw [List.map_nil, List.flatMap_nil, List.append_nil, forL_nil]⟩
  | cons p ps ih =>
    intro fd g6 g7 hl
    rw [List.length_cons] at hl
    have h2 := hnOne_len lo hi t i p
    obtain ⟨y6, y7, h1⟩ := ih (fd ++ hnOne lo hi t i p) (some (.int p.1)) (some (.int p.2)) (by rw [List.length_append]; omega)
    refine ⟨y6, y7, (forL_step rfl ?_).trans (h1.trans ?_)⟩
    · have e1 : D.tup [.int (maxZ (p.1 - t) lo), .int (minZ (p.2 - t) hi)] = pairD (maxZ (p.1 - t) lo, minZ (p.2 - t) hi) := rfl
      have e2 : D.tup [.int (maxZ p.1 (t + lo)), .int (minZ p.2 (t + hi))] = pairD (maxZ p.1 (t + lo), minZ p.2 (t + hi)) := rfl
      by_cases hi0 : 0 < i
      · have d1 : decide ((0 : Int) < (i : Nat)) = true := decide_eq_true (by omega)
        have eh : hnOne lo hi t i p = [(maxZ (p.1 - t) lo, minZ (p.2 - t) hi), (maxZ p.1 (t + lo), minZ p.2 (t + hi))] := by unfold hnOne; rw [if_pos hi0]
        simp only [B_hidden_numbers_1, ev_seq, ev_nil, ev_set, ev_ret, ev_if, ev_for, forI_ok, ev_varS, ev_var0, ev_cst, ev_un, ev_bin, ev_eif, ev_tst, blD_bl, ev_tval, ev_cmp, ev_chn, ev_tnot, ev_tand, ev_tor, ev_anil, ev_acons, ev_args, ev_eand, ev_eor, notD_bl, addD_int, subD_int, negD_int, ltD_int, leD_int, gtD_int, geD_int, eqD_int, neD_int, ev_app, lstOf_lst, dctOf_dct, ev_par2, noX_ok, ev_unp, gtN_eq, gtT2, tup2, tup1, tup0, lst0, lst1, idx_pair0, idx_pair1, thn_next, thn_ret, thn_exc, thn_bad, res_next, res_ret, cnd_ok, env_ok, out_ok, bind_ok, forB_ok, setAll_cons, setAll_nil, List.set_cons_succ, List.set_cons_zero, ev_dset, ev_daug, ev_get2, getOr_int, dctOf_I, ev_comp, wipeE_cons, wipeE_nil, ev_slice, ev_onone, ev_osome, intOf_int, ev_ttrue, ev_count, strOf_str, cntS_ch, revD_tup, lst2, max_two, min_two, e1]
        rw [app_map (by unfold LIM; omega)]
        simp only [ev_seq, ev_nil, ev_set, ev_ret, ev_if, ev_for, forI_ok, ev_varS, ev_var0, ev_cst, ev_un, ev_bin, ev_eif, ev_tst, blD_bl, ev_tval, ev_cmp, ev_chn, ev_tnot, ev_tand, ev_tor, ev_anil, ev_acons, ev_args, ev_eand, ev_eor, notD_bl, addD_int, subD_int, negD_int, ltD_int, leD_int, gtD_int, geD_int, eqD_int, neD_int, ev_app, lstOf_lst, dctOf_dct, ev_par2, noX_ok, ev_unp, gtN_eq, gtT2, tup2, tup1, tup0, lst0, lst1, idx_pair0, idx_pair1, thn_next, thn_ret, thn_exc, thn_bad, res_next, res_ret, cnd_ok, env_ok, out_ok, bind_ok, forB_ok, setAll_cons, setAll_nil, List.set_cons_succ, List.set_cons_zero, ev_dset, ev_daug, ev_get2, getOr_int, dctOf_I, ev_comp, wipeE_cons, wipeE_nil, ev_slice, ev_onone, ev_osome, intOf_int, ev_ttrue, ev_count, strOf_str, cntS_ch, revD_tup, d1, if_true, lst2, max_two, min_two, e2]
        rw [app_map (by rw [List.length_append, List.length_singleton]; unfold LIM; omega)]
        simp only [ev_seq, ev_nil, ev_set, ev_ret, ev_if, ev_for, forI_ok, ev_varS, ev_var0, ev_cst, ev_un, ev_bin, ev_eif, ev_tst, blD_bl, ev_tval, ev_cmp, ev_chn, ev_tnot, ev_tand, ev_tor, ev_anil, ev_acons, ev_args, ev_eand, ev_eor, notD_bl, addD_int, subD_int, negD_int, ltD_int, leD_int, gtD_int, geD_int, eqD_int, neD_int, ev_app, lstOf_lst, dctOf_dct, ev_par2, noX_ok, ev_unp, gtN_eq, gtT2, tup2, tup1, tup0, lst0, lst1, idx_pair0, idx_pair1, thn_next, thn_ret, thn_exc, thn_bad, res_next, res_ret, cnd_ok, env_ok, out_ok, bind_ok, forB_ok, setAll_cons, setAll_nil, List.set_cons_succ, List.set_cons_zero, ev_dset, ev_daug, ev_get2, getOr_int, dctOf_I, ev_comp, wipeE_cons, wipeE_nil, ev_slice, ev_onone, ev_osome, intOf_int, ev_ttrue, ev_count, strOf_str, cntS_ch, revD_tup, eh, List.append_assoc]
        rfl
      · have d1 : decide ((0 : Int) < (i : Nat)) = false := decide_eq_false (by omega)
        have eh : hnOne lo hi t i p = [(maxZ (p.1 - t) lo, minZ (p.2 - t) hi)] := by unfold hnOne; rw [if_neg hi0]
        simp only [B_hidden_numbers_1, ev_seq, ev_nil, ev_set, ev_ret, ev_if, ev_for, forI_ok, ev_varS, ev_var0, ev_cst, ev_un, ev_bin, ev_eif, ev_tst, blD_bl, ev_tval, ev_cmp, ev_chn, ev_tnot, ev_tand, ev_tor, ev_anil, ev_acons, ev_args, ev_eand, ev_eor, notD_bl, addD_int, subD_int, negD_int, ltD_int, leD_int, gtD_int, geD_int, eqD_int, neD_int, ev_app, lstOf_lst, dctOf_dct, ev_par2, noX_ok, ev_unp, gtN_eq, gtT2, tup2, tup1, tup0, lst0, lst1, idx_pair0, idx_pair1, thn_next, thn_ret, thn_exc, thn_bad, res_next, res_ret, cnd_ok, env_ok, out_ok, bind_ok, forB_ok, setAll_cons, setAll_nil, List.set_cons_succ, List.set_cons_zero, ev_dset, ev_daug, ev_get2, getOr_int, dctOf_I, ev_comp, wipeE_cons, wipeE_nil, ev_slice, ev_onone, ev_osome, intOf_int, ev_ttrue, ev_count, strOf_str, cntS_ch, revD_tup, lst2, max_two, min_two, e1]
        rw [app_map (by unfold LIM; omega)]
        simp only [ev_seq, ev_nil, ev_set, ev_ret, ev_if, ev_for, forI_ok, ev_varS, ev_var0, ev_cst, ev_un, ev_bin, ev_eif, ev_tst, blD_bl, ev_tval, ev_cmp, ev_chn, ev_tnot, ev_tand, ev_tor, ev_anil, ev_acons, ev_args, ev_eand, ev_eor, notD_bl, addD_int, subD_int, negD_int, ltD_int, leD_int, gtD_int, geD_int, eqD_int, neD_int, ev_app, lstOf_lst, dctOf_dct, ev_par2, noX_ok, ev_unp, gtN_eq, gtT2, tup2, tup1, tup0, lst0, lst1, idx_pair0, idx_pair1, thn_next, thn_ret, thn_exc, thn_bad, res_next, res_ret, cnd_ok, env_ok, out_ok, bind_ok, forB_ok, setAll_cons, setAll_nil, List.set_cons_succ, List.set_cons_zero, ev_dset, ev_daug, ev_get2, getOr_int, dctOf_I, ev_comp, wipeE_cons, wipeE_nil, ev_slice, ev_onone, ev_osome, intOf_int, ev_ttrue, ev_count, strOf_str, cntS_ch, revD_tup, d1, Bool.false_eq_true, if_false, eh]
    · rw [List.flatMap_cons, List.append_assoc]
theorem flat_len2 (lo hi t : Int) (i : Nat) : ∀ ps : List (Int × Int), (ps.flatMap (hnOne lo hi t i)).length ≤ 2 * ps.length
  | [] => by simp
  | p :: ps => by
    have h1 := flat_len2 lo hi t i ps
    have h2 := hnOne_len lo hi t i p
    rw [List.flatMap_cons, List.length_append, List.length_cons]
    omega
theorem hn_2 (lo hi : Int) (i : Nat) (nt : Option D) (R : List (Int × Int)) (hR : R.length ≤ 100) : ∀ (ts : List Int) (fd : List (Int × Int)) (g5 g6 g7 : Option D), fd.length + 200 * ts.length < 90000 →
    ∃ g5' g6' g7', forL (gtN 5) B_hidden_numbers_2 (ts.map D.int) [some (pr lo hi), nt, some (.int (i : Nat)), some (lstP fd), some (lstP R), g5, g6, g7] = .next [some (pr lo hi), nt, some (.int (i : Nat)), some (lstP (fd ++ ts.flatMap fun t => R.flatMap (hnOne lo hi t i))), some (lstP R), g5', g6', g7'] := by
  intro ts
  induction ts with
  | nil => exact fun fd g5 g6 g7 _ => ⟨g5, g6, g7, by rw [List.map_nil, List.flatMap_nil, List.append_nil, forL_nil]⟩
  | cons t ts ih =>
    intro fd g5 g6 g7 hl
    rw [List.length_cons] at hl
    have h2 := flat_len2 lo hi t i R
    obtain ⟨x6, x7, h0⟩ := hn_1 lo hi t i nt (some (lstP R)) R fd g6 g7 (by omega)
    obtain ⟨y5, y6, y7, h1⟩ := ih (fd ++ R.flatMap (hnOne lo hi t i)) (some (.int t)) x6 x7 (by rw [List.length_append]; omega)
    refine ⟨y5, y6, y7, (forL_step (gtN_eq ..) ?_).trans (h1.trans ?_)⟩
    · have it : itemsD (lstP R) = .ok (R.map pairD) := rfl
      simp only [B_hidden_numbers_2, ev_seq, ev_nil, ev_set, ev_ret, ev_if, ev_for, forI_ok, ev_varS, ev_var0, ev_cst, ev_un, ev_bin, ev_eif, ev_tst, blD_bl, ev_tval, ev_cmp, ev_chn, ev_tnot, ev_tand, ev_tor, ev_anil, ev_acons, ev_args, ev_eand, ev_eor, notD_bl, addD_int, subD_int, negD_int, ltD_int, leD_int, gtD_int, geD_int, eqD_int, neD_int, ev_app, lstOf_lst, dctOf_dct, ev_par2, noX_ok, ev_unp, gtN_eq, gtT2, tup2, tup1, tup0, lst0, lst1, idx_pair0, idx_pair1, thn_next, thn_ret, thn_exc, thn_bad, res_next, res_ret, cnd_ok, env_ok, out_ok, bind_ok, forB_ok, setAll_cons, setAll_nil, List.set_cons_succ, List.set_cons_zero, ev_dset, ev_daug, ev_get2, getOr_int, dctOf_I, ev_comp, wipeE_cons, wipeE_nil, ev_slice, ev_onone, ev_osome, intOf_int, ev_ttrue, ev_count, strOf_str, cntS_ch, revD_tup, it, h0]
    · rw [List.flatMap_cons, List.append_assoc]
def hnRaw (lo hi : Int) (ns : List Int) (i : Nat) : List (Int × Int) := ((keys (fwAt lo hi (ns.take i) (ns.take i).length)).flatMap fun t => (rfM lo hi (ns.drop (i + 1))).flatMap (hnOne lo hi t i)).filter fun p => decide (p.1 ≤ p.2)
def hnM (lo hi : Int) (ns : List Int) (i : Nat) : List (Int × Int) := mergeM (hnRaw lo hi ns i)
theorem hidden_eq (lo hi : Int) (ns : List Int) (i : Nat) (hi' : i < ns.length) (h : ns.length ≤ 90) : S_hidden_numbers [pr lo hi, tupI ns, .int (i : Nat)] = .ok (lstP (hnM lo hi ns i)) := by
  have hk : (fwAt lo hi (ns.take i) (ns.take i).length).length ≤ 1 + (ns.take i).length := fwAt_len lo hi (Nat.le_refl _)
  have hkl : (keys (fwAt lo hi (ns.take i) (ns.take i).length)).length ≤ 91 := by
    unfold keys
    rw [List.length_map]
    have : (ns.take i).length ≤ ns.length := List.length_take_le' ..
    omega
  have hR : (rfM lo hi (ns.drop (i + 1))).length ≤ 100 := by
    have := rfM_len lo hi (ns.drop (i + 1))
    have h2 : (ns.drop (i + 1)).length ≤ ns.length := by rw [List.length_drop]; omega
    omega
  obtain ⟨y5, y6, y7, h1⟩ := hn_2 lo hi i (some (tupI ns)) (rfM lo hi (ns.drop (i + 1))) hR (keys (fwAt lo hi (ns.take i) (ns.take i).length)) [] none none none (by rw [List.length_nil]; omega)
  generalize hX : ((keys (fwAt lo hi (ns.take i) (ns.take i).length)).flatMap fun t => (rfM lo hi (ns.drop (i + 1))).flatMap (hnOne lo hi t i)) = X at h1
  have hXl : X.length ≤ 30000 := by
    rw [← hX]
    have : ∀ ts : List Int, (ts.flatMap fun t => (rfM lo hi (ns.drop (i + 1))).flatMap (hnOne lo hi t i)).length ≤ 200 * ts.length := by
      intro ts
      induction ts with
      | nil => simp
      | cons t ts ih =>
        have h2 := flat_len2 lo hi t i (rfM lo hi (ns.drop (i + 1)))
        rw [List.flatMap_cons, List.length_append, List.length_cons]
        omega
    have := this (keys (fwAt lo hi (ns.take i) (ns.take i).length))
    omega
  have hraw : hnRaw lo hi ns i = X.filter fun p => decide (p.1 ≤ p.2) := by rw [← hX]; rfl
  have hfl : (X.filter fun p => decide (p.1 ≤ p.2)).length ≤ 30000 := Nat.le_trans (List.length_filter_le _ _) hXl
  have e0 : D.lst [] = lstP [] := rfl
  have e1 : (i : Int) + 1 = ((i + 1 : Nat) : Int) := rfl
  have e2 : sliceD (tupI ns) (some ((i + 1 : Nat) : Int)) none = .ok (tupI (ns.drop (i + 1))) := by rw [slT_from, ← List.map_drop]
  have it : itemsD (lstP X) = .ok (X.map pairD) := rfl
  have hc := compL_map (f := pairD) (g := gtT [6, 7]) (c := tCmp leD (eVar 6) (eVar 7)) (e := eArgs tupD (aCons (eVar 6) (aCons (eVar 7) aNil))) (ρ := [some (pr lo hi), some (tupI ns), some (.int (i : Nat)), some (lstP X), some (lstP (rfM lo hi (ns.drop (i + 1)))), y5, none, none]) (fun p => decide (p.1 ≤ p.2)) pairD X fun p _ => ⟨_, rfl, rfl, fun _ => rfl⟩
  rw [List.nil_append] at h1
  rw [R_hidden_numbers]
  simp only [B_hidden_numbers, C_hidden_numbers_1, ev_seq, ev_nil, ev_set, ev_ret, ev_if, ev_for, forI_ok, ev_varS, ev_var0, ev_cst, ev_un, ev_bin, ev_eif, ev_tst, blD_bl, ev_tval, ev_cmp, ev_chn, ev_tnot, ev_tand, ev_tor, ev_anil, ev_acons, ev_args, ev_eand, ev_eor, notD_bl, addD_int, subD_int, negD_int, ltD_int, leD_int, gtD_int, geD_int, eqD_int, neD_int, ev_app, lstOf_lst, dctOf_dct, ev_par2, noX_ok, ev_unp, gtN_eq, gtT2, tup2, tup1, tup0, lst0, lst1, idx_pair0, idx_pair1, thn_next, thn_ret, thn_exc, thn_bad, res_next, res_ret, cnd_ok, env_ok, out_ok, bind_ok, forB_ok, setAll_cons, setAll_nil, List.set_cons_succ, List.set_cons_zero, ev_dset, ev_daug, ev_get2, getOr_int, dctOf_I, ev_comp, wipeE_cons, wipeE_nil, ev_slice, ev_onone, ev_osome, intOf_int, ev_ttrue, ev_count, strOf_str, cntS_ch, revD_tup, e0, e1, e2, readable_eq lo hi (ns.drop (i + 1)) (by rw [List.length_drop]; omega), take_tup, forward_eq lo hi (ns.take i) (by rw [List.length_take]; omega), fw_last, keys_kv, h1, it, hc, lst_ok (show (X.filter fun p => decide (p.1 ≤ p.2)).length ≤ 1000000 by omega), merged_eq (X.filter fun p => decide (p.1 ≤ p.2)) (by omega)]
  unfold hnM
  rw [hraw]
def withAt (ns : List Int) (i : Nat) (x : Int) : List Int := ns.take i ++ x :: ns.drop (i + 1)
theorem hidden_spec {lo hi : Int} (h1 : 1 ≤ lo) (hlh : lo ≤ hi) {ns : List Int} {i : Nat} (hi' : i < ns.length) (hn : ∀ n ∈ ns, 0 ≤ n) : Nf (hnM lo hi ns i) ∧ ∀ x, inU (hnM lo hi ns i) x ↔ ∃ ks ∈ rd lo hi 0 true (withAt ns i x), tmM 0 (withAt ns i x) ks ≤ 1000000000 := by
  obtain ⟨k1, k2⟩ := rf_spec hlh (ns.drop (i + 1)) fun n h => hn n (List.mem_of_mem_drop h)
  have hl : (ns.take i).length = i := by rw [List.length_take]; omega
  have hrow : ∀ t, t ∈ keys (fwAt lo hi (ns.take i) (ns.take i).length) ↔ ∃ p ∈ rd lo hi 0 true (ns.take i), tmM 0 (ns.take i) p = t := fun t => by
    have := row_mem0 (lo := lo) (hi := hi) (Nat.le_refl (ns.take i).length) (fwAt_get (Nat.le_refl _)) t
    rw [List.take_length] at this
    exact this
  have hok : ∀ p ∈ hnRaw lo hi ns i, p.1 ≤ p.2 := fun p hp => of_decide_eq_true (List.mem_filter.mp hp).2
  have hin : ∀ x, inU (hnRaw lo hi ns i) x ↔ ∃ t ∈ keys (fwAt lo hi (ns.take i) (ns.take i).length), (okR lo hi x = true ∧ inU (rfM lo hi (ns.drop (i + 1))) (t + x)) ∨ (0 < i ∧ inU (rfM lo hi (ns.drop (i + 1))) x ∧ okR lo hi (x - t) = true) := fun x => by
    constructor
    · rintro ⟨p, hp, h2, h3⟩
      obtain ⟨hp', _⟩ := List.mem_filter.mp hp
      obtain ⟨t, ht, hp2⟩ := List.mem_flatMap.mp hp'
      obtain ⟨r, hr, hp3⟩ := List.mem_flatMap.mp hp2
      refine ⟨t, ht, ?_⟩
      unfold hnOne at hp3
      rcases List.mem_cons.mp hp3 with e | e
      · subst e
        have a1 := maxZ_eq (r.1 - t) lo
        have a2 := minZ_eq (r.2 - t) hi
        dsimp only at h2 h3
        left
        refine ⟨okR_iff.mpr ?_, r, hr, ?_⟩
        · split at a1 <;> split at a2 <;> omega
        · split at a1 <;> split at a2 <;> omega
      · split at e
        · rename_i h0
          rw [List.mem_singleton] at e
          subst e
          have a1 := maxZ_eq r.1 (t + lo)
          have a2 := minZ_eq r.2 (t + hi)
          dsimp only at h2 h3
          right
          refine ⟨h0, ⟨r, hr, ?_⟩, okR_iff.mpr ?_⟩
          · split at a1 <;> split at a2 <;> omega
          · split at a1 <;> split at a2 <;> omega
        · simp at e
    · rintro ⟨t, ht, h⟩
      rcases h with ⟨ho, r, hr, h2, h3⟩ | ⟨h0, ⟨r, hr, h2, h3⟩, ho⟩
      · have o := okR_iff.mp ho
        have a1 := maxZ_eq (r.1 - t) lo
        have a2 := minZ_eq (r.2 - t) hi
        have q1 : maxZ (r.1 - t) lo ≤ x := by split at a1 <;> omega
        have q2 : x ≤ minZ (r.2 - t) hi := by split at a2 <;> omega
        exact ⟨(maxZ (r.1 - t) lo, minZ (r.2 - t) hi), List.mem_filter.mpr ⟨List.mem_flatMap.mpr ⟨t, ht, List.mem_flatMap.mpr ⟨r, hr, List.mem_cons_self ..⟩⟩, decide_eq_true (Int.le_trans q1 q2)⟩, q1, q2⟩
      · have o := okR_iff.mp ho
        have a1 := maxZ_eq r.1 (t + lo)
        have a2 := minZ_eq r.2 (t + hi)
        have q1 : maxZ r.1 (t + lo) ≤ x := by split at a1 <;> omega
        have q2 : x ≤ minZ r.2 (t + hi) := by split at a2 <;> omega
        refine ⟨(maxZ r.1 (t + lo), minZ r.2 (t + hi)), List.mem_filter.mpr ⟨List.mem_flatMap.mpr ⟨t, ht, List.mem_flatMap.mpr ⟨r, hr, ?_⟩⟩, decide_eq_true (Int.le_trans q1 q2)⟩, q1, q2⟩
        unfold hnOne
        rw [if_pos h0]
        exact List.mem_cons_of_mem _ (List.mem_cons_self ..)
  refine ⟨merge_nf hok, fun x => ?_⟩
  show inU (mergeM _) x ↔ _
  rw [merge_in hok, hin]
  have hf : (true && (ns.take i).isEmpty) = isF true i := isF_take (by omega)
  constructor
  · rintro ⟨t, ht, h⟩
    obtain ⟨p, hp, rfl⟩ := (hrow t).mp ht
    have hpl : p.length = (ns.take i).length := rd_len hp
    rcases h with ⟨ho, hu⟩ | ⟨h0, hu, ho⟩
    · obtain ⟨_, q, hq, hle⟩ := (k2 _).mp hu
      have he : (108, tmM 0 (ns.take i) p + x) ∈ stepsM lo hi (tmM 0 (ns.take i) p) x (isF true i) := mem_steps.mpr (.inl ⟨ho, rfl⟩)
      refine ⟨p ++ 108 :: q, rd_split.mpr ⟨p, 108 :: q, rfl, hp, by rw [hf]; exact mem_rd_cons.mpr ⟨_, he, q, hq, rfl⟩⟩, ?_⟩
      unfold withAt
      rw [tm_app _ _ _ _ _ hpl, (lap_step he _ _).2]
      exact hle
    · obtain ⟨_, q, hq, hle⟩ := (k2 _).mp hu
      have he : (116, x) ∈ stepsM lo hi (tmM 0 (ns.take i) p) x (isF true i) := mem_steps.mpr (.inr ⟨by unfold isF; simp; omega, ho, rfl⟩)
      refine ⟨p ++ 116 :: q, rd_split.mpr ⟨p, 116 :: q, rfl, hp, by rw [hf]; exact mem_rd_cons.mpr ⟨_, he, q, hq, rfl⟩⟩, ?_⟩
      unfold withAt
      rw [tm_app _ _ _ _ _ hpl, (lap_step he _ _).2]
      exact hle
  · rintro ⟨ks, hk, hle⟩
    unfold withAt at hk hle
    obtain ⟨p, q0, rfl, hp, hq0⟩ := rd_split.mp hk
    rw [hf] at hq0
    obtain ⟨e, he, q, hq, rfl⟩ := mem_rd_cons.mp hq0
    have hpl : p.length = (ns.take i).length := rd_len hp
    rw [tm_app _ _ _ _ _ hpl, (lap_step he _ _).2] at hle
    have ht0 : 0 ≤ tmM 0 (ns.take i) p := (tm_bnd (show 0 ≤ lo by omega) (show 0 ≤ hi by omega) (ns.take i) p 0 (mem_rd.mp hp).ok).1
    refine ⟨tmM 0 (ns.take i) p, (hrow _).mpr ⟨p, hp, rfl⟩, ?_⟩
    rcases mem_steps.mp he with ⟨ho, rfl⟩ | ⟨hfi, ho, rfl⟩
    · have o := okR_iff.mp ho
      exact .inl ⟨ho, (k2 _).mpr ⟨by omega, q, hq, hle⟩⟩
    · have o := okR_iff.mp ho
      refine .inr ⟨?_, (k2 _).mpr ⟨by omega, q, hq, hle⟩, ho⟩
      cases i with
      | zero => exact absurd hfi (by decide)
      | succ i => omega
theorem hidden_rd {lo hi : Int} (h1 : 1 ≤ lo) (hlh : lo ≤ hi) {ns : List Int} {i : Nat} (hi' : i < ns.length) (hn : ∀ n ∈ ns, 0 ≤ n) (hb : hi * (ns.length : Nat) ≤ 1000000000) (x : Int) : inU (hnM lo hi ns i) x ↔ rd lo hi 0 true (withAt ns i x) ≠ [] := by
  rw [(hidden_spec h1 hlh hi' hn).2 x]
  have hl : (withAt ns i x).length = ns.length := by
    unfold withAt
    rw [List.length_append, List.length_cons, List.length_take, List.length_drop]
    omega
  constructor
  · rintro ⟨ks, hk, _⟩
    exact List.ne_nil_of_mem hk
  · intro h
    obtain ⟨ks, hk⟩ := List.exists_mem_of_ne_nil _ h
    have h2 := (tm_bnd (show 0 ≤ lo by omega) (show 0 ≤ hi by omega) (withAt ns i x) ks 0 (mem_rd.mp hk).ok).2
    rw [hl] at h2
    exact ⟨ks, hk, by omega⟩
end PL
set_option Elab.async false
set_option linter.all false
set_option maxRecDepth 100000
set_option maxHeartbeats 4000000
namespace PL
open PySem PySem.Spec PyProof.Rows L2
def rgGo (pre : List (Int × Int)) (q : Int × Int) : List Int → List (Int × Int)
  | [] => pre ++ [q]
  | x :: xs => if q.2 = x - 1 then rgGo pre (q.1, x) xs else rgGo (pre ++ [q]) (x, x) xs
def rgM : List Int → List (Int × Int)
  | [] => []
  | x :: xs => rgGo [] (x, x) xs
theorem idx_at_last (pre : List (Int × Int)) (q : Int × Int) : idxD (lstP (pre ++ [q])) (.int (((pre ++ [q]).length : Nat) - 1)) = .ok (pairD q) := by
  have e : (((pre ++ [q]).length : Nat) : Int) - 1 = (pre.length : Nat) := by rw [List.length_append, List.length_singleton]; omega
  rw [e]
  refine idx_lst ?_
  rw [List.getElem?_map, List.getElem?_append_right (Nat.le_refl _), Nat.sub_self]
  rfl
theorem ranges_1 (a : Option D) : ∀ (xs : List Int) (pre : List (Int × Int)) (q : Int × Int) (g2 : Option D), pre.length + 1 + xs.length < 1000000 →
    ∃ g2', forL (gtN 2) B__law_ranges_1 (xs.map D.int) [a, some (lstP (pre ++ [q])), g2] = .next [a, some (lstP (rgGo pre q xs)), g2'] := by
  intro xs
  induction xs with
  | nil => exact fun pre q g2 _ => ⟨g2, rfl⟩
  | cons x xs ih =>
    intro pre q g2 hl
    rw [List.length_cons] at hl
    have hne : decide (pre ++ [q] = []) = false := decide_eq_false (by simp)
    have e0 : D.lst [] = lstP [] := rfl
    have ll : lenD [lstP (pre ++ [q])] = .ok (.int ((pre ++ [q]).length : Nat)) := by rw [len_lst, List.length_map]
    have i1 := idx_at_last pre q
    have i2 : idxD (pairD q) (.int 1) = .ok (.int q.2) := rfl
    have i3 : idxD (pairD q) (.int 0) = .ok (.int q.1) := rfl
    by_cases h : q.2 = x - 1
    · obtain ⟨y2, h1⟩ := ih pre (q.1, x) (some (.int x)) (by omega)
      refine ⟨y2, (forL_step (gtN_eq ..) ?_).trans (h1.trans ?_)⟩
      · have e : (((pre ++ [q]).length : Nat) : Int) - 1 = (pre.length : Nat) := by rw [List.length_append, List.length_singleton]; omega
        have e1 : lsetD ((pre ++ [q]).map pairD) (.tup [.int q.1, .int x]) (.int ((((pre ++ [q]).length : Nat) : Int) - 1)) = .ok (lstP (pre ++ [(q.1, x)])) := by
          rw [e, lset_int (by rw [List.length_map, List.length_append, List.length_singleton]; omega), List.map_append]
          rw [List.set_append_right _ _ (by rw [List.length_map]; exact Nat.le_refl _), List.length_map, Nat.sub_self]
          show Res.ok (D.lst _) = Res.ok (D.lst ((pre ++ [(q.1, x)]).map pairD))
          rw [List.map_append]
          rfl
        simp only [B__law_ranges_1, ev_seq, ev_nil, ev_set, ev_ret, ev_if, ev_for, forI_ok, ev_varS, ev_var0, ev_cst, ev_un, ev_bin, ev_eif, ev_tst, blD_bl, ev_tval, ev_cmp, ev_chn, ev_tnot, ev_tand, ev_tor, ev_anil, ev_acons, ev_args, ev_eand, ev_eor, notD_bl, addD_int, subD_int, negD_int, ltD_int, leD_int, gtD_int, geD_int, eqD_int, neD_int, ev_app, lstOf_lst, dctOf_dct, ev_par2, noX_ok, ev_unp, gtN_eq, gtT2, tup2, tup1, tup0, lst0, lst1, idx_pair0, idx_pair1, thn_next, thn_ret, thn_exc, thn_bad, res_next, res_ret, cnd_ok, env_ok, out_ok, bind_ok, forB_ok, setAll_cons, setAll_nil, List.set_cons_succ, List.set_cons_zero, ev_dset, ev_daug, ev_get2, getOr_int, dctOf_I, ev_comp, wipeE_cons, wipeE_nil, ev_slice, ev_onone, ev_osome, intOf_int, ev_ttrue, ev_count, strOf_str, cntS_ch, revD_tup, e0, ne_lstP, hne, Bool.not_false, if_true, ll, i1, i2, i3, decide_eq_true h, ev_lset, e1]
      · show _ = Out.next [a, some (lstP (if q.2 = x - 1 then rgGo pre (q.1, x) xs else rgGo (pre ++ [q]) (x, x) xs)), y2]
        rw [if_pos h]
    · obtain ⟨y2, h1⟩ := ih (pre ++ [q]) (x, x) (some (.int x)) (by rw [List.length_append, List.length_singleton]; omega)
      refine ⟨y2, (forL_step (gtN_eq ..) ?_).trans (h1.trans ?_)⟩
      · have e1 : D.tup [.int x, .int x] = pairD (x, x) := rfl
        simp only [B__law_ranges_1, ev_seq, ev_nil, ev_set, ev_ret, ev_if, ev_for, forI_ok, ev_varS, ev_var0, ev_cst, ev_un, ev_bin, ev_eif, ev_tst, blD_bl, ev_tval, ev_cmp, ev_chn, ev_tnot, ev_tand, ev_tor, ev_anil, ev_acons, ev_args, ev_eand, ev_eor, notD_bl, addD_int, subD_int, negD_int, ltD_int, leD_int, gtD_int, geD_int, eqD_int, neD_int, ev_app, lstOf_lst, dctOf_dct, ev_par2, noX_ok, ev_unp, gtN_eq, gtT2, tup2, tup1, tup0, lst0, lst1, idx_pair0, idx_pair1, thn_next, thn_ret, thn_exc, thn_bad, res_next, res_ret, cnd_ok, env_ok, out_ok, bind_ok, forB_ok, setAll_cons, setAll_nil, List.set_cons_succ, List.set_cons_zero, ev_dset, ev_daug, ev_get2, getOr_int, dctOf_I, ev_comp, wipeE_cons, wipeE_nil, ev_slice, ev_onone, ev_osome, intOf_int, ev_ttrue, ev_count, strOf_str, cntS_ch, revD_tup, e0, ne_lstP, hne, Bool.not_false, if_true, ll, i1, i2, i3, decide_eq_false h, Bool.false_eq_true, if_false, e1]
        rw [app_map (by rw [List.length_append, List.length_singleton]; unfold LIM; omega)]
        simp only [ev_seq, ev_nil, ev_set, ev_ret, ev_if, ev_for, forI_ok, ev_varS, ev_var0, ev_cst, ev_un, ev_bin, ev_eif, ev_tst, blD_bl, ev_tval, ev_cmp, ev_chn, ev_tnot, ev_tand, ev_tor, ev_anil, ev_acons, ev_args, ev_eand, ev_eor, notD_bl, addD_int, subD_int, negD_int, ltD_int, leD_int, gtD_int, geD_int, eqD_int, neD_int, ev_app, lstOf_lst, dctOf_dct, ev_par2, noX_ok, ev_unp, gtN_eq, gtT2, tup2, tup1, tup0, lst0, lst1, idx_pair0, idx_pair1, thn_next, thn_ret, thn_exc, thn_bad, res_next, res_ret, cnd_ok, env_ok, out_ok, bind_ok, forB_ok, setAll_cons, setAll_nil, List.set_cons_succ, List.set_cons_zero, ev_dset, ev_daug, ev_get2, getOr_int, dctOf_I, ev_comp, wipeE_cons, wipeE_nil, ev_slice, ev_onone, ev_osome, intOf_int, ev_ttrue, ev_count, strOf_str, cntS_ch, revD_tup]
      · show _ = Out.next [a, some (lstP (if q.2 = x - 1 then rgGo pre (q.1, x) xs else rgGo (pre ++ [q]) (x, x) xs)), y2]
        rw [if_neg h]
theorem ranges_eq (xs : List Int) (h : xs.length < 900000) : S__law_ranges [lstI xs] = .ok (lstP (rgM xs)) := by
  rw [R__law_ranges]
  have e0 : D.lst [] = lstP [] := rfl
  have it : itemsD (lstI xs) = .ok (xs.map D.int) := rfl
  cases hx : xs with
  | nil =>
    rw [hx] at it
    simp only [B__law_ranges, ev_seq, ev_nil, ev_set, ev_ret, ev_if, ev_for, forI_ok, ev_varS, ev_var0, ev_cst, ev_un, ev_bin, ev_eif, ev_tst, blD_bl, ev_tval, ev_cmp, ev_chn, ev_tnot, ev_tand, ev_tor, ev_anil, ev_acons, ev_args, ev_eand, ev_eor, notD_bl, addD_int, subD_int, negD_int, ltD_int, leD_int, gtD_int, geD_int, eqD_int, neD_int, ev_app, lstOf_lst, dctOf_dct, ev_par2, noX_ok, ev_unp, gtN_eq, gtT2, tup2, tup1, tup0, lst0, lst1, idx_pair0, idx_pair1, thn_next, thn_ret, thn_exc, thn_bad, res_next, res_ret, cnd_ok, env_ok, out_ok, bind_ok, forB_ok, setAll_cons, setAll_nil, List.set_cons_succ, List.set_cons_zero, ev_dset, ev_daug, ev_get2, getOr_int, dctOf_I, ev_comp, wipeE_cons, wipeE_nil, ev_slice, ev_onone, ev_osome, intOf_int, ev_ttrue, ev_count, strOf_str, cntS_ch, revD_tup, e0, it]
    rfl
  | cons x r =>
    rw [hx] at it h
    rw [List.length_cons] at h
    obtain ⟨y2, h1⟩ := ranges_1 (some (lstI (x :: r))) r [] (x, x) (some (.int x)) (by simp; omega)
    have h0 : forL (gtN 2) B__law_ranges_1 ((x :: r).map D.int) [some (lstI (x :: r)), some (lstP []), none] = .next [some (lstI (x :: r)), some (lstP (rgGo [] (x, x) r)), y2] := by
      refine (forL_step (gtN_eq ..) ?_).trans h1
      have e1 : D.tup [.int x, .int x] = pairD (x, x) := rfl
      have e2 : neD (lstP []) (lstP []) = .ok false := by rw [ne_lstP]; rfl
      simp only [B__law_ranges_1, ev_seq, ev_nil, ev_set, ev_ret, ev_if, ev_for, forI_ok, ev_varS, ev_var0, ev_cst, ev_un, ev_bin, ev_eif, ev_tst, blD_bl, ev_tval, ev_cmp, ev_chn, ev_tnot, ev_tand, ev_tor, ev_anil, ev_acons, ev_args, ev_eand, ev_eor, notD_bl, addD_int, subD_int, negD_int, ltD_int, leD_int, gtD_int, geD_int, eqD_int, neD_int, ev_app, lstOf_lst, dctOf_dct, ev_par2, noX_ok, ev_unp, gtN_eq, gtT2, tup2, tup1, tup0, lst0, lst1, idx_pair0, idx_pair1, thn_next, thn_ret, thn_exc, thn_bad, res_next, res_ret, cnd_ok, env_ok, out_ok, bind_ok, forB_ok, setAll_cons, setAll_nil, List.set_cons_succ, List.set_cons_zero, ev_dset, ev_daug, ev_get2, getOr_int, dctOf_I, ev_comp, wipeE_cons, wipeE_nil, ev_slice, ev_onone, ev_osome, intOf_int, ev_ttrue, ev_count, strOf_str, cntS_ch, revD_tup, e0, e2, Bool.false_eq_true, if_false, e1]
      rw [app_map (by unfold LIM; simp)]
      simp only [ev_seq, ev_nil, ev_set, ev_ret, ev_if, ev_for, forI_ok, ev_varS, ev_var0, ev_cst, ev_un, ev_bin, ev_eif, ev_tst, blD_bl, ev_tval, ev_cmp, ev_chn, ev_tnot, ev_tand, ev_tor, ev_anil, ev_acons, ev_args, ev_eand, ev_eor, notD_bl, addD_int, subD_int, negD_int, ltD_int, leD_int, gtD_int, geD_int, eqD_int, neD_int, ev_app, lstOf_lst, dctOf_dct, ev_par2, noX_ok, ev_unp, gtN_eq, gtT2, tup2, tup1, tup0, lst0, lst1, idx_pair0, idx_pair1, thn_next, thn_ret, thn_exc, thn_bad, res_next, res_ret, cnd_ok, env_ok, out_ok, bind_ok, forB_ok, setAll_cons, setAll_nil, List.set_cons_succ, List.set_cons_zero, ev_dset, ev_daug, ev_get2, getOr_int, dctOf_I, ev_comp, wipeE_cons, wipeE_nil, ev_slice, ev_onone, ev_osome, intOf_int, ev_ttrue, ev_count, strOf_str, cntS_ch, revD_tup]
    simp only [B__law_ranges, ev_seq, ev_nil, ev_set, ev_ret, ev_if, ev_for, forI_ok, ev_varS, ev_var0, ev_cst, ev_un, ev_bin, ev_eif, ev_tst, blD_bl, ev_tval, ev_cmp, ev_chn, ev_tnot, ev_tand, ev_tor, ev_anil, ev_acons, ev_args, ev_eand, ev_eor, notD_bl, addD_int, subD_int, negD_int, ltD_int, leD_int, gtD_int, geD_int, eqD_int, neD_int, ev_app, lstOf_lst, dctOf_dct, ev_par2, noX_ok, ev_unp, gtN_eq, gtT2, tup2, tup1, tup0, lst0, lst1, idx_pair0, idx_pair1, thn_next, thn_ret, thn_exc, thn_bad, res_next, res_ret, cnd_ok, env_ok, out_ok, bind_ok, forB_ok, setAll_cons, setAll_nil, List.set_cons_succ, List.set_cons_zero, ev_dset, ev_daug, ev_get2, getOr_int, dctOf_I, ev_comp, wipeE_cons, wipeE_nil, ev_slice, ev_onone, ev_osome, intOf_int, ev_ttrue, ev_count, strOf_str, cntS_ch, revD_tup, e0, it, h0]
    rfl
theorem rgGo_spec : ∀ (xs : List Int) (pre : List (Int × Int)) (q : Int × Int), Nf (pre ++ [q]) → (∀ x ∈ xs, q.2 < x) → xs.Pairwise (· < ·) → Nf (rgGo pre q xs) ∧ ∀ n, inU (rgGo pre q xs) n ↔ inU pre n ∨ (q.1 ≤ n ∧ n ≤ q.2) ∨ n ∈ xs
  | [], pre, q, h, _, _ => by
    refine ⟨h, fun n => ?_⟩
    show inU (pre ++ [q]) n ↔ _
    unfold inU
    simp only [List.mem_append, List.mem_singleton, List.not_mem_nil, or_false]
    constructor
    · rintro ⟨p, h | h, h2⟩
      · exact .inl ⟨p, h, h2⟩
      · subst h; exact .inr h2
    · rintro (⟨p, h, h2⟩ | h)
      · exact ⟨p, .inl h, h2⟩
      · exact ⟨q, .inr rfl, h⟩
  | x :: xs, pre, q, h, h1, h2 => by
    obtain ⟨k1, k2⟩ := List.pairwise_cons.mp h2
    have hx := h1 x (List.mem_cons_self ..)
    obtain ⟨g1, g2, g3⟩ := List.pairwise_append.mp h.gap
    have hq := h.ok q (List.mem_append_right _ (List.mem_singleton.mpr rfl))
    show Nf (if q.2 = x - 1 then rgGo pre (q.1, x) xs else rgGo (pre ++ [q]) (x, x) xs) ∧ ∀ n, inU (if q.2 = x - 1 then rgGo pre (q.1, x) xs else rgGo (pre ++ [q]) (x, x) xs) n ↔ _
    by_cases he : q.2 = x - 1
    · rw [if_pos he]
      obtain ⟨a1, a2⟩ := rgGo_spec xs pre (q.1, x) ⟨List.pairwise_append.mpr ⟨g1, List.pairwise_singleton _ _, fun a ha b hb => by rw [List.mem_singleton.mp hb]; exact g3 a ha q (List.mem_singleton.mpr rfl)⟩, fun p hp => by
        rcases List.mem_append.mp hp with hp | hp
        · exact h.ok p (List.mem_append_left _ hp)
        · rw [List.mem_singleton.mp hp]; dsimp only; omega⟩ k1 k2
      refine ⟨a1, fun n => ?_⟩
      rw [a2 n, List.mem_cons]
      dsimp only
      have : (q.1 ≤ n ∧ n ≤ x) ↔ (q.1 ≤ n ∧ n ≤ q.2) ∨ n = x := by omega
      rw [this, or_assoc]
    · rw [if_neg he]
      obtain ⟨a1, a2⟩ := rgGo_spec xs (pre ++ [q]) (x, x) ⟨List.pairwise_append.mpr ⟨h.gap, List.pairwise_singleton _ _, fun a ha b hb => by
        rw [List.mem_singleton.mp hb]
        rcases List.mem_append.mp ha with ha | ha
        · have := g3 a ha q (List.mem_singleton.mpr rfl); dsimp only; omega
        · rw [List.mem_singleton.mp ha]; dsimp only; omega⟩, fun p hp => by
        rcases List.mem_append.mp hp with hp | hp
        · exact h.ok p hp
        · rw [List.mem_singleton.mp hp]; exact Int.le_refl _⟩ k1 k2
      refine ⟨a1, fun n => ?_⟩
      rw [a2 n, List.mem_cons]
      dsimp only
      have e1 : inU (pre ++ [q]) n ↔ inU pre n ∨ (q.1 ≤ n ∧ n ≤ q.2) := by
        unfold inU
        simp only [List.mem_append, List.mem_singleton]
        constructor
        · rintro ⟨p, h | h, h2⟩
          · exact .inl ⟨p, h, h2⟩
          · subst h; exact .inr h2
        · rintro (⟨p, h, h2⟩ | h)
          · exact ⟨p, .inl h, h2⟩
          · exact ⟨q, .inr rfl, h⟩
      have e2 : (x ≤ n ∧ n ≤ x) ↔ n = x := by omega
      rw [e1, e2, or_assoc]
theorem rg_spec {xs : List Int} (h : xs.Pairwise (· < ·)) : Nf (rgM xs) ∧ ∀ n, inU (rgM xs) n ↔ n ∈ xs := by
  cases xs with
  | nil => exact ⟨⟨.nil, fun p h => by simp [rgM] at h⟩, fun n => by unfold inU rgM; simp⟩
  | cons x xs =>
    obtain ⟨k1, k2⟩ := List.pairwise_cons.mp h
    obtain ⟨a1, a2⟩ := rgGo_spec xs [] (x, x) ⟨List.pairwise_singleton _ _, fun p hp => by rw [List.mem_singleton.mp hp]; exact Int.le_refl _⟩ k1 k2
    refine ⟨a1, fun n => ?_⟩
    show inU (rgGo [] (x, x) xs) n ↔ _
    rw [a2 n, List.mem_cons]
    dsimp only
    have e1 : inU [] n ↔ False := by unfold inU; simp
    have e2 : (x ≤ n ∧ n ≤ x) ↔ n = x := by omega
    rw [e1, e2, false_or]
theorem nf_one : ∀ {l : List (Int × Int)} {n : Int}, Nf l → inU l n → (l.filter fun p => okR p.1 p.2 n).length = 1
  | [], n, _, ⟨p, h, _⟩ => by simp at h
  | p :: l, n, h, hn => by
    obtain ⟨g1, g2⟩ := List.pairwise_cons.mp h.gap
    have hl : Nf l := ⟨g2, fun x hx => h.ok x (List.mem_cons_of_mem _ hx)⟩
    by_cases hp : okR p.1 p.2 n = true
    · have o := okR_iff.mp hp
      rw [List.filter_cons, if_pos hp]
      have : l.filter (fun p => okR p.1 p.2 n) = [] := by
        rw [List.filter_eq_nil_iff]
        intro x hx
        have := g1 x hx
        rw [okR_iff]
        omega
      rw [this]
      rfl
    · rw [List.filter_cons, if_neg hp]
      refine nf_one hl ?_
      obtain ⟨x, hx, h2⟩ := hn
      rcases List.mem_cons.mp hx with e | e
      · subst e; exact absurd (okR_iff.mpr h2) hp
      · exact ⟨x, e, h2⟩
theorem withAt_len {ns : List Int} {i : Nat} (hi' : i < ns.length) (x : Int) : (withAt ns i x).length = ns.length := by
  unfold withAt
  rw [List.length_append, List.length_cons, List.length_take, List.length_drop]
  omega
theorem withAt_take {ns : List Int} {i : Nat} (hi' : i < ns.length) (x : Int) : (withAt ns i x).take i = ns.take i := by
  unfold withAt
  exact List.take_left' (by rw [List.length_take]; omega)
theorem withAt_dg {ns : List Int} {i : Nat} (hi' : i < ns.length) (x : Int) : dg (withAt ns i x) i = x := by
  have h1 := dg_get (ds := withAt ns i x) (k := i) (by rw [withAt_len hi']; exact hi')
  unfold withAt at h1
  rw [List.getElem?_append_right (by rw [List.length_take]; omega), List.length_take, Nat.min_eq_left (by omega), Nat.sub_self] at h1
  unfold withAt
  exact (Option.some.inj h1).symm
theorem withAt_self {ns : List Int} {i : Nat} (hi' : i < ns.length) : withAt ns i (dg ns i) = ns := by
  unfold withAt
  rw [← drop_dg hi', List.take_append_drop]
theorem withAt_bnd {lo hi : Int} (h1 : 1 ≤ lo) (h2 : lo ≤ hi) {ns : List Int} {i : Nat} (hi' : i < ns.length) {x : Int} (h : rd lo hi 0 true (withAt ns i x) ≠ []) : 1 ≤ x ∧ x ≤ hi * (ns.length : Nat) := by
  obtain ⟨ks, hk⟩ := List.exists_mem_of_ne_nil _ h
  obtain ⟨p, e, s, _⟩ := rd_at hk (a := i) (by rw [withAt_len hi']; exact hi')
  rw [withAt_take hi', withAt_dg hi'] at s
  rw [withAt_take hi'] at p
  have t := tm_bnd (show 0 ≤ lo by omega) (show 0 ≤ hi by omega) (ns.take i) (ks.take i) 0 (mem_rd.mp p).ok
  have hl : ((ns.take i).length : Int) ≤ (ns.length : Nat) - 1 := by rw [List.length_take]; omega
  have hm : hi * ((ns.take i).length : Nat) ≤ hi * ((ns.length : Nat) - 1) := Int.mul_le_mul_of_nonneg_left hl (by omega)
  rw [Int.mul_sub, Int.mul_one] at hm
  have hm2 : hi * 1 ≤ hi * (ns.length : Nat) := Int.mul_le_mul_of_nonneg_left (by omega) (by omega)
  rcases mem_steps.mp s with ⟨o, _⟩ | ⟨_, o, _⟩
  · have := okR_iff.mp o; omega
  · have := okR_iff.mp o; omega
theorem add_tup (a b : List Int) (h : a.length + b.length ≤ 1000000) : addD (tupI a) (tupI b) = .ok (tupI (a ++ b)) := by
  show (if (a.map D.int).length + (b.map D.int).length ≤ LIM then Res.ok (D.tup (a.map D.int ++ b.map D.int)) else .bad) = _
  rw [List.length_map, List.length_map, if_pos (by unfold LIM; omega), ← List.map_append]
theorem drop_tup (ns : List Int) (k : Nat) : sliceD (tupI ns) (some (k : Int)) none = .ok (tupI (ns.drop k)) := by rw [slT_from, ← List.map_drop]
end PL
set_option Elab.async false
set_option linter.all false
set_option maxRecDepth 100000
set_option maxHeartbeats 4000000
namespace PL
open PySem PySem.Spec PyProof.Rows L2
def stp (lo hi s n : Int) (f b : Bool) (t : Int) : Prop := if b = true then okR lo hi (t - s) = true else ∃ c, (c, t) ∈ stepsM lo hi s n f
def Reach (lo hi : Int) (t : Int) (f : Bool) : List Int → List Bool → Int → Prop
  | [], [], u => u = t
  | n :: ns, b :: bs, u => ∃ s, stp lo hi t n f b s ∧ Reach lo hi s false ns bs u
  | _, _, _ => False
theorem reach_snoc {lo hi : Int} : ∀ (ns : List Int) (bs : List Bool) (t : Int) (f : Bool) (n : Int) (b : Bool) (u : Int), bs.length = ns.length →
    (Reach lo hi t f (ns ++ [n]) (bs ++ [b]) u ↔ ∃ s, Reach lo hi t f ns bs s ∧ stp lo hi s n (f && ns.isEmpty) b u)
  | [], [], t, f, n, b, u, _ => by
    show (∃ s, stp lo hi t n f b s ∧ u = s) ↔ ∃ s, s = t ∧ stp lo hi s n (f && true) b u
    rw [Bool.and_true]
    constructor
    · rintro ⟨s, h, rfl⟩; exact ⟨t, rfl, h⟩
    · rintro ⟨s, rfl, h⟩; exact ⟨u, h, rfl⟩
  | [], _ :: _, _, _, _, _, _, h => by simp at h
  | _ :: _, [], _, _, _, _, _, h => by simp at h
  | m :: ns, c :: bs, t, f, n, b, u, h => by
    have ih := fun s => reach_snoc (lo := lo) (hi := hi) ns bs s false n b u (by simpa using h)
    show (∃ s, stp lo hi t m f c s ∧ Reach lo hi s false (ns ++ [n]) (bs ++ [b]) u) ↔ ∃ s, (∃ r, stp lo hi t m f c r ∧ Reach lo hi r false ns bs s) ∧ stp lo hi s n (f && false) b u
    rw [Bool.and_false]
    constructor
    · rintro ⟨r, h1, h2⟩
      obtain ⟨s, h3, h4⟩ := (ih r).mp h2
      exact ⟨s, ⟨r, h1, h3⟩, h4⟩
    · rintro ⟨s, ⟨r, h1, h3⟩, h4⟩
      exact ⟨r, h1, (ih r).mpr ⟨s, h3, h4⟩⟩
def CanB (lo hi t : Int) (f : Bool) (ns : List Int) (bs : List Bool) : Prop := ∃ u, Reach lo hi t f ns bs u
theorem can_cons {lo hi t : Int} {f : Bool} {n : Int} {ns : List Int} {b : Bool} {bs : List Bool} : CanB lo hi t f (n :: ns) (b :: bs) ↔ ∃ s, stp lo hi t n f b s ∧ CanB lo hi s false ns bs := by
  unfold CanB
  constructor
  · rintro ⟨u, s, h1, h2⟩; exact ⟨s, h1, u, h2⟩
  · rintro ⟨s, h1, u, h2⟩; exact ⟨u, s, h1, h2⟩
theorem rd_ne_cons {lo hi t n : Int} {f : Bool} {ns : List Int} : rd lo hi t f (n :: ns) ≠ [] ↔ ∃ s, (∃ c, (c, s) ∈ stepsM lo hi t n f) ∧ rd lo hi s false ns ≠ [] := by
  constructor
  · intro h
    obtain ⟨ks, hk⟩ := List.exists_mem_of_ne_nil _ h
    obtain ⟨e, he, q, hq, _⟩ := mem_rd_cons.mp hk
    exact ⟨e.2, ⟨e.1, he⟩, List.ne_nil_of_mem hq⟩
  · rintro ⟨s, ⟨c, hc⟩, h⟩
    obtain ⟨q, hq⟩ := List.exists_mem_of_ne_nil _ h
    exact List.ne_nil_of_mem (mem_rd_cons.mpr ⟨(c, s), hc, q, hq, rfl⟩)
theorem can_none {lo hi : Int} : ∀ (ns : List Int) (t : Int) (f : Bool), CanB lo hi t f ns (List.replicate ns.length false) ↔ rd lo hi t f ns ≠ []
  | [], t, f => ⟨fun _ h => by simp [rd] at h, fun _ => ⟨t, rfl⟩⟩
  | n :: ns, t, f => by
    rw [List.length_cons, List.replicate_succ, can_cons, rd_ne_cons]
    constructor
    · rintro ⟨s, h1, h2⟩; exact ⟨s, h1, (can_none ns s false).mp h2⟩
    · rintro ⟨s, h1, h2⟩; exact ⟨s, h1, (can_none ns s false).mpr h2⟩
def oneM : Nat → Nat → List Bool
  | 0, _ => []
  | m + 1, 0 => true :: List.replicate m false
  | m + 1, i + 1 => false :: oneM m i
theorem oneM_len : ∀ m i, (oneM m i).length = m
  | 0, _ => rfl
  | m + 1, 0 => by rw [oneM, List.length_cons, List.length_replicate]
  | m + 1, i + 1 => by rw [oneM, List.length_cons, oneM_len m i]
theorem oneM_count : ∀ m i, i < m → (oneM m i).count true = 1
  | 0, i, h => absurd h (Nat.not_lt_zero i)
  | m + 1, 0, _ => by
    rw [oneM, List.count_cons_self, List.count_replicate]
    rfl
  | m + 1, i + 1, h => by
    rw [oneM, List.count_cons_of_ne (by decide)]
    exact oneM_count m i (by omega)
theorem count_none : ∀ bs : List Bool, bs.count true = 0 → bs = List.replicate bs.length false
  | [], _ => rfl
  | true :: bs, h => by rw [List.count_cons_self] at h; omega
  | false :: bs, h => by
    rw [List.count_cons_of_ne (by decide)] at h
    rw [List.length_cons, List.replicate_succ]
    exact congrArg _ (count_none bs h)
theorem count_one : ∀ bs : List Bool, bs.count true = 1 → ∃ i < bs.length, bs = oneM bs.length i
  | [], h => by simp at h
  | true :: bs, h => by
    rw [List.count_cons_self] at h
    refine ⟨0, by simp, ?_⟩
    rw [List.length_cons, oneM, ← count_none bs (by omega)]
  | false :: bs, h => by
    rw [List.count_cons_of_ne (by decide)] at h
    obtain ⟨i, hi', e⟩ := count_one bs h
    refine ⟨i + 1, by rw [List.length_cons]; omega, ?_⟩
    rw [List.length_cons, oneM, ← e]
theorem can_one {lo hi : Int} : ∀ (ns : List Int) (i : Nat) (t : Int) (f : Bool), i < ns.length → (CanB lo hi t f ns (oneM ns.length i) ↔ ∃ x, rd lo hi t f (withAt ns i x) ≠ [])
  | [], i, _, _, h => absurd h (Nat.not_lt_zero i)
  | n :: ns, 0, t, f, _ => by
    rw [List.length_cons, oneM, can_cons]
    constructor
    · rintro ⟨s, h1, h2⟩
      have h1 : okR lo hi (s - t) = true := h1
      refine ⟨s - t, ?_⟩
      show rd lo hi t f ((s - t) :: ns) ≠ []
      exact rd_ne_cons.mpr ⟨s, ⟨108, mem_steps.mpr (.inl ⟨h1, by rw [show t + (s - t) = s by omega]⟩)⟩, (can_none ns s false).mp h2⟩
    · rintro ⟨x, h⟩
      have h : rd lo hi t f (x :: ns) ≠ [] := h
      obtain ⟨s, ⟨c, hc⟩, h2⟩ := rd_ne_cons.mp h
      refine ⟨s, ?_, (can_none ns s false).mpr h2⟩
      show okR lo hi (s - t) = true
      rcases mem_steps.mp hc with ⟨o, e⟩ | ⟨_, o, e⟩
      · have := congrArg Prod.snd e
        dsimp only at this
        rw [this, show t + x - t = x by omega]
        exact o
      · have := congrArg Prod.snd e
        dsimp only at this
        rw [this]
        exact o
  | n :: ns, i + 1, t, f, h => by
    have h' : i < ns.length := by rw [List.length_cons] at h; omega
    rw [List.length_cons, oneM, can_cons]
    have e : ∀ x, withAt (n :: ns) (i + 1) x = n :: withAt ns i x := fun x => rfl
    constructor
    · rintro ⟨s, h1, h2⟩
      obtain ⟨x, hx⟩ := (can_one ns i s false h').mp h2
      exact ⟨x, by rw [e]; exact rd_ne_cons.mpr ⟨s, h1, hx⟩⟩
    · rintro ⟨x, hx⟩
      rw [e] at hx
      obtain ⟨s, h1, h2⟩ := rd_ne_cons.mp hx
      exact ⟨s, h1, (can_one ns i s false h').mpr ⟨x, h2⟩⟩
theorem reach_bnd {lo hi : Int} (h0 : 0 ≤ lo) (h1 : lo ≤ hi) : ∀ (ns : List Int) (bs : List Bool) (t : Int) (f : Bool) (u : Int), Reach lo hi t f ns bs u → t ≤ u ∧ u ≤ t + hi * (ns.length : Nat)
  | [], [], t, f, u, h => by
    have h : u = t := h
    rw [h, List.length_nil]
    omega
  | [], _ :: _, _, _, _, h => by exact h.elim
  | _ :: _, [], _, _, _, h => by exact h.elim
  | n :: ns, b :: bs, t, f, u, h => by
    obtain ⟨s, h2, h3⟩ := h
    have h4 := reach_bnd h0 h1 ns bs s false u h3
    have h5 : t ≤ s ∧ s ≤ t + hi := by
      unfold stp at h2
      split at h2
      · have := okR_iff.mp h2; omega
      · obtain ⟨c, hc⟩ := h2
        rcases mem_steps.mp hc with ⟨o, e⟩ | ⟨_, o, e⟩
        · have := congrArg Prod.snd e
          have := okR_iff.mp o
          dsimp only at *; omega
        · have := congrArg Prod.snd e
          have := okR_iff.mp o
          dsimp only at *; omega
    rw [List.length_cons]
    have : hi * ((ns.length + 1 : Nat) : Int) = hi * (ns.length : Nat) + hi := by rw [Int.natCast_add, Int.mul_add]; omega
    omega
theorem can_all {lo hi : Int} (h1 : lo ≤ hi) : ∀ (ns : List Int) (t : Int) (f : Bool), CanB lo hi t f ns (List.replicate ns.length true)
  | [], t, f => ⟨t, rfl⟩
  | n :: ns, t, f => by
    rw [List.length_cons, List.replicate_succ, can_cons]
    exact ⟨t + lo, by show okR lo hi (t + lo - t) = true; exact okR_iff.mpr (by omega), can_all h1 ns _ _⟩
theorem nf_len : ∀ (l : List (Int × Int)) (a : Int) (B : Nat), Nf l → (∀ t, inU l t → a ≤ t ∧ t < a + (B : Nat)) → l.length ≤ B
  | [], _, _, _, _ => Nat.zero_le _
  | p :: l, a, B, h, hb => by
    obtain ⟨g1, g2⟩ := List.pairwise_cons.mp h.gap
    have hp := h.ok p (List.mem_cons_self ..)
    have hl : Nf l := ⟨g2, fun x hx => h.ok x (List.mem_cons_of_mem _ hx)⟩
    have h0 := hb p.1 ⟨p, List.mem_cons_self .., by omega, hp⟩
    obtain ⟨B', rfl⟩ : ∃ B', B = B' + 1 := ⟨B - 1, by omega⟩
    have := nf_len l (a + 1) B' hl fun t ht => by
      have hb2 := hb t (by obtain ⟨x, hx, h2⟩ := ht; exact ⟨x, List.mem_cons_of_mem _ hx, h2⟩)
      obtain ⟨x, hx, h2⟩ := ht
      have := g1 x hx
      omega
    rw [List.length_cons]
    omega
end PL
set_option Elab.async false
set_option linter.all false
set_option maxRecDepth 100000
set_option maxHeartbeats 4000000
namespace PL
open PySem PySem.Spec PyProof.Rows L2
def wrM (lo hi : Int) (ns : List Int) : List Nat := if rd lo hi 0 true ns = [] then (List.range ns.length).filter fun i => !decide (hnM lo hi ns i = []) else []
theorem wrong_eq (lo hi : Int) (ns : List Int) (h : ns.length ≤ 90) : S_wrong_indices [pr lo hi, tupI ns] = .ok (lstI ((wrM lo hi ns).map fun i : Nat => (i : Int))) := by
  have hne : ∀ l : List (Int × Int), neD (lstP l) (.lst []) = .ok (!decide (l = [])) := fun l => ne_nil plP (by decide) fun _ _ => trivial
  have hc := compL_map (f := fun k : Nat => D.int (k : Nat)) (g := gtN 2) (c := tCmp neD (eArgs S_hidden_numbers (aCons (eVar 0) (aCons (eVar 1) (aCons (eVar 2) aNil)))) (eArgs lstD aNil)) (e := eVar 2) (ρ := [some (pr lo hi), some (tupI ns), none]) (fun i => !decide (hnM lo hi ns i = [])) (fun k : Nat => D.int (k : Nat)) (List.range ns.length) fun k hk => ⟨[some (pr lo hi), some (tupI ns), some (.int (k : Nat))], rfl, by simp only [ev_seq, ev_nil, ev_set, ev_ret, ev_if, ev_for, forI_ok, ev_varS, ev_var0, ev_cst, ev_un, ev_bin, ev_eif, ev_tst, blD_bl, ev_tval, ev_cmp, ev_chn, ev_tnot, ev_tand, ev_tor, ev_anil, ev_acons, ev_args, ev_eand, ev_eor, notD_bl, addD_int, subD_int, negD_int, ltD_int, leD_int, gtD_int, geD_int, eqD_int, neD_int, ev_app, lstOf_lst, dctOf_dct, ev_par2, noX_ok, ev_unp, gtN_eq, gtT2, tup2, tup1, tup0, lst0, lst1, idx_pair0, idx_pair1, thn_next, thn_ret, thn_exc, thn_bad, res_next, res_ret, cnd_ok, env_ok, out_ok, bind_ok, forB_ok, setAll_cons, setAll_nil, List.set_cons_succ, List.set_cons_zero, ev_dset, ev_daug, ev_get2, getOr_int, dctOf_I, ev_comp, wipeE_cons, wipeE_nil, ev_slice, ev_onone, ev_osome, intOf_int, ev_ttrue, ev_count, strOf_str, cntS_ch, revD_tup, hidden_eq lo hi ns k (List.mem_range.mp hk) h, hne], fun _ => rfl⟩
  have e1 : lstD (((List.range ns.length).filter fun i => !decide (hnM lo hi ns i = [])).map fun k : Nat => D.int (k : Nat)) = .ok (.lst (((List.range ns.length).filter fun i => !decide (hnM lo hi ns i = [])).map fun k : Nat => D.int (k : Nat))) := lst_ok (f := fun k : Nat => D.int (k : Nat)) (Nat.le_trans (List.length_filter_le _ _) (by rw [List.length_range]; omega))
  rw [R_wrong_indices]
  unfold wrM
  by_cases hr : rd lo hi 0 true ns = []
  · have e2 : decide ((0 : Int) < (cnt lo hi 0 true ns : Nat)) = false := by rw [rd_pos, decide_eq_true hr]; rfl
    simp only [B_wrong_indices, C_wrong_indices_1, ev_seq, ev_nil, ev_set, ev_ret, ev_if, ev_for, forI_ok, ev_varS, ev_var0, ev_cst, ev_un, ev_bin, ev_eif, ev_tst, blD_bl, ev_tval, ev_cmp, ev_chn, ev_tnot, ev_tand, ev_tor, ev_anil, ev_acons, ev_args, ev_eand, ev_eor, notD_bl, addD_int, subD_int, negD_int, ltD_int, leD_int, gtD_int, geD_int, eqD_int, neD_int, ev_app, lstOf_lst, dctOf_dct, ev_par2, noX_ok, ev_unp, gtN_eq, gtT2, tup2, tup1, tup0, lst0, lst1, idx_pair0, idx_pair1, thn_next, thn_ret, thn_exc, thn_bad, res_next, res_ret, cnd_ok, env_ok, out_ok, bind_ok, forB_ok, setAll_cons, setAll_nil, List.set_cons_succ, List.set_cons_zero, ev_dset, ev_daug, ev_get2, getOr_int, dctOf_I, ev_comp, wipeE_cons, wipeE_nil, ev_slice, ev_onone, ev_osome, intOf_int, ev_ttrue, ev_count, strOf_str, cntS_ch, revD_tup, count_eq lo hi ns (by omega), e2, Bool.false_eq_true, if_false, len_tupI, rng1_eq (show ns.length < 1000000000 by omega), hc, e1]
    rw [if_pos hr]
    show Res.ok (D.lst _) = Res.ok (D.lst (List.map D.int (List.map (fun i : Nat => (i : Int)) _)))
    rw [List.map_map]
    rfl
  · have e2 : decide ((0 : Int) < (cnt lo hi 0 true ns : Nat)) = true := by rw [rd_pos, decide_eq_false hr]; rfl
    simp only [B_wrong_indices, C_wrong_indices_1, ev_seq, ev_nil, ev_set, ev_ret, ev_if, ev_for, forI_ok, ev_varS, ev_var0, ev_cst, ev_un, ev_bin, ev_eif, ev_tst, blD_bl, ev_tval, ev_cmp, ev_chn, ev_tnot, ev_tand, ev_tor, ev_anil, ev_acons, ev_args, ev_eand, ev_eor, notD_bl, addD_int, subD_int, negD_int, ltD_int, leD_int, gtD_int, geD_int, eqD_int, neD_int, ev_app, lstOf_lst, dctOf_dct, ev_par2, noX_ok, ev_unp, gtN_eq, gtT2, tup2, tup1, tup0, lst0, lst1, idx_pair0, idx_pair1, thn_next, thn_ret, thn_exc, thn_bad, res_next, res_ret, cnd_ok, env_ok, out_ok, bind_ok, forB_ok, setAll_cons, setAll_nil, List.set_cons_succ, List.set_cons_zero, ev_dset, ev_daug, ev_get2, getOr_int, dctOf_I, ev_comp, wipeE_cons, wipeE_nil, ev_slice, ev_onone, ev_osome, intOf_int, ev_ttrue, ev_count, strOf_str, cntS_ch, revD_tup, count_eq lo hi ns (by omega), e2, if_true]
    rw [if_neg hr]
    rfl
theorem hn_ne {lo hi : Int} (h1 : 1 ≤ lo) (hlh : lo ≤ hi) {ns : List Int} {i : Nat} (hi' : i < ns.length) (hn : ∀ n ∈ ns, 0 ≤ n) (hb : hi * (ns.length : Nat) ≤ 1000000000) : hnM lo hi ns i ≠ [] ↔ CanB lo hi 0 true ns (oneM ns.length i) := by
  rw [can_one ns i 0 true hi']
  have k := hidden_rd h1 hlh hi' hn hb
  have nf := (hidden_spec h1 hlh hi' hn).1
  constructor
  · intro h
    obtain ⟨p, hp⟩ := List.exists_mem_of_ne_nil _ h
    exact ⟨p.1, (k p.1).mp ⟨p, hp, Int.le_refl _, nf.ok p hp⟩⟩
  · rintro ⟨x, hx⟩
    obtain ⟨p, hp, _⟩ := (k x).mpr hx
    exact List.ne_nil_of_mem hp
abbrev lstLP (rows : List (List (Int × Int))) : D := .lst (rows.map lstP)
def fgT (lo hi n : Int) (i : Nat) (p : Int × Int) : Bool := decide ((0 : Int) < (i : Nat)) && (decide (p.1 ≤ n - lo) && decide (n - hi ≤ p.2))
def fgOne (lo hi n : Int) (i : Nat) (p : Int × Int) : List (Int × Int) := (if okR lo hi n = true then [(p.1 + n, p.2 + n)] else []) ++ (if fgT lo hi n i p = true then [(n, n)] else [])
theorem fgOne_len (lo hi n : Int) (i : Nat) (p : Int × Int) : (fgOne lo hi n i p).length ≤ 2 := by
  unfold fgOne
  split <;> split <;> simp
theorem flatF_len (lo hi n : Int) (i : Nat) : ∀ ps : List (Int × Int), (ps.flatMap (fgOne lo hi n i)).length ≤ 2 * ps.length
  | [] => by simp
  | p :: ps => by
    have h1 := flatF_len lo hi n i ps
    have h2 := fgOne_len lo hi n i p
    rw [List.flatMap_cons, List.length_append, List.length_cons]
    omega
theorem fgT_chn (lo hi n : Int) (i : Nat) (p : Int × Int) : (if decide ((0 : Int) < (i : Nat)) = true then (if decide (p.1 ≤ n - lo) = true then Res.ok (decide (n - hi ≤ p.2)) else .ok false) else .ok false) = .ok (fgT lo hi n i p) := by
  unfold fgT
  cases decide ((0 : Int) < (i : Nat)) <;> cases decide (p.1 ≤ n - lo) <;> rfl
theorem fg_1 (lo hi n : Int) (i : Nat) (nt rs lt wr g10 : Option D) : ∀ (ps sm : List (Int × Int)) (g8 g9 : Option D), sm.length + 2 * ps.length < 900000 →
    ∃ g8' g9', forL (gtT [8, 9]) B_fewest_wrong_1 (ps.map pairD) [some (pr lo hi), nt, rs, some (.int (i : Nat)), some (.int n), lt, wr, some (lstP sm), g8, g9, g10] = .next [some (pr lo hi), nt, rs, some (.int (i : Nat)), some (.int n), lt, wr, some (lstP (sm ++ ps.flatMap (fgOne lo hi n i))), g8', g9', g10] := by
  intro ps
  induction ps with
  | nil => exact fun sm g8 g9 _ => ⟨g8, g9, by rw [List.map_nil, List.flatMap_nil, List.append_nil, forL_nil]⟩
  | cons p ps ih =>
    intro sm g8 g9 hl
    rw [List.length_cons] at hl
    have h2 := fgOne_len lo hi n i p
    obtain ⟨y8, y9, h1⟩ := ih (sm ++ fgOne lo hi n i p) (some (.int p.1)) (some (.int p.2)) (by rw [List.length_append]; omega)
    refine ⟨y8, y9, (forL_step rfl ?_).trans (h1.trans ?_)⟩
    · have e1 : D.tup [.int (p.1 + n), .int (p.2 + n)] = pairD (p.1 + n, p.2 + n) := rfl
      have e2 : D.tup [.int n, .int n] = pairD (n, n) := rfl
      by_cases ho : okR lo hi n = true
      · by_cases ht : fgT lo hi n i p = true
        · have eh : fgOne lo hi n i p = [(p.1 + n, p.2 + n), (n, n)] := by unfold fgOne; rw [if_pos ho, if_pos ht]; rfl
          simp only [B_fewest_wrong_1, ev_seq, ev_nil, ev_set, ev_ret, ev_if, ev_for, forI_ok, ev_varS, ev_var0, ev_cst, ev_un, ev_bin, ev_eif, ev_tst, blD_bl, ev_tval, ev_cmp, ev_chn, ev_tnot, ev_tand, ev_tor, ev_anil, ev_acons, ev_args, ev_eand, ev_eor, notD_bl, addD_int, subD_int, negD_int, ltD_int, leD_int, gtD_int, geD_int, eqD_int, neD_int, ev_app, lstOf_lst, dctOf_dct, ev_par2, noX_ok, ev_unp, gtN_eq, gtT2, tup2, tup1, tup0, lst0, lst1, idx_pair0, idx_pair1, thn_next, thn_ret, thn_exc, thn_bad, res_next, res_ret, cnd_ok, env_ok, out_ok, bind_ok, forB_ok, setAll_cons, setAll_nil, List.set_cons_succ, List.set_cons_zero, ev_dset, ev_daug, ev_get2, getOr_int, dctOf_I, ev_comp, wipeE_cons, wipeE_nil, ev_slice, ev_onone, ev_osome, intOf_int, ev_ttrue, ev_count, strOf_str, cntS_ch, revD_tup, okR_chn, ho, if_true, e1]
          rw [app_map (by unfold LIM; omega)]
          simp only [ev_seq, ev_nil, ev_set, ev_ret, ev_if, ev_for, forI_ok, ev_varS, ev_var0, ev_cst, ev_un, ev_bin, ev_eif, ev_tst, blD_bl, ev_tval, ev_cmp, ev_chn, ev_tnot, ev_tand, ev_tor, ev_anil, ev_acons, ev_args, ev_eand, ev_eor, notD_bl, addD_int, subD_int, negD_int, ltD_int, leD_int, gtD_int, geD_int, eqD_int, neD_int, ev_app, lstOf_lst, dctOf_dct, ev_par2, noX_ok, ev_unp, gtN_eq, gtT2, tup2, tup1, tup0, lst0, lst1, idx_pair0, idx_pair1, thn_next, thn_ret, thn_exc, thn_bad, res_next, res_ret, cnd_ok, env_ok, out_ok, bind_ok, forB_ok, setAll_cons, setAll_nil, List.set_cons_succ, List.set_cons_zero, ev_dset, ev_daug, ev_get2, getOr_int, dctOf_I, ev_comp, wipeE_cons, wipeE_nil, ev_slice, ev_onone, ev_osome, intOf_int, ev_ttrue, ev_count, strOf_str, cntS_ch, revD_tup, fgT_chn, ht, if_true, e2]
          rw [app_map (by rw [List.length_append, List.length_singleton]; unfold LIM; omega)]
          simp only [ev_seq, ev_nil, ev_set, ev_ret, ev_if, ev_for, forI_ok, ev_varS, ev_var0, ev_cst, ev_un, ev_bin, ev_eif, ev_tst, blD_bl, ev_tval, ev_cmp, ev_chn, ev_tnot, ev_tand, ev_tor, ev_anil, ev_acons, ev_args, ev_eand, ev_eor, notD_bl, addD_int, subD_int, negD_int, ltD_int, leD_int, gtD_int, geD_int, eqD_int, neD_int, ev_app, lstOf_lst, dctOf_dct, ev_par2, noX_ok, ev_unp, gtN_eq, gtT2, tup2, tup1, tup0, lst0, lst1, idx_pair0, idx_pair1, thn_next, thn_ret, thn_exc, thn_bad, res_next, res_ret, cnd_ok, env_ok, out_ok, bind_ok, forB_ok, setAll_cons, setAll_nil, List.set_cons_succ, List.set_cons_zero, ev_dset, ev_daug, ev_get2, getOr_int, dctOf_I, ev_comp, wipeE_cons, wipeE_nil, ev_slice, ev_onone, ev_osome, intOf_int, ev_ttrue, ev_count, strOf_str, cntS_ch, revD_tup, eh, List.append_assoc]
          rfl
        · have eh : fgOne lo hi n i p = [(p.1 + n, p.2 + n)] := by unfold fgOne; rw [if_pos ho, if_neg ht]; rfl
          simp only [B_fewest_wrong_1, ev_seq, ev_nil, ev_set, ev_ret, ev_if, ev_for, forI_ok, ev_varS, ev_var0, ev_cst, ev_un, ev_bin, ev_eif, ev_tst, blD_bl, ev_tval, ev_cmp, ev_chn, ev_tnot, ev_tand, ev_tor, ev_anil, ev_acons, ev_args, ev_eand, ev_eor, notD_bl, addD_int, subD_int, negD_int, ltD_int, leD_int, gtD_int, geD_int, eqD_int, neD_int, ev_app, lstOf_lst, dctOf_dct, ev_par2, noX_ok, ev_unp, gtN_eq, gtT2, tup2, tup1, tup0, lst0, lst1, idx_pair0, idx_pair1, thn_next, thn_ret, thn_exc, thn_bad, res_next, res_ret, cnd_ok, env_ok, out_ok, bind_ok, forB_ok, setAll_cons, setAll_nil, List.set_cons_succ, List.set_cons_zero, ev_dset, ev_daug, ev_get2, getOr_int, dctOf_I, ev_comp, wipeE_cons, wipeE_nil, ev_slice, ev_onone, ev_osome, intOf_int, ev_ttrue, ev_count, strOf_str, cntS_ch, revD_tup, okR_chn, ho, if_true, e1]
          rw [app_map (by unfold LIM; omega)]
          simp only [ev_seq, ev_nil, ev_set, ev_ret, ev_if, ev_for, forI_ok, ev_varS, ev_var0, ev_cst, ev_un, ev_bin, ev_eif, ev_tst, blD_bl, ev_tval, ev_cmp, ev_chn, ev_tnot, ev_tand, ev_tor, ev_anil, ev_acons, ev_args, ev_eand, ev_eor, notD_bl, addD_int, subD_int, negD_int, ltD_int, leD_int, gtD_int, geD_int, eqD_int, neD_int, ev_app, lstOf_lst, dctOf_dct, ev_par2, noX_ok, ev_unp, gtN_eq, gtT2, tup2, tup1, tup0, lst0, lst1, idx_pair0, idx_pair1, thn_next, thn_ret, thn_exc, thn_bad, res_next, res_ret, cnd_ok, env_ok, out_ok, bind_ok, forB_ok, setAll_cons, setAll_nil, List.set_cons_succ, List.set_cons_zero, ev_dset, ev_daug, ev_get2, getOr_int, dctOf_I, ev_comp, wipeE_cons, wipeE_nil, ev_slice, ev_onone, ev_osome, intOf_int, ev_ttrue, ev_count, strOf_str, cntS_ch, revD_tup, fgT_chn, ht, Bool.false_eq_true, if_false, eh]
      · by_cases ht : fgT lo hi n i p = true
        · have eh : fgOne lo hi n i p = [(n, n)] := by unfold fgOne; rw [if_neg ho, if_pos ht]; rfl
          simp only [B_fewest_wrong_1, ev_seq, ev_nil, ev_set, ev_ret, ev_if, ev_for, forI_ok, ev_varS, ev_var0, ev_cst, ev_un, ev_bin, ev_eif, ev_tst, blD_bl, ev_tval, ev_cmp, ev_chn, ev_tnot, ev_tand, ev_tor, ev_anil, ev_acons, ev_args, ev_eand, ev_eor, notD_bl, addD_int, subD_int, negD_int, ltD_int, leD_int, gtD_int, geD_int, eqD_int, neD_int, ev_app, lstOf_lst, dctOf_dct, ev_par2, noX_ok, ev_unp, gtN_eq, gtT2, tup2, tup1, tup0, lst0, lst1, idx_pair0, idx_pair1, thn_next, thn_ret, thn_exc, thn_bad, res_next, res_ret, cnd_ok, env_ok, out_ok, bind_ok, forB_ok, setAll_cons, setAll_nil, List.set_cons_succ, List.set_cons_zero, ev_dset, ev_daug, ev_get2, getOr_int, dctOf_I, ev_comp, wipeE_cons, wipeE_nil, ev_slice, ev_onone, ev_osome, intOf_int, ev_ttrue, ev_count, strOf_str, cntS_ch, revD_tup, okR_chn, ho, Bool.false_eq_true, if_false, fgT_chn, ht, if_true, e2]
          rw [app_map (by unfold LIM; omega)]
          simp only [ev_seq, ev_nil, ev_set, ev_ret, ev_if, ev_for, forI_ok, ev_varS, ev_var0, ev_cst, ev_un, ev_bin, ev_eif, ev_tst, blD_bl, ev_tval, ev_cmp, ev_chn, ev_tnot, ev_tand, ev_tor, ev_anil, ev_acons, ev_args, ev_eand, ev_eor, notD_bl, addD_int, subD_int, negD_int, ltD_int, leD_int, gtD_int, geD_int, eqD_int, neD_int, ev_app, lstOf_lst, dctOf_dct, ev_par2, noX_ok, ev_unp, gtN_eq, gtT2, tup2, tup1, tup0, lst0, lst1, idx_pair0, idx_pair1, thn_next, thn_ret, thn_exc, thn_bad, res_next, res_ret, cnd_ok, env_ok, out_ok, bind_ok, forB_ok, setAll_cons, setAll_nil, List.set_cons_succ, List.set_cons_zero, ev_dset, ev_daug, ev_get2, getOr_int, dctOf_I, ev_comp, wipeE_cons, wipeE_nil, ev_slice, ev_onone, ev_osome, intOf_int, ev_ttrue, ev_count, strOf_str, cntS_ch, revD_tup, eh]
        · have eh : fgOne lo hi n i p = [] := by unfold fgOne; rw [if_neg ho, if_neg ht]; rfl
          simp only [B_fewest_wrong_1, ev_seq, ev_nil, ev_set, ev_ret, ev_if, ev_for, forI_ok, ev_varS, ev_var0, ev_cst, ev_un, ev_bin, ev_eif, ev_tst, blD_bl, ev_tval, ev_cmp, ev_chn, ev_tnot, ev_tand, ev_tor, ev_anil, ev_acons, ev_args, ev_eand, ev_eor, notD_bl, addD_int, subD_int, negD_int, ltD_int, leD_int, gtD_int, geD_int, eqD_int, neD_int, ev_app, lstOf_lst, dctOf_dct, ev_par2, noX_ok, ev_unp, gtN_eq, gtT2, tup2, tup1, tup0, lst0, lst1, idx_pair0, idx_pair1, thn_next, thn_ret, thn_exc, thn_bad, res_next, res_ret, cnd_ok, env_ok, out_ok, bind_ok, forB_ok, setAll_cons, setAll_nil, List.set_cons_succ, List.set_cons_zero, ev_dset, ev_daug, ev_get2, getOr_int, dctOf_I, ev_comp, wipeE_cons, wipeE_nil, ev_slice, ev_onone, ev_osome, intOf_int, ev_ttrue, ev_count, strOf_str, cntS_ch, revD_tup, okR_chn, ho, Bool.false_eq_true, if_false, fgT_chn, ht, eh, List.append_nil]
    · rw [List.flatMap_cons, List.append_assoc]
def fgX (lo hi n : Int) (i : Nat) (rows : List (List (Int × Int))) (w : Nat) : List (Int × Int) := (if w < rows.length then (rows.getD w []).flatMap (fgOne lo hi n i) else []) ++ (if 0 < w then (rows.getD (w - 1) []).map (fun p => (p.1 + lo, p.2 + hi)) else [])
def fgNext (lo hi n : Int) (i : Nat) (rows : List (List (Int × Int))) (w : Nat) : List (Int × Int) := mergeM (fgX lo hi n i rows w)
theorem fgX_len {lo hi n : Int} {i : Nat} {rows : List (List (Int × Int))} {B : Nat} (hB : ∀ w, (rows.getD w []).length ≤ B) (w : Nat) : (fgX lo hi n i rows w).length ≤ 3 * B := by
  have h1 := flatF_len lo hi n i (rows.getD w [])
  have h2 := hB w
  have h3 := hB (w - 1)
  unfold fgX
  rw [List.length_append]
  split <;> split <;> simp only [List.length_nil, List.length_map] <;> omega
theorem idx_LP {rows : List (List (Int × Int))} {w : Nat} (h : w < rows.length) : idxD (lstLP rows) (.int (w : Nat)) = .ok (lstP (rows.getD w [])) := idx_lst (by
  rw [List.getElem?_map, List.getD_eq_getElem?_getD, List.getElem?_eq_getElem h]
  rfl)
theorem fg_2 (lo hi n : Int) (i : Nat) (nt : Option D) (rows : List (List (Int × Int))) (hB : ∀ w, (rows.getD w []).length ≤ 150000) : ∀ (ws : List Nat) (lt : List (List (Int × Int))) (g6 g7 g8 g9 g10 : Option D), (∀ w ∈ ws, w ≤ rows.length) → lt.length + ws.length < 900000 →
    ∃ g6' g7' g8' g9' g10', forL (gtN 6) B_fewest_wrong_2 (ws.map fun w : Nat => D.int (w : Nat)) [some (pr lo hi), nt, some (lstLP rows), some (.int (i : Nat)), some (.int n), some (lstLP lt), g6, g7, g8, g9, g10] = .next [some (pr lo hi), nt, some (lstLP rows), some (.int (i : Nat)), some (.int n), some (lstLP (lt ++ ws.map (fgNext lo hi n i rows))), g6', g7', g8', g9', g10'] := by
  intro ws
  induction ws with
  | nil => exact fun lt g6 g7 g8 g9 g10 _ _ => ⟨g6, g7, g8, g9, g10, by rw [List.map_nil, List.map_nil, List.append_nil, forL_nil]⟩
  | cons w ws ih =>
    intro lt g6 g7 g8 g9 g10 hw hl
    rw [List.length_cons] at hl
    have hwl := hw w (List.mem_cons_self ..)
    have it : ∀ l : List (Int × Int), itemsD (lstP l) = .ok (l.map pairD) := fun _ => rfl
    have e0 : D.lst [] = lstP [] := rfl
    have el : lenD [lstLP rows] = .ok (.int (rows.length : Nat)) := by rw [len_lst, List.length_map]
    have key : ∃ y8 y9, B_fewest_wrong_2 [some (pr lo hi), nt, some (lstLP rows), some (.int (i : Nat)), some (.int n), some (lstLP lt), some (.int (w : Nat)), g7, g8, g9, g10] = .next [some (pr lo hi), nt, some (lstLP rows), some (.int (i : Nat)), some (.int n), some (lstLP (lt ++ [fgNext lo hi n i rows w])), some (.int (w : Nat)), some (lstP (fgX lo hi n i rows w)), y8, y9, g10] := by
      obtain ⟨y8, y9, f1⟩ := fg_1 lo hi n i nt (some (lstLP rows)) (some (lstLP lt)) (some (.int (w : Nat))) g10 (rows.getD w []) [] g8 g9 (by have := hB w; rw [List.length_nil]; omega)
      rw [List.nil_append] at f1
      have hx := fgX_len (lo := lo) (hi := hi) (n := n) (i := i) hB w
      have hfl := flatF_len lo hi n i (rows.getD w [])
      have hB0 := hB w
      have hB1 := hB (w - 1)
      have hc : ∀ sm, compL (gtT [8, 9]) tTrue (eArgs tupD (aCons (eBin addD (eVar 8) (eBin idxD (eVar 0) (eCst (.int 0)))) (aCons (eBin addD (eVar 9) (eBin idxD (eVar 0) (eCst (.int 1)))) aNil))) [some (pr lo hi), nt, some (lstLP rows), some (.int (i : Nat)), some (.int n), some (lstLP lt), some (.int (w : Nat)), some (lstP sm), none, none, g10] ((rows.getD (w - 1) []).map pairD) = .ok (((rows.getD (w - 1) []).map fun p => (p.1 + lo, p.2 + hi)).map pairD) := fun sm => by
        have h := compL_map (f := pairD) (g := gtT [8, 9]) (c := tTrue) (e := eArgs tupD (aCons (eBin addD (eVar 8) (eBin idxD (eVar 0) (eCst (.int 0)))) (aCons (eBin addD (eVar 9) (eBin idxD (eVar 0) (eCst (.int 1)))) aNil))) (ρ := [some (pr lo hi), nt, some (lstLP rows), some (.int (i : Nat)), some (.int n), some (lstLP lt), some (.int (w : Nat)), some (lstP sm), none, none, g10]) (fun _ => true) (fun p => pairD (p.1 + lo, p.2 + hi)) (rows.getD (w - 1) []) fun p _ => ⟨_, rfl, rfl, fun _ => rfl⟩
        rw [List.filter_eq_self.mpr fun _ _ => rfl] at h
        rw [List.map_map]
        exact h
      have hk : lstD (((rows.getD (w - 1) []).map fun p => (p.1 + lo, p.2 + hi)).map pairD) = .ok (lstP ((rows.getD (w - 1) []).map fun p => (p.1 + lo, p.2 + hi))) := lst_ok (by rw [List.length_map]; omega)
      have al : ∀ a b : List (Int × Int), a.length + b.length ≤ 1000000 → addL (lstP a) (lstP b) = .ok (lstP (a ++ b)) := fun a b h => by
        show (if (a.map pairD).length + (b.map pairD).length ≤ LIM then Res.ok (D.lst (a.map pairD ++ b.map pairD)) else .bad) = _
        rw [List.length_map, List.length_map, if_pos (by unfold LIM; omega), ← List.map_append]
      have hm := merged_eq (fgX lo hi n i rows w) (by omega)
      by_cases h1 : w < rows.length
      · have d1 : decide (((w : Nat) : Int) < (rows.length : Nat)) = true := decide_eq_true (by omega)
        by_cases h2 : 0 < w
        · have d2 : decide ((0 : Int) < (w : Nat)) = true := decide_eq_true (by omega)
          have hX : fgX lo hi n i rows w = (rows.getD w []).flatMap (fgOne lo hi n i) ++ (rows.getD (w - 1) []).map (fun p => (p.1 + lo, p.2 + hi)) := by unfold fgX; rw [if_pos h1, if_pos h2]
          have ei : (w : Int) - 1 = ((w - 1 : Nat) : Int) := by omega
          rw [hX] at hm ⊢
          refine ⟨y8, y9, ?_⟩
          simp only [B_fewest_wrong_2, C_fewest_wrong_1, ev_seq, ev_nil, ev_set, ev_ret, ev_if, ev_for, forI_ok, ev_varS, ev_var0, ev_cst, ev_un, ev_bin, ev_eif, ev_tst, blD_bl, ev_tval, ev_cmp, ev_chn, ev_tnot, ev_tand, ev_tor, ev_anil, ev_acons, ev_args, ev_eand, ev_eor, notD_bl, addD_int, subD_int, negD_int, ltD_int, leD_int, gtD_int, geD_int, eqD_int, neD_int, ev_app, lstOf_lst, dctOf_dct, ev_par2, noX_ok, ev_unp, gtN_eq, gtT2, tup2, tup1, tup0, lst0, lst1, idx_pair0, idx_pair1, thn_next, thn_ret, thn_exc, thn_bad, res_next, res_ret, cnd_ok, env_ok, out_ok, bind_ok, forB_ok, setAll_cons, setAll_nil, List.set_cons_succ, List.set_cons_zero, ev_dset, ev_daug, ev_get2, getOr_int, dctOf_I, ev_comp, wipeE_cons, wipeE_nil, ev_slice, ev_onone, ev_osome, intOf_int, ev_ttrue, ev_count, strOf_str, cntS_ch, revD_tup, e0, el, d1, d2, if_true, idx_LP h1, it, f1, ei, idx_LP (show w - 1 < rows.length by omega), hc, hk]
          rw [al _ _ (by rw [List.length_map]; omega)]
          simp only [ev_seq, ev_nil, ev_set, ev_ret, ev_if, ev_for, forI_ok, ev_varS, ev_var0, ev_cst, ev_un, ev_bin, ev_eif, ev_tst, blD_bl, ev_tval, ev_cmp, ev_chn, ev_tnot, ev_tand, ev_tor, ev_anil, ev_acons, ev_args, ev_eand, ev_eor, notD_bl, addD_int, subD_int, negD_int, ltD_int, leD_int, gtD_int, geD_int, eqD_int, neD_int, ev_app, lstOf_lst, dctOf_dct, ev_par2, noX_ok, ev_unp, gtN_eq, gtT2, tup2, tup1, tup0, lst0, lst1, idx_pair0, idx_pair1, thn_next, thn_ret, thn_exc, thn_bad, res_next, res_ret, cnd_ok, env_ok, out_ok, bind_ok, forB_ok, setAll_cons, setAll_nil, List.set_cons_succ, List.set_cons_zero, ev_dset, ev_daug, ev_get2, getOr_int, dctOf_I, ev_comp, wipeE_cons, wipeE_nil, ev_slice, ev_onone, ev_osome, intOf_int, ev_ttrue, ev_count, strOf_str, cntS_ch, revD_tup, hm]
          rw [app_map (by unfold LIM; omega)]
          simp only [ev_seq, ev_nil, ev_set, ev_ret, ev_if, ev_for, forI_ok, ev_varS, ev_var0, ev_cst, ev_un, ev_bin, ev_eif, ev_tst, blD_bl, ev_tval, ev_cmp, ev_chn, ev_tnot, ev_tand, ev_tor, ev_anil, ev_acons, ev_args, ev_eand, ev_eor, notD_bl, addD_int, subD_int, negD_int, ltD_int, leD_int, gtD_int, geD_int, eqD_int, neD_int, ev_app, lstOf_lst, dctOf_dct, ev_par2, noX_ok, ev_unp, gtN_eq, gtT2, tup2, tup1, tup0, lst0, lst1, idx_pair0, idx_pair1, thn_next, thn_ret, thn_exc, thn_bad, res_next, res_ret, cnd_ok, env_ok, out_ok, bind_ok, forB_ok, setAll_cons, setAll_nil, List.set_cons_succ, List.set_cons_zero, ev_dset, ev_daug, ev_get2, getOr_int, dctOf_I, ev_comp, wipeE_cons, wipeE_nil, ev_slice, ev_onone, ev_osome, intOf_int, ev_ttrue, ev_count, strOf_str, cntS_ch, revD_tup]
          unfold fgNext
          rw [hX]
        · have d2 : decide ((0 : Int) < (w : Nat)) = false := decide_eq_false (by omega)
          have hX : fgX lo hi n i rows w = (rows.getD w []).flatMap (fgOne lo hi n i) := by unfold fgX; rw [if_pos h1, if_neg h2, List.append_nil]
          rw [hX] at hm ⊢
          refine ⟨y8, y9, ?_⟩
          simp only [B_fewest_wrong_2, C_fewest_wrong_1, ev_seq, ev_nil, ev_set, ev_ret, ev_if, ev_for, forI_ok, ev_varS, ev_var0, ev_cst, ev_un, ev_bin, ev_eif, ev_tst, blD_bl, ev_tval, ev_cmp, ev_chn, ev_tnot, ev_tand, ev_tor, ev_anil, ev_acons, ev_args, ev_eand, ev_eor, notD_bl, addD_int, subD_int, negD_int, ltD_int, leD_int, gtD_int, geD_int, eqD_int, neD_int, ev_app, lstOf_lst, dctOf_dct, ev_par2, noX_ok, ev_unp, gtN_eq, gtT2, tup2, tup1, tup0, lst0, lst1, idx_pair0, idx_pair1, thn_next, thn_ret, thn_exc, thn_bad, res_next, res_ret, cnd_ok, env_ok, out_ok, bind_ok, forB_ok, setAll_cons, setAll_nil, List.set_cons_succ, List.set_cons_zero, ev_dset, ev_daug, ev_get2, getOr_int, dctOf_I, ev_comp, wipeE_cons, wipeE_nil, ev_slice, ev_onone, ev_osome, intOf_int, ev_ttrue, ev_count, strOf_str, cntS_ch, revD_tup, e0, el, d1, d2, if_true, Bool.false_eq_true, if_false, idx_LP h1, it, f1, hm]
          rw [app_map (by unfold LIM; omega)]
          simp only [ev_seq, ev_nil, ev_set, ev_ret, ev_if, ev_for, forI_ok, ev_varS, ev_var0, ev_cst, ev_un, ev_bin, ev_eif, ev_tst, blD_bl, ev_tval, ev_cmp, ev_chn, ev_tnot, ev_tand, ev_tor, ev_anil, ev_acons, ev_args, ev_eand, ev_eor, notD_bl, addD_int, subD_int, negD_int, ltD_int, leD_int, gtD_int, geD_int, eqD_int, neD_int, ev_app, lstOf_lst, dctOf_dct, ev_par2, noX_ok, ev_unp, gtN_eq, gtT2, tup2, tup1, tup0, lst0, lst1, idx_pair0, idx_pair1, thn_next, thn_ret, thn_exc, thn_bad, res_next, res_ret, cnd_ok, env_ok, out_ok, bind_ok, forB_ok, setAll_cons, setAll_nil, List.set_cons_succ, List.set_cons_zero, ev_dset, ev_daug, ev_get2, getOr_int, dctOf_I, ev_comp, wipeE_cons, wipeE_nil, ev_slice, ev_onone, ev_osome, intOf_int, ev_ttrue, ev_count, strOf_str, cntS_ch, revD_tup]
          unfold fgNext
          rw [hX]
      · have d1 : decide (((w : Nat) : Int) < (rows.length : Nat)) = false := decide_eq_false (by omega)
        by_cases h2 : 0 < w
        · have d2 : decide ((0 : Int) < (w : Nat)) = true := decide_eq_true (by omega)
          have hX : fgX lo hi n i rows w = (rows.getD (w - 1) []).map (fun p => (p.1 + lo, p.2 + hi)) := by unfold fgX; rw [if_neg h1, if_pos h2, List.nil_append]
          have ei : (w : Int) - 1 = ((w - 1 : Nat) : Int) := by omega
          rw [hX] at hm ⊢
          refine ⟨g8, g9, ?_⟩
          simp only [B_fewest_wrong_2, C_fewest_wrong_1, ev_seq, ev_nil, ev_set, ev_ret, ev_if, ev_for, forI_ok, ev_varS, ev_var0, ev_cst, ev_un, ev_bin, ev_eif, ev_tst, blD_bl, ev_tval, ev_cmp, ev_chn, ev_tnot, ev_tand, ev_tor, ev_anil, ev_acons, ev_args, ev_eand, ev_eor, notD_bl, addD_int, subD_int, negD_int, ltD_int, leD_int, gtD_int, geD_int, eqD_int, neD_int, ev_app, lstOf_lst, dctOf_dct, ev_par2, noX_ok, ev_unp, gtN_eq, gtT2, tup2, tup1, tup0, lst0, lst1, idx_pair0, idx_pair1, thn_next, thn_ret, thn_exc, thn_bad, res_next, res_ret, cnd_ok, env_ok, out_ok, bind_ok, forB_ok, setAll_cons, setAll_nil, List.set_cons_succ, List.set_cons_zero, ev_dset, ev_daug, ev_get2, getOr_int, dctOf_I, ev_comp, wipeE_cons, wipeE_nil, ev_slice, ev_onone, ev_osome, intOf_int, ev_ttrue, ev_count, strOf_str, cntS_ch, revD_tup, e0, el, d1, d2, if_true, Bool.false_eq_true, if_false, it, ei, idx_LP (show w - 1 < rows.length by omega), hc, hk]
          rw [al _ _ (by rw [List.length_map, List.length_nil]; omega)]
          simp only [ev_seq, ev_nil, ev_set, ev_ret, ev_if, ev_for, forI_ok, ev_varS, ev_var0, ev_cst, ev_un, ev_bin, ev_eif, ev_tst, blD_bl, ev_tval, ev_cmp, ev_chn, ev_tnot, ev_tand, ev_tor, ev_anil, ev_acons, ev_args, ev_eand, ev_eor, notD_bl, addD_int, subD_int, negD_int, ltD_int, leD_int, gtD_int, geD_int, eqD_int, neD_int, ev_app, lstOf_lst, dctOf_dct, ev_par2, noX_ok, ev_unp, gtN_eq, gtT2, tup2, tup1, tup0, lst0, lst1, idx_pair0, idx_pair1, thn_next, thn_ret, thn_exc, thn_bad, res_next, res_ret, cnd_ok, env_ok, out_ok, bind_ok, forB_ok, setAll_cons, setAll_nil, List.set_cons_succ, List.set_cons_zero, ev_dset, ev_daug, ev_get2, getOr_int, dctOf_I, ev_comp, wipeE_cons, wipeE_nil, ev_slice, ev_onone, ev_osome, intOf_int, ev_ttrue, ev_count, strOf_str, cntS_ch, revD_tup, List.nil_append, hm]
          rw [app_map (by unfold LIM; omega)]
          simp only [ev_seq, ev_nil, ev_set, ev_ret, ev_if, ev_for, forI_ok, ev_varS, ev_var0, ev_cst, ev_un, ev_bin, ev_eif, ev_tst, blD_bl, ev_tval, ev_cmp, ev_chn, ev_tnot, ev_tand, ev_tor, ev_anil, ev_acons, ev_args, ev_eand, ev_eor, notD_bl, addD_int, subD_int, negD_int, ltD_int, leD_int, gtD_int, geD_int, eqD_int, neD_int, ev_app, lstOf_lst, dctOf_dct, ev_par2, noX_ok, ev_unp, gtN_eq, gtT2, tup2, tup1, tup0, lst0, lst1, idx_pair0, idx_pair1, thn_next, thn_ret, thn_exc, thn_bad, res_next, res_ret, cnd_ok, env_ok, out_ok, bind_ok, forB_ok, setAll_cons, setAll_nil, List.set_cons_succ, List.set_cons_zero, ev_dset, ev_daug, ev_get2, getOr_int, dctOf_I, ev_comp, wipeE_cons, wipeE_nil, ev_slice, ev_onone, ev_osome, intOf_int, ev_ttrue, ev_count, strOf_str, cntS_ch, revD_tup]
          unfold fgNext
          rw [hX]
        · have d2 : decide ((0 : Int) < (w : Nat)) = false := decide_eq_false (by omega)
          have hX : fgX lo hi n i rows w = [] := by unfold fgX; rw [if_neg h1, if_neg h2, List.append_nil]
          rw [hX] at hm ⊢
          refine ⟨g8, g9, ?_⟩
          simp only [B_fewest_wrong_2, C_fewest_wrong_1, ev_seq, ev_nil, ev_set, ev_ret, ev_if, ev_for, forI_ok, ev_varS, ev_var0, ev_cst, ev_un, ev_bin, ev_eif, ev_tst, blD_bl, ev_tval, ev_cmp, ev_chn, ev_tnot, ev_tand, ev_tor, ev_anil, ev_acons, ev_args, ev_eand, ev_eor, notD_bl, addD_int, subD_int, negD_int, ltD_int, leD_int, gtD_int, geD_int, eqD_int, neD_int, ev_app, lstOf_lst, dctOf_dct, ev_par2, noX_ok, ev_unp, gtN_eq, gtT2, tup2, tup1, tup0, lst0, lst1, idx_pair0, idx_pair1, thn_next, thn_ret, thn_exc, thn_bad, res_next, res_ret, cnd_ok, env_ok, out_ok, bind_ok, forB_ok, setAll_cons, setAll_nil, List.set_cons_succ, List.set_cons_zero, ev_dset, ev_daug, ev_get2, getOr_int, dctOf_I, ev_comp, wipeE_cons, wipeE_nil, ev_slice, ev_onone, ev_osome, intOf_int, ev_ttrue, ev_count, strOf_str, cntS_ch, revD_tup, e0, el, d1, d2, Bool.false_eq_true, if_false, hm]
          rw [app_map (by unfold LIM; omega)]
          simp only [ev_seq, ev_nil, ev_set, ev_ret, ev_if, ev_for, forI_ok, ev_varS, ev_var0, ev_cst, ev_un, ev_bin, ev_eif, ev_tst, blD_bl, ev_tval, ev_cmp, ev_chn, ev_tnot, ev_tand, ev_tor, ev_anil, ev_acons, ev_args, ev_eand, ev_eor, notD_bl, addD_int, subD_int, negD_int, ltD_int, leD_int, gtD_int, geD_int, eqD_int, neD_int, ev_app, lstOf_lst, dctOf_dct, ev_par2, noX_ok, ev_unp, gtN_eq, gtT2, tup2, tup1, tup0, lst0, lst1, idx_pair0, idx_pair1, thn_next, thn_ret, thn_exc, thn_bad, res_next, res_ret, cnd_ok, env_ok, out_ok, bind_ok, forB_ok, setAll_cons, setAll_nil, List.set_cons_succ, List.set_cons_zero, ev_dset, ev_daug, ev_get2, getOr_int, dctOf_I, ev_comp, wipeE_cons, wipeE_nil, ev_slice, ev_onone, ev_osome, intOf_int, ev_ttrue, ev_count, strOf_str, cntS_ch, revD_tup]
          unfold fgNext
          rw [hX]
    obtain ⟨y8, y9, hk⟩ := key
    obtain ⟨z6, z7, z8, z9, z10, h1⟩ := ih (lt ++ [fgNext lo hi n i rows w]) (some (.int (w : Nat))) (some (lstP (fgX lo hi n i rows w))) y8 y9 g10 (fun v hv => hw v (List.mem_cons_of_mem _ hv)) (by rw [List.length_append, List.length_singleton]; omega)
    refine ⟨z6, z7, z8, z9, z10, (forL_step (gtN_eq ..) hk).trans (h1.trans ?_)⟩
    rw [List.map_cons, List.append_assoc]
    rfl
def fgStep (lo hi n : Int) (i : Nat) (rows : List (List (Int × Int))) : List (List (Int × Int)) := (List.range (rows.length + 1)).map (fgNext lo hi n i rows)
def fgRows (lo hi : Int) : Nat → List (List (Int × Int)) → List Int → List (List (Int × Int))
  | _, rows, [] => rows
  | i, rows, n :: ns => fgRows lo hi (i + 1) (fgStep lo hi n i rows) ns
structure FW (lo hi : Int) (pre : List Int) (rows : List (List (Int × Int))) : Prop where
  len : rows.length = pre.length + 1
  nf : ∀ w, Nf (rows.getD w [])
  mem : ∀ w t, inU (rows.getD w []) t ↔ ∃ bs : List Bool, bs.length = pre.length ∧ bs.count true = w ∧ Reach lo hi 0 true pre bs t
  few : ∀ w, (rows.getD w []).length ≤ 3 ^ pre.length
theorem fw_start (lo hi : Int) : FW lo hi [] [[(0, 0)]] where
  len := rfl
  nf := fun w => by
    cases w with
    | zero => exact ⟨List.pairwise_singleton _ _, fun p hp => by rw [List.mem_singleton.mp hp]; exact Int.le_refl _⟩
    | succ w => exact ⟨.nil, fun p h => by simp at h⟩
  mem := fun w t => by
    cases w with
    | zero =>
      constructor
      · rintro ⟨p, hp, h1, h2⟩
        have : p = (0, 0) := List.mem_singleton.mp hp
        subst this
        dsimp only at h1 h2
        exact ⟨[], rfl, rfl, show t = 0 by omega⟩
      · rintro ⟨bs, hb, _, h⟩
        have : bs = [] := List.length_eq_zero_iff.mp hb
        subst this
        have h : t = 0 := h
        subst h
        exact ⟨(0, 0), List.mem_singleton.mpr rfl, Int.le_refl _, Int.le_refl _⟩
    | succ w =>
      constructor
      · rintro ⟨p, hp, _⟩; simp at hp
      · rintro ⟨bs, hb, hc, _⟩
        have : bs = [] := List.length_eq_zero_iff.mp hb
        subst this
        simp at hc
  few := fun w => by
    cases w with
    | zero => exact Nat.le_refl _
    | succ w => exact Nat.zero_le _
theorem fw_step {lo hi : Int} (h1 : lo ≤ hi) {pre : List Int} {rows : List (List (Int × Int))} (h : FW lo hi pre rows) (n : Int) : FW lo hi (pre ++ [n]) (fgStep lo hi n pre.length rows) := by
  have hget : ∀ w, (fgStep lo hi n pre.length rows).getD w [] = if w ≤ rows.length then fgNext lo hi n pre.length rows w else [] := fun w => by
    unfold fgStep
    rw [List.getD_eq_getElem?_getD, List.getElem?_map]
    by_cases hw : w ≤ rows.length
    · rw [if_pos hw, List.getElem?_range (by omega)]; rfl
    · rw [if_neg hw, List.getElem?_eq_none (by rw [List.length_range]; omega)]; rfl
  have hok : ∀ w, ∀ p ∈ fgX lo hi n pre.length rows w, p.1 ≤ p.2 := fun w p hp => by
    unfold fgX at hp
    rcases List.mem_append.mp hp with hp | hp
    · split at hp
      · obtain ⟨q, hq, hp⟩ := List.mem_flatMap.mp hp
        have := (h.nf w).ok q hq
        unfold fgOne at hp
        rcases List.mem_append.mp hp with hp | hp
        · split at hp
          · rw [List.mem_singleton.mp hp]; dsimp only; omega
          · simp at hp
        · split at hp
          · rw [List.mem_singleton.mp hp]; exact Int.le_refl _
          · simp at hp
      · simp at hp
    · split at hp
      · obtain ⟨q, hq, rfl⟩ := List.mem_map.mp hp
        have := (h.nf (w - 1)).ok q hq
        dsimp only
        omega
      · simp at hp
  have hst : ∀ w t, inU (fgX lo hi n pre.length rows w) t ↔ (∃ s, inU (rows.getD w []) s ∧ stp lo hi s n (true && pre.isEmpty) false t) ∨ (0 < w ∧ ∃ s, inU (rows.getD (w - 1) []) s ∧ stp lo hi s n (true && pre.isEmpty) true t) := fun w t => by
    have hpe : (true && pre.isEmpty) = false ↔ 0 < pre.length := by cases pre <;> simp
    constructor
    · rintro ⟨p, hp, p1, p2⟩
      unfold fgX at hp
      rcases List.mem_append.mp hp with hp | hp
      · left
        split at hp
        · obtain ⟨q, hq, hp⟩ := List.mem_flatMap.mp hp
          have hqq := (h.nf w).ok q hq
          unfold fgOne at hp
          rcases List.mem_append.mp hp with hp | hp
          · split at hp
            · rename_i ho
              have e := List.mem_singleton.mp hp
              subst e
              dsimp only at p1 p2
              exact ⟨t - n, ⟨q, hq, by omega, by omega⟩, 108, mem_steps.mpr (.inl ⟨ho, by rw [show t - n + n = t by omega]⟩)⟩
            · simp at hp
          · split at hp
            · rename_i ht
              have e := List.mem_singleton.mp hp
              subst e
              dsimp only at p1 p2
              unfold fgT at ht
              rw [Bool.and_eq_true, Bool.and_eq_true] at ht
              have t1 := of_decide_eq_true ht.1
              have t2 := of_decide_eq_true ht.2.1
              have t3 := of_decide_eq_true ht.2.2
              have hf := hpe.mpr (by omega)
              have : t = n := by omega
              subst this
              by_cases hq1 : q.1 < t - hi
              · exact ⟨t - hi, ⟨q, hq, by omega, by omega⟩, 116, mem_steps.mpr (.inr ⟨hf, okR_iff.mpr (by omega), rfl⟩)⟩
              · exact ⟨q.1, ⟨q, hq, by omega, by omega⟩, 116, mem_steps.mpr (.inr ⟨hf, okR_iff.mpr (by omega), rfl⟩)⟩
            · simp at hp
        · simp at hp
      · split at hp
        · rename_i hw
          right
          obtain ⟨q, hq, rfl⟩ := List.mem_map.mp hp
          have := (h.nf (w - 1)).ok q hq
          dsimp only at p1 p2
          refine ⟨hw, ?_⟩
          by_cases hq1 : q.1 < t - hi
          · exact ⟨t - hi, ⟨q, hq, by omega, by omega⟩, by show okR lo hi _ = true; exact okR_iff.mpr (by omega)⟩
          · exact ⟨q.1, ⟨q, hq, by omega, by omega⟩, by show okR lo hi _ = true; exact okR_iff.mpr (by omega)⟩
        · simp at hp
    · rintro (⟨s, ⟨q, hq, q1, q2⟩, c, hc⟩ | ⟨hw, s, ⟨q, hq, q1, q2⟩, ho⟩)
      · have hwl : w < rows.length := by
          refine Nat.lt_of_not_le fun hn => ?_
          rw [List.getD_eq_getElem?_getD, List.getElem?_eq_none hn] at hq
          simp at hq
        rcases mem_steps.mp hc with ⟨o, e⟩ | ⟨hf, o, e⟩
        · have e := congrArg Prod.snd e
          dsimp only at e
          refine ⟨(q.1 + n, q.2 + n), ?_, by dsimp only; omega, by dsimp only; omega⟩
          unfold fgX
          rw [if_pos hwl]
          refine List.mem_append_left _ (List.mem_flatMap.mpr ⟨q, hq, ?_⟩)
          unfold fgOne
          rw [if_pos o]
          exact List.mem_append_left _ (List.mem_singleton.mpr rfl)
        · have e := congrArg Prod.snd e
          dsimp only at e
          have o := okR_iff.mp o
          have hp := hpe.mp hf
          refine ⟨(n, n), ?_, by dsimp only; omega, by dsimp only; omega⟩
          unfold fgX
          rw [if_pos hwl]
          refine List.mem_append_left _ (List.mem_flatMap.mpr ⟨q, hq, ?_⟩)
          have ht : fgT lo hi n pre.length q = true := by
            unfold fgT
            rw [decide_eq_true (by omega), decide_eq_true (by omega), decide_eq_true (by omega)]
            rfl
          unfold fgOne
          rw [if_pos ht]
          exact List.mem_append_right _ (List.mem_singleton.mpr rfl)
      · have o := okR_iff.mp (show okR lo hi (t - s) = true from ho)
        refine ⟨(q.1 + lo, q.2 + hi), ?_, by dsimp only; omega, by dsimp only; omega⟩
        unfold fgX
        rw [if_pos hw]
        exact List.mem_append_right _ (List.mem_map.mpr ⟨q, hq, rfl⟩)
  have hsn : ∀ (w : Nat) (t : Int), (∃ bs : List Bool, bs.length = (pre ++ [n]).length ∧ bs.count true = w ∧ Reach lo hi 0 true (pre ++ [n]) bs t) ↔ (∃ s, inU (rows.getD w []) s ∧ stp lo hi s n (true && pre.isEmpty) false t) ∨ (0 < w ∧ ∃ s, inU (rows.getD (w - 1) []) s ∧ stp lo hi s n (true && pre.isEmpty) true t) := fun w t => by
    constructor
    · rintro ⟨bs, hb, hc, hr⟩
      have hne : bs ≠ [] := by intro e; rw [e] at hb; simp at hb
      obtain ⟨b, hbb⟩ : ∃ b, bs = bs.dropLast ++ [b] := ⟨bs.getLast hne, (List.dropLast_concat_getLast hne).symm⟩
      have hl : bs.dropLast.length = pre.length := by rw [List.length_dropLast, hb, List.length_append, List.length_singleton]; omega
      rw [hbb] at hr hc
      obtain ⟨s, r1, r2⟩ := (reach_snoc pre bs.dropLast 0 true n b t hl).mp hr
      rw [List.count_append] at hc
      cases b with
      | false =>
        left
        exact ⟨s, (h.mem w s).mpr ⟨bs.dropLast, hl, by simpa using hc, r1⟩, r2⟩
      | true =>
        right
        have : bs.dropLast.count true + 1 = w := by simpa using hc
        exact ⟨by omega, s, (h.mem (w - 1) s).mpr ⟨bs.dropLast, hl, by omega, r1⟩, r2⟩
    · rintro (⟨s, hs, h2⟩ | ⟨hw, s, hs, h2⟩)
      · obtain ⟨bs, hb, hc, hr⟩ := (h.mem w s).mp hs
        exact ⟨bs ++ [false], by simp [hb], by rw [List.count_append, hc]; rfl, (reach_snoc pre bs 0 true n false t hb).mpr ⟨s, hr, h2⟩⟩
      · obtain ⟨bs, hb, hc, hr⟩ := (h.mem (w - 1) s).mp hs
        refine ⟨bs ++ [true], by simp [hb], ?_, (reach_snoc pre bs 0 true n true t hb).mpr ⟨s, hr, h2⟩⟩
        rw [List.count_append, hc]
        show w - 1 + 1 = w
        omega
  have hout : ∀ w, rows.length < w → fgX lo hi n pre.length rows w = [] := fun w hw => by
    have e : rows.getD (w - 1) [] = [] := by
      rw [List.getD_eq_getElem?_getD, List.getElem?_eq_none (by omega)]; rfl
    unfold fgX
    rw [if_neg (by omega), e]
    split <;> rfl
  refine ⟨?_, fun w => ?_, fun w t => ?_, fun w => ?_⟩
  · unfold fgStep
    rw [List.length_map, List.length_range, h.len, List.length_append, List.length_singleton]
  · rw [hget]
    split
    · exact merge_nf (hok w)
    · exact ⟨.nil, fun p h => by simp at h⟩
  · rw [hsn, ← hst, hget]
    split
    · exact merge_in (hok w) t
    · rename_i hw
      rw [hout w (by omega)]
  · rw [hget]
    split
    · have h2 := fgX_len (lo := lo) (hi := hi) (n := n) (i := pre.length) h.few w
      have h3 := merge_len (fgX lo hi n pre.length rows w)
      rw [List.length_append, List.length_singleton, Nat.pow_succ]
      unfold fgNext
      omega
    · exact Nat.zero_le _
theorem fw_rows {lo hi : Int} (h1 : lo ≤ hi) : ∀ (ns pre : List Int) (rows : List (List (Int × Int))), FW lo hi pre rows → FW lo hi (pre ++ ns) (fgRows lo hi pre.length rows ns)
  | [], pre, rows, h => by rw [List.append_nil]; exact h
  | n :: ns, pre, rows, h => by
    have := fw_rows h1 ns (pre ++ [n]) _ (fw_step h1 h n)
    rw [List.append_assoc, List.length_append, List.length_singleton] at this
    exact this
theorem fw_bound {lo hi : Int} (h0 : 1 ≤ lo) (h1 : lo ≤ hi) {ns pre : List Int} {rows : List (List (Int × Int))} (h : FW lo hi pre rows) (hl : pre.length ≤ ns.length) (hb : hi * (ns.length : Nat) ≤ 100000 ∨ ns.length ≤ 10) (w : Nat) : (rows.getD w []).length ≤ 150000 := by
  rcases hb with hb | hb
  · have := nf_len (rows.getD w []) 0 150000 (h.nf w) fun t ht => by
      obtain ⟨bs, _, _, hr⟩ := (h.mem w t).mp ht
      have := reach_bnd (by omega) h1 pre bs 0 true t hr
      have h2 : hi * (pre.length : Nat) ≤ hi * (ns.length : Nat) := Int.mul_le_mul_of_nonneg_left (by omega) (by omega)
      constructor <;> omega
    exact this
  · have h2 : 3 ^ pre.length ≤ 3 ^ 10 := Nat.pow_le_pow_right (by decide) (by omega)
    have := h.few w
    omega
theorem fg_3 {lo hi : Int} (h0 : 1 ≤ lo) (h1 : lo ≤ hi) (nt : Option D) {all : List Int} (hal : all.length < 1000) (hb : hi * (all.length : Nat) ≤ 100000 ∨ all.length ≤ 10) : ∀ (ns pre : List Int) (rows : List (List (Int × Int))) (g3 g4 g5 g6 g7 g8 g9 g10 : Option D), FW lo hi pre rows → all = pre ++ ns →
    ∃ g3' g4' g5' g6' g7' g8' g9' g10', forL (gtT [3, 4]) B_fewest_wrong_3 ((enI pre.length ns).map (enD D.int)) [some (pr lo hi), nt, some (lstLP rows), g3, g4, g5, g6, g7, g8, g9, g10] = .next [some (pr lo hi), nt, some (lstLP (fgRows lo hi pre.length rows ns)), g3', g4', g5', g6', g7', g8', g9', g10'] := by
  intro ns
  induction ns with
  | nil => exact fun pre rows g3 g4 g5 g6 g7 g8 g9 g10 _ _ => ⟨g3, g4, g5, g6, g7, g8, g9, g10, rfl⟩
  | cons n ns ih =>
    intro pre rows g3 g4 g5 g6 g7 g8 g9 g10 h ha
    have hpl : pre.length ≤ all.length := by rw [ha, List.length_append]; omega
    obtain ⟨x6, x7, x8, x9, x10, f2⟩ := fg_2 lo hi n pre.length nt rows (fw_bound h0 h1 h hpl hb) (List.range (rows.length + 1)) [] g6 g7 g8 g9 g10 (fun w hw => by have := List.mem_range.mp hw; omega) (by rw [List.length_range, List.length_nil, h.len]; omega)
    obtain ⟨y3, y4, y5, y6, y7, y8, y9, y10, f3⟩ := ih (pre ++ [n]) (fgStep lo hi n pre.length rows) (some (.int (pre.length : Nat))) (some (.int n)) (some (lstLP (fgStep lo hi n pre.length rows))) x6 x7 x8 x9 x10 (fw_step h1 h n) (by rw [ha, List.append_assoc]; rfl)
    rw [List.length_append, List.length_singleton] at f3
    refine ⟨y3, y4, y5, y6, y7, y8, y9, y10, (forL_step rfl ?_).trans f3⟩
    have e0 : D.lst [] = lstLP [] := rfl
    have el : lenD [lstLP rows] = .ok (.int (rows.length : Nat)) := by rw [len_lst, List.length_map]
    have er : rng1 [.int ((rows.length : Nat) + 1)] = .ok ((List.range (rows.length + 1)).map fun w : Nat => D.int (w : Nat)) := rng1_eq (n := rows.length + 1) (by rw [h.len]; omega)
    rw [List.nil_append] at f2
    simp only [B_fewest_wrong_3, ev_seq, ev_nil, ev_set, ev_ret, ev_if, ev_for, forI_ok, ev_varS, ev_var0, ev_cst, ev_un, ev_bin, ev_eif, ev_tst, blD_bl, ev_tval, ev_cmp, ev_chn, ev_tnot, ev_tand, ev_tor, ev_anil, ev_acons, ev_args, ev_eand, ev_eor, notD_bl, addD_int, subD_int, negD_int, ltD_int, leD_int, gtD_int, geD_int, eqD_int, neD_int, ev_app, lstOf_lst, dctOf_dct, ev_par2, noX_ok, ev_unp, gtN_eq, gtT2, tup2, tup1, tup0, lst0, lst1, idx_pair0, idx_pair1, thn_next, thn_ret, thn_exc, thn_bad, res_next, res_ret, cnd_ok, env_ok, out_ok, bind_ok, forB_ok, setAll_cons, setAll_nil, List.set_cons_succ, List.set_cons_zero, ev_dset, ev_daug, ev_get2, getOr_int, dctOf_I, ev_comp, wipeE_cons, wipeE_nil, ev_slice, ev_onone, ev_osome, intOf_int, ev_ttrue, ev_count, strOf_str, cntS_ch, revD_tup, e0, el, er, f2]
    rfl
structure Few (lo hi : Int) (ns : List Int) (w : Nat) : Prop where
  can : ∃ bs : List Bool, bs.length = ns.length ∧ bs.count true = w ∧ CanB lo hi 0 true ns bs
  min : ∀ bs : List Bool, bs.length = ns.length → CanB lo hi 0 true ns bs → w ≤ bs.count true
theorem minI_map : ∀ (l : List Nat) (a : Nat), (∀ x ∈ l, a < x) → minI (a : Int) (l.map fun i : Nat => (i : Int)) = (a : Int)
  | [], _, _ => rfl
  | b :: l, a, h => by
    have hb := h b (List.mem_cons_self ..)
    show minI (if (b : Int) < (a : Int) then (b : Int) else (a : Int)) _ = _
    rw [if_neg (by omega)]
    exact minI_map l a fun x hx => h x (List.mem_cons_of_mem _ hx)
theorem fewest_ok {lo hi : Int} (h0 : 1 ≤ lo) (h1 : lo ≤ hi) {ns : List Int} (hl : ns.length < 1000) (hb : hi * (ns.length : Nat) ≤ 100000 ∨ ns.length ≤ 10) : ∃ w : Nat, S_fewest_wrong [pr lo hi, tupI ns] = .ok (.int (w : Nat)) ∧ Few lo hi ns w := by
  obtain ⟨y3, y4, y5, y6, y7, y8, y9, y10, f⟩ := fg_3 h0 h1 (some (tupI ns)) (all := ns) hl hb ns [] [[(0, 0)]] none none none none none none none none (fw_start lo hi) rfl
  have hF := fw_rows h1 ns [] _ (fw_start lo hi)
  rw [List.nil_append, List.length_nil] at hF
  rw [List.length_nil] at f
  generalize hR : fgRows lo hi 0 [[(0, 0)]] ns = R at f hF
  have hne : ∀ w, R.getD w [] ≠ [] ↔ ∃ bs : List Bool, bs.length = ns.length ∧ bs.count true = w ∧ CanB lo hi 0 true ns bs := fun w => by
    constructor
    · intro h
      obtain ⟨p, hp⟩ := List.exists_mem_of_ne_nil _ h
      obtain ⟨bs, b1, b2, b3⟩ := (hF.mem w p.1).mp ⟨p, hp, Int.le_refl _, (hF.nf w).ok p hp⟩
      exact ⟨bs, b1, b2, p.1, b3⟩
    · rintro ⟨bs, b1, b2, u, b3⟩
      obtain ⟨p, hp, _⟩ := (hF.mem w u).mpr ⟨bs, b1, b2, b3⟩
      exact List.ne_nil_of_mem hp
  have hne0 : ∀ l : List (Int × Int), neD (lstP l) (.lst []) = .ok (!decide (l = [])) := fun l => ne_nil plP (by decide) fun _ _ => trivial
  have hget : ∀ e ∈ enI 0 R, e.2 = R.getD e.1 [] := fun e he => by
    rw [List.getD_eq_getElem?_getD, mem_enI0 he]; rfl
  have hc := compL_map (f := enD lstP) (g := gtT [6, 10]) (c := tCmp neD (eVar 10) (eArgs lstD aNil)) (e := eVar 6) (ρ := [some (pr lo hi), some (tupI ns), some (lstLP R), y3, y4, y5, none, y7, y8, y9, none]) (fun e => !decide (e.2 = [])) (fun e : Nat × List (Int × Int) => D.int (e.1 : Nat)) (enI 0 R) fun e _ => ⟨[some (pr lo hi), some (tupI ns), some (lstLP R), y3, y4, y5, some (.int (e.1 : Nat)), y7, y8, y9, some (lstP e.2)], rfl, by simp only [ev_seq, ev_nil, ev_set, ev_ret, ev_if, ev_for, forI_ok, ev_varS, ev_var0, ev_cst, ev_un, ev_bin, ev_eif, ev_tst, blD_bl, ev_tval, ev_cmp, ev_chn, ev_tnot, ev_tand, ev_tor, ev_anil, ev_acons, ev_args, ev_eand, ev_eor, notD_bl, addD_int, subD_int, negD_int, ltD_int, leD_int, gtD_int, geD_int, eqD_int, neD_int, ev_app, lstOf_lst, dctOf_dct, ev_par2, noX_ok, ev_unp, gtN_eq, gtT2, tup2, tup1, tup0, lst0, lst1, idx_pair0, idx_pair1, thn_next, thn_ret, thn_exc, thn_bad, res_next, res_ret, cnd_ok, env_ok, out_ok, bind_ok, forB_ok, setAll_cons, setAll_nil, List.set_cons_succ, List.set_cons_zero, ev_dset, ev_daug, ev_get2, getOr_int, dctOf_I, ev_comp, wipeE_cons, wipeE_nil, ev_slice, ev_onone, ev_osome, intOf_int, ev_ttrue, ev_count, strOf_str, cntS_ch, revD_tup, hne0], fun _ => rfl⟩
  have hfil : (enI 0 R).filter (fun e => !decide (e.2 = [])) = (enI 0 R).filter (fun e => !decide (R.getD e.1 [] = [])) := List.filter_congr fun e he => by rw [hget e he]
  have hfst : ∀ (xs : List (List (Int × Int))) (k : Nat), (enI k xs).map (·.1) = List.range' k xs.length := by
    intro xs
    induction xs with
    | nil => exact fun k => rfl
    | cons x xs ih => intro k; rw [List.length_cons, List.range'_succ, ← ih (k + 1)]; rfl
  have hmapf : ((enI 0 R).filter fun e => !decide (e.2 = [])).map (fun e : Nat × List (Int × Int) => D.int (e.1 : Nat)) = (((List.range R.length).filter fun w => !decide (R.getD w [] = [])).map fun i : Nat => (i : Int)).map D.int := by
    rw [hfil, List.range_eq_range', ← hfst R 0, List.filter_map, List.map_map, List.map_map]
    rfl
  rw [hmapf] at hc
  have hlast : ns.length ∈ (List.range R.length).filter fun w => !decide (R.getD w [] = []) := by
    refine List.mem_filter.mpr ⟨List.mem_range.mpr (by rw [hF.len]; omega), ?_⟩
    rw [Bool.not_eq_true', decide_eq_false_iff_not]
    exact (hne ns.length).mpr ⟨List.replicate ns.length true, List.length_replicate .., by rw [List.count_replicate]; rfl, can_all h1 ns 0 true⟩
  have hlen : ((List.range R.length).filter fun w => !decide (R.getD w [] = [])).length ≤ 1001 := Nat.le_trans (List.length_filter_le _ _) (by rw [List.length_range, hF.len]; omega)
  have hsrt : ((List.range R.length).filter fun w => !decide (R.getD w [] = [])).Pairwise (· < ·) := List.Pairwise.filter _ List.pairwise_lt_range
  have hmem : ∀ w, w ∈ ((List.range R.length).filter fun w => !decide (R.getD w [] = [])) → R.getD w [] ≠ [] := fun w hw => by
    have := (List.mem_filter.mp hw).2
    rw [Bool.not_eq_true', decide_eq_false_iff_not] at this
    exact this
  have hin : ∀ w, R.getD w [] ≠ [] → w ∈ ((List.range R.length).filter fun w => !decide (R.getD w [] = [])) := fun w hw => by
    refine List.mem_filter.mpr ⟨List.mem_range.mpr (Nat.lt_of_not_le fun hn => hw ?_), ?_⟩
    · rw [List.getD_eq_getElem?_getD, List.getElem?_eq_none hn]; rfl
    · rw [Bool.not_eq_true', decide_eq_false_iff_not]; exact hw
  generalize hL : ((List.range R.length).filter fun w => !decide (R.getD w [] = [])) = L at hc hlast hlen hsrt hmem hin
  cases L with
  | nil => simp at hlast
  | cons w L =>
    have hmn : minD [lstI ((w :: L).map fun i : Nat => (i : Int))] = .ok (.int (w : Nat)) := by
      show (match intsOf (((w :: L).map fun i : Nat => (i : Int)).map D.int) with | some (n :: ns) => Res.ok (D.int (minI n ns)) | _ => .bad) = _
      rw [intsOf_map]
      show Res.ok (D.int (minI (w : Int) (L.map fun i : Nat => (i : Int)))) = _
      rw [minI_map L w (List.pairwise_cons.mp hsrt).1]
    refine ⟨w, ?_, (hne w).mp (hmem w (List.mem_cons_self ..)), fun bs b1 b2 => ?_⟩
    · have e0 : D.lst [.lst [.tup [.int 0, .int 0]]] = lstLP [[(0, 0)]] := rfl
      have en : enumD [tupI ns] = .ok ((enI 0 ns).map (enD D.int)) := enum_tup D.int ns
      have enr : enumD [lstLP R] = .ok ((enI 0 R).map (enD lstP)) := enum_lst lstP R
      rw [R_fewest_wrong]
      simp only [B_fewest_wrong, C_fewest_wrong_2, ev_seq, ev_nil, ev_set, ev_ret, ev_if, ev_for, forI_ok, ev_varS, ev_var0, ev_cst, ev_un, ev_bin, ev_eif, ev_tst, blD_bl, ev_tval, ev_cmp, ev_chn, ev_tnot, ev_tand, ev_tor, ev_anil, ev_acons, ev_args, ev_eand, ev_eor, notD_bl, addD_int, subD_int, negD_int, ltD_int, leD_int, gtD_int, geD_int, eqD_int, neD_int, ev_app, lstOf_lst, dctOf_dct, ev_par2, noX_ok, ev_unp, gtN_eq, gtT2, tup2, tup1, tup0, lst0, lst1, idx_pair0, idx_pair1, thn_next, thn_ret, thn_exc, thn_bad, res_next, res_ret, cnd_ok, env_ok, out_ok, bind_ok, forB_ok, setAll_cons, setAll_nil, List.set_cons_succ, List.set_cons_zero, ev_dset, ev_daug, ev_get2, getOr_int, dctOf_I, ev_comp, wipeE_cons, wipeE_nil, ev_slice, ev_onone, ev_osome, intOf_int, ev_ttrue, ev_count, strOf_str, cntS_ch, revD_tup, e0, en, f, enr, hc, lst_ok (f := D.int) (show ((w :: L).map fun i : Nat => (i : Int)).length ≤ 1000000 by rw [List.length_map]; omega), hmn]
    · have := hin (bs.count true) ((hne _).mpr ⟨bs, b1, rfl, b2⟩)
      rcases List.mem_cons.mp this with e | e
      · omega
      · exact Nat.le_of_lt ((List.pairwise_cons.mp hsrt).1 _ e)
theorem Few.uniq {lo hi : Int} {ns : List Int} {v w : Nat} (h1 : Few lo hi ns v) (h2 : Few lo hi ns w) : v = w := by
  obtain ⟨a, a1, a2, a3⟩ := h1.can
  obtain ⟨b, b1, b2, b3⟩ := h2.can
  have := h1.min b b1 b3
  have := h2.min a a1 a3
  omega
theorem few_zero {lo hi : Int} {ns : List Int} {w : Nat} (h : Few lo hi ns w) : w = 0 ↔ rd lo hi 0 true ns ≠ [] := by
  constructor
  · rintro rfl
    obtain ⟨a, a1, a2, a3⟩ := h.can
    have := count_none a a2
    rw [a1] at this
    rw [this] at a3
    exact (can_none ns 0 true).mp a3
  · intro hr
    have := h.min _ (List.length_replicate ..) ((can_none ns 0 true).mpr hr)
    rw [List.count_replicate] at this
    simpa using this
theorem few_one {lo hi : Int} {ns : List Int} {w : Nat} (h : Few lo hi ns w) : w = 1 ↔ rd lo hi 0 true ns = [] ∧ ∃ i < ns.length, CanB lo hi 0 true ns (oneM ns.length i) := by
  constructor
  · rintro rfl
    refine ⟨?_, ?_⟩
    · refine Classical.byContradiction fun hr => ?_
      have := (few_zero h).mpr hr
      omega
    · obtain ⟨a, a1, a2, a3⟩ := h.can
      obtain ⟨i, hi', e⟩ := count_one a a2
      rw [a1] at hi' e
      exact ⟨i, hi', by rw [← e]; exact a3⟩
  · rintro ⟨hr, i, hi', hc⟩
    have h1 := h.min _ (oneM_len ..) hc
    rw [oneM_count _ _ hi'] at h1
    have : w ≠ 0 := fun e => (few_zero h).mp e hr
    omega
theorem wr_ne {lo hi : Int} (h1 : 1 ≤ lo) (hlh : lo ≤ hi) {ns : List Int} (hn : ∀ n ∈ ns, 0 ≤ n) (hb : hi * (ns.length : Nat) ≤ 1000000000) {w : Nat} (h : Few lo hi ns w) : wrM lo hi ns ≠ [] ↔ w = 1 := by
  rw [few_one h]
  unfold wrM
  by_cases hr : rd lo hi 0 true ns = []
  · rw [if_pos hr]
    constructor
    · intro h
      obtain ⟨i, hi'⟩ := List.exists_mem_of_ne_nil _ h
      obtain ⟨i1, i2⟩ := List.mem_filter.mp hi'
      rw [Bool.not_eq_true', decide_eq_false_iff_not] at i2
      have i1 := List.mem_range.mp i1
      exact ⟨hr, i, i1, (hn_ne h1 hlh i1 hn hb).mp i2⟩
    · rintro ⟨_, i, hi', hc⟩
      refine List.ne_nil_of_mem (List.mem_filter.mpr ⟨List.mem_range.mpr hi', ?_⟩ : i ∈ _)
      rw [Bool.not_eq_true', decide_eq_false_iff_not]
      exact (hn_ne h1 hlh hi' hn hb).mpr hc
  · rw [if_neg hr]
    exact ⟨fun h => absurd rfl h, fun h => absurd h.1 hr⟩
end PL
set_option Elab.async false
set_option linter.all false
set_option maxRecDepth 100000
set_option maxHeartbeats 4000000
namespace PL
open PySem PySem.Spec PyProof.Rows L2
theorem in_ints (k : Int) (l : List Int) : ((l.map D.int).all flt = true) ∧ ((l.map D.int).any fun y => eqv y (.int k)) = decide (k ∈ l) := by
  refine ⟨List.all_eq_true.mpr fun d hd => ?_, ?_⟩
  · obtain ⟨i, _, rfl⟩ := List.mem_map.mp hd
    rfl
  · rw [List.any_map, Bool.eq_iff_iff, List.any_eq_true, decide_eq_true_eq]
    constructor
    · rintro ⟨x, hx, h⟩
      have : x = k := eq_of_beq h
      exact this ▸ hx
    · intro h
      exact ⟨k, h, beq_self_eq_true k⟩
theorem in_lstJ (k : Int) (l : List Int) : inD (.int k) (lstI l) = .ok (decide (k ∈ l)) := by
  obtain ⟨h1, h2⟩ := in_ints k l
  show (if flt (.int k) = true ∧ (l.map D.int).all flt = true then Res.ok ((l.map D.int).any fun y => eqv y (.int k)) else .bad) = _
  rw [if_pos ⟨rfl, h1⟩, h2]
theorem in_tupI (k : Int) (l : List Int) : inD (.int k) (tupI l) = .ok (decide (k ∈ l)) := by
  obtain ⟨h1, h2⟩ := in_ints k l
  show (if flt (.int k) = true ∧ (l.map D.int).all flt = true then Res.ok ((l.map D.int).any fun y => eqv y (.int k)) else .bad) = _
  rw [if_pos ⟨rfl, h1⟩, h2]
theorem ev_sset (ns : List Int) (h : ns.length < 4000) : ssetD [lstI ns] = .ok (lstI (sset ns)) := by
  show (match intsOf (ns.map D.int) with | some ns => if ns.length < 4000 then Res.ok (D.lst ((sset ns).map D.int)) else .bad | none => .bad) = _
  rw [intsOf_map]
  exact if_pos h
theorem lt_len : ∀ (l : List Int) (a : Int) (B : Nat), l.Pairwise (· < ·) → (∀ t ∈ l, a ≤ t ∧ t < a + (B : Nat)) → l.length ≤ B
  | [], _, _, _, _ => Nat.zero_le _
  | x :: l, a, B, h, hb => by
    obtain ⟨g1, g2⟩ := List.pairwise_cons.mp h
    have h0 := hb x (List.mem_cons_self ..)
    obtain ⟨B', rfl⟩ : ∃ B', B = B' + 1 := ⟨B - 1, by omega⟩
    have := lt_len l (a + 1) B' g2 fun t ht => by
      have := hb t (List.mem_cons_of_mem _ ht)
      have := g1 t ht
      constructor <;> omega
    rw [List.length_cons]
    omega
def between (lo hi : Int) : List Int := (List.range (hi + 1 - lo).toNat).map fun k : Nat => lo + (k : Int)
theorem between_mem {lo hi x : Int} : x ∈ between lo hi ↔ lo ≤ x ∧ x ≤ hi := by
  unfold between
  rw [List.mem_map]
  constructor
  · rintro ⟨k, hk, rfl⟩
    have := List.mem_range.mp hk
    omega
  · intro h
    exact ⟨(x - lo).toNat, List.mem_range.mpr (by omega), by omega⟩
theorem between_rng {lo hi : Int} (h1 : 0 ≤ lo) (h2 : lo ≤ hi) (h3 : hi ≤ 100000) : rng2 [.int lo, .int (hi + 1)] = .ok ((between lo hi).map D.int) := by
  show (if (lo : Int).natAbs < 4000000000000000000 ∧ (hi + 1).natAbs < 4000000000000000000 then Res.ok ((List.range (hi + 1 - lo).toNat).map fun k => D.int (lo + (k : Nat))) else .bad) = _
  rw [if_pos (by constructor <;> omega)]
  unfold between
  rw [List.map_map]
  rfl
def rwStep (lo hi n : Int) (i : Nat) (b : Bool) (t : Int) : List Int := if b = true then (between lo hi).map (t + ·) else (if okR lo hi n = true then [t + n] else []) ++ (if (decide ((0 : Int) < (i : Nat)) && okR lo hi (n - t)) = true then [n] else [])
theorem rw_1 (bd nt ps fr g4 g5 : Option D) (t : Int) : ∀ (xs lt : List Int) (g8 : Option D), lt.length + xs.length < 1000000 →
    ∃ g8', forL (gtN 8) B__law_readable_with_1 (xs.map D.int) [bd, nt, ps, fr, g4, g5, some (lstI lt), some (.int t), g8] = .next [bd, nt, ps, fr, g4, g5, some (lstI (lt ++ xs.map (t + ·))), some (.int t), g8'] := by
  intro xs
  induction xs with
  | nil => exact fun lt g8 _ => ⟨g8, by rw [List.map_nil, List.map_nil, List.append_nil, forL_nil]⟩
  | cons x xs ih =>
    intro lt g8 h
    rw [List.length_cons] at h
    obtain ⟨y8, h1⟩ := ih (lt ++ [t + x]) (some (.int x)) (by rw [List.length_append, List.length_singleton]; omega)
    refine ⟨y8, (forL_step (gtN_eq ..) ?_).trans (h1.trans ?_)⟩
    · simp only [B__law_readable_with_1, ev_seq, ev_nil, ev_set, ev_ret, ev_if, ev_for, forI_ok, ev_varS, ev_var0, ev_cst, ev_un, ev_bin, ev_eif, ev_tst, blD_bl, ev_tval, ev_cmp, ev_chn, ev_tnot, ev_tand, ev_tor, ev_anil, ev_acons, ev_args, ev_eand, ev_eor, notD_bl, addD_int, subD_int, negD_int, ltD_int, leD_int, gtD_int, geD_int, eqD_int, neD_int, ev_app, lstOf_lst, dctOf_dct, ev_par2, noX_ok, ev_unp, gtN_eq, gtT2, tup2, tup1, tup0, lst0, lst1, idx_pair0, idx_pair1, thn_next, thn_ret, thn_exc, thn_bad, res_next, res_ret, cnd_ok, env_ok, out_ok, bind_ok, forB_ok, setAll_cons, setAll_nil, List.set_cons_succ, List.set_cons_zero, ev_dset, ev_daug, ev_get2, getOr_int, dctOf_I, ev_comp, wipeE_cons, wipeE_nil, ev_slice, ev_onone, ev_osome, intOf_int, ev_ttrue, ev_count, strOf_str, cntS_ch, revD_tup]
      rw [app_map (by unfold LIM; omega)]
      simp only [ev_seq, ev_nil, ev_set, ev_ret, ev_if, ev_for, forI_ok, ev_varS, ev_var0, ev_cst, ev_un, ev_bin, ev_eif, ev_tst, blD_bl, ev_tval, ev_cmp, ev_chn, ev_tnot, ev_tand, ev_tor, ev_anil, ev_acons, ev_args, ev_eand, ev_eor, notD_bl, addD_int, subD_int, negD_int, ltD_int, leD_int, gtD_int, geD_int, eqD_int, neD_int, ev_app, lstOf_lst, dctOf_dct, ev_par2, noX_ok, ev_unp, gtN_eq, gtT2, tup2, tup1, tup0, lst0, lst1, idx_pair0, idx_pair1, thn_next, thn_ret, thn_exc, thn_bad, res_next, res_ret, cnd_ok, env_ok, out_ok, bind_ok, forB_ok, setAll_cons, setAll_nil, List.set_cons_succ, List.set_cons_zero, ev_dset, ev_daug, ev_get2, getOr_int, dctOf_I, ev_comp, wipeE_cons, wipeE_nil, ev_slice, ev_onone, ev_osome, intOf_int, ev_ttrue, ev_count, strOf_str, cntS_ch, revD_tup]
    · rw [List.map_cons, List.append_assoc]
      rfl
theorem rwStep_len {lo hi : Int} (n : Int) (i : Nat) (b : Bool) (t : Int) : (rwStep lo hi n i b t).length ≤ 2 + (hi + 1 - lo).toNat := by
  unfold rwStep
  split
  · rw [List.length_map]
    unfold between
    rw [List.length_map, List.length_range]
    omega
  · split <;> split <;> simp <;> omega
theorem rw_2 {lo hi : Int} (h1 : 1 ≤ lo) (h2 : lo ≤ hi) (h3 : hi ≤ 1000) (n : Int) (i : Nat) (ps : List Int) (nt fr : Option D) : ∀ (ts lt : List Int) (g7 g8 : Option D), lt.length + (2 + (hi + 1 - lo).toNat) * ts.length < 900000 →
    ∃ g7' g8', forL (gtN 7) B__law_readable_with_2 (ts.map D.int) [some (pr lo hi), nt, some (tupI ps), fr, some (.int (i : Nat)), some (.int n), some (lstI lt), g7, g8] = .next [some (pr lo hi), nt, some (tupI ps), fr, some (.int (i : Nat)), some (.int n), some (lstI (lt ++ ts.flatMap (rwStep lo hi n i (decide ((i : Int) ∈ ps))))), g7', g8'] := by
  intro ts
  induction ts with
  | nil => exact fun lt g7 g8 _ => ⟨g7, g8, by rw [List.map_nil, List.flatMap_nil, List.append_nil, forL_nil]⟩
  | cons t ts ih =>
    intro lt g7 g8 h
    rw [List.length_cons, Nat.mul_add, Nat.mul_one] at h
    have hsl := rwStep_len (lo := lo) (hi := hi) n i (decide ((i : Int) ∈ ps)) t
    have hbl : (between lo hi).length = (hi + 1 - lo).toNat := by unfold between; rw [List.length_map, List.length_range]
    have i0 : idxD (pr lo hi) (.int 0) = .ok (.int lo) := rfl
    have i1 : idxD (pr lo hi) (.int 1) = .ok (.int hi) := rfl
    have key : ∃ x8, B__law_readable_with_2 [some (pr lo hi), nt, some (tupI ps), fr, some (.int (i : Nat)), some (.int n), some (lstI lt), some (.int t), g8] = .next [some (pr lo hi), nt, some (tupI ps), fr, some (.int (i : Nat)), some (.int n), some (lstI (lt ++ rwStep lo hi n i (decide ((i : Int) ∈ ps)) t)), some (.int t), x8] := by
      by_cases hp : (i : Int) ∈ ps
      · obtain ⟨x8, f⟩ := rw_1 (some (pr lo hi)) nt (some (tupI ps)) fr (some (.int (i : Nat))) (some (.int n)) t (between lo hi) lt g8 (by omega)
        refine ⟨x8, ?_⟩
        rw [decide_eq_true hp]
        simp only [B__law_readable_with_2, ev_seq, ev_nil, ev_set, ev_ret, ev_if, ev_for, forI_ok, ev_varS, ev_var0, ev_cst, ev_un, ev_bin, ev_eif, ev_tst, blD_bl, ev_tval, ev_cmp, ev_chn, ev_tnot, ev_tand, ev_tor, ev_anil, ev_acons, ev_args, ev_eand, ev_eor, notD_bl, addD_int, subD_int, negD_int, ltD_int, leD_int, gtD_int, geD_int, eqD_int, neD_int, ev_app, lstOf_lst, dctOf_dct, ev_par2, noX_ok, ev_unp, gtN_eq, gtT2, tup2, tup1, tup0, lst0, lst1, idx_pair0, idx_pair1, thn_next, thn_ret, thn_exc, thn_bad, res_next, res_ret, cnd_ok, env_ok, out_ok, bind_ok, forB_ok, setAll_cons, setAll_nil, List.set_cons_succ, List.set_cons_zero, ev_dset, ev_daug, ev_get2, getOr_int, dctOf_I, ev_comp, wipeE_cons, wipeE_nil, ev_slice, ev_onone, ev_osome, intOf_int, ev_ttrue, ev_count, strOf_str, cntS_ch, revD_tup, in_tupI, decide_eq_true hp, if_true, i0, i1, between_rng (show 0 ≤ lo by omega) h2 (by omega), f]
        rfl
      · refine ⟨g8, ?_⟩
        rw [decide_eq_false hp]
        have e2 : (if decide ((0 : Int) < (i : Nat)) = true then (Res.ok (okR lo hi (n - t))) else .ok false) = .ok (decide ((0 : Int) < (i : Nat)) && okR lo hi (n - t)) := by
          cases decide ((0 : Int) < (i : Nat)) <;> rfl
        by_cases ho : okR lo hi n = true
        · by_cases ht : (decide ((0 : Int) < (i : Nat)) && okR lo hi (n - t)) = true
          · have eh : rwStep lo hi n i false t = [t + n, n] := by unfold rwStep; rw [if_neg (by decide), if_pos ho, if_pos ht]; rfl
            simp only [B__law_readable_with_2, ev_seq, ev_nil, ev_set, ev_ret, ev_if, ev_for, forI_ok, ev_varS, ev_var0, ev_cst, ev_un, ev_bin, ev_eif, ev_tst, blD_bl, ev_tval, ev_cmp, ev_chn, ev_tnot, ev_tand, ev_tor, ev_anil, ev_acons, ev_args, ev_eand, ev_eor, notD_bl, addD_int, subD_int, negD_int, ltD_int, leD_int, gtD_int, geD_int, eqD_int, neD_int, ev_app, lstOf_lst, dctOf_dct, ev_par2, noX_ok, ev_unp, gtN_eq, gtT2, tup2, tup1, tup0, lst0, lst1, idx_pair0, idx_pair1, thn_next, thn_ret, thn_exc, thn_bad, res_next, res_ret, cnd_ok, env_ok, out_ok, bind_ok, forB_ok, setAll_cons, setAll_nil, List.set_cons_succ, List.set_cons_zero, ev_dset, ev_daug, ev_get2, getOr_int, dctOf_I, ev_comp, wipeE_cons, wipeE_nil, ev_slice, ev_onone, ev_osome, intOf_int, ev_ttrue, ev_count, strOf_str, cntS_ch, revD_tup, in_tupI, decide_eq_false hp, Bool.false_eq_true, if_false, i0, i1, okR_chn, ho, if_true]
            rw [app_map (by unfold LIM; omega)]
            simp only [ev_seq, ev_nil, ev_set, ev_ret, ev_if, ev_for, forI_ok, ev_varS, ev_var0, ev_cst, ev_un, ev_bin, ev_eif, ev_tst, blD_bl, ev_tval, ev_cmp, ev_chn, ev_tnot, ev_tand, ev_tor, ev_anil, ev_acons, ev_args, ev_eand, ev_eor, notD_bl, addD_int, subD_int, negD_int, ltD_int, leD_int, gtD_int, geD_int, eqD_int, neD_int, ev_app, lstOf_lst, dctOf_dct, ev_par2, noX_ok, ev_unp, gtN_eq, gtT2, tup2, tup1, tup0, lst0, lst1, idx_pair0, idx_pair1, thn_next, thn_ret, thn_exc, thn_bad, res_next, res_ret, cnd_ok, env_ok, out_ok, bind_ok, forB_ok, setAll_cons, setAll_nil, List.set_cons_succ, List.set_cons_zero, ev_dset, ev_daug, ev_get2, getOr_int, dctOf_I, ev_comp, wipeE_cons, wipeE_nil, ev_slice, ev_onone, ev_osome, intOf_int, ev_ttrue, ev_count, strOf_str, cntS_ch, revD_tup, e2, ht, if_true, i0, i1, okR_chn]
            rw [app_map (by rw [List.length_append, List.length_singleton]; unfold LIM; omega)]
            simp only [ev_seq, ev_nil, ev_set, ev_ret, ev_if, ev_for, forI_ok, ev_varS, ev_var0, ev_cst, ev_un, ev_bin, ev_eif, ev_tst, blD_bl, ev_tval, ev_cmp, ev_chn, ev_tnot, ev_tand, ev_tor, ev_anil, ev_acons, ev_args, ev_eand, ev_eor, notD_bl, addD_int, subD_int, negD_int, ltD_int, leD_int, gtD_int, geD_int, eqD_int, neD_int, ev_app, lstOf_lst, dctOf_dct, ev_par2, noX_ok, ev_unp, gtN_eq, gtT2, tup2, tup1, tup0, lst0, lst1, idx_pair0, idx_pair1, thn_next, thn_ret, thn_exc, thn_bad, res_next, res_ret, cnd_ok, env_ok, out_ok, bind_ok, forB_ok, setAll_cons, setAll_nil, List.set_cons_succ, List.set_cons_zero, ev_dset, ev_daug, ev_get2, getOr_int, dctOf_I, ev_comp, wipeE_cons, wipeE_nil, ev_slice, ev_onone, ev_osome, intOf_int, ev_ttrue, ev_count, strOf_str, cntS_ch, revD_tup, eh, List.append_assoc]
            rfl
          · have eh : rwStep lo hi n i false t = [t + n] := by unfold rwStep; rw [if_neg (by decide), if_pos ho, if_neg ht]; rfl
            simp only [B__law_readable_with_2, ev_seq, ev_nil, ev_set, ev_ret, ev_if, ev_for, forI_ok, ev_varS, ev_var0, ev_cst, ev_un, ev_bin, ev_eif, ev_tst, blD_bl, ev_tval, ev_cmp, ev_chn, ev_tnot, ev_tand, ev_tor, ev_anil, ev_acons, ev_args, ev_eand, ev_eor, notD_bl, addD_int, subD_int, negD_int, ltD_int, leD_int, gtD_int, geD_int, eqD_int, neD_int, ev_app, lstOf_lst, dctOf_dct, ev_par2, noX_ok, ev_unp, gtN_eq, gtT2, tup2, tup1, tup0, lst0, lst1, idx_pair0, idx_pair1, thn_next, thn_ret, thn_exc, thn_bad, res_next, res_ret, cnd_ok, env_ok, out_ok, bind_ok, forB_ok, setAll_cons, setAll_nil, List.set_cons_succ, List.set_cons_zero, ev_dset, ev_daug, ev_get2, getOr_int, dctOf_I, ev_comp, wipeE_cons, wipeE_nil, ev_slice, ev_onone, ev_osome, intOf_int, ev_ttrue, ev_count, strOf_str, cntS_ch, revD_tup, in_tupI, decide_eq_false hp, Bool.false_eq_true, if_false, i0, i1, okR_chn, ho, if_true]
            rw [app_map (by unfold LIM; omega)]
            simp only [ev_seq, ev_nil, ev_set, ev_ret, ev_if, ev_for, forI_ok, ev_varS, ev_var0, ev_cst, ev_un, ev_bin, ev_eif, ev_tst, blD_bl, ev_tval, ev_cmp, ev_chn, ev_tnot, ev_tand, ev_tor, ev_anil, ev_acons, ev_args, ev_eand, ev_eor, notD_bl, addD_int, subD_int, negD_int, ltD_int, leD_int, gtD_int, geD_int, eqD_int, neD_int, ev_app, lstOf_lst, dctOf_dct, ev_par2, noX_ok, ev_unp, gtN_eq, gtT2, tup2, tup1, tup0, lst0, lst1, idx_pair0, idx_pair1, thn_next, thn_ret, thn_exc, thn_bad, res_next, res_ret, cnd_ok, env_ok, out_ok, bind_ok, forB_ok, setAll_cons, setAll_nil, List.set_cons_succ, List.set_cons_zero, ev_dset, ev_daug, ev_get2, getOr_int, dctOf_I, ev_comp, wipeE_cons, wipeE_nil, ev_slice, ev_onone, ev_osome, intOf_int, ev_ttrue, ev_count, strOf_str, cntS_ch, revD_tup, i0, i1, okR_chn, e2, ht, Bool.false_eq_true, if_false, eh]
        · by_cases ht : (decide ((0 : Int) < (i : Nat)) && okR lo hi (n - t)) = true
          · have eh : rwStep lo hi n i false t = [n] := by unfold rwStep; rw [if_neg (by decide), if_neg ho, if_pos ht]; rfl
            simp only [B__law_readable_with_2, ev_seq, ev_nil, ev_set, ev_ret, ev_if, ev_for, forI_ok, ev_varS, ev_var0, ev_cst, ev_un, ev_bin, ev_eif, ev_tst, blD_bl, ev_tval, ev_cmp, ev_chn, ev_tnot, ev_tand, ev_tor, ev_anil, ev_acons, ev_args, ev_eand, ev_eor, notD_bl, addD_int, subD_int, negD_int, ltD_int, leD_int, gtD_int, geD_int, eqD_int, neD_int, ev_app, lstOf_lst, dctOf_dct, ev_par2, noX_ok, ev_unp, gtN_eq, gtT2, tup2, tup1, tup0, lst0, lst1, idx_pair0, idx_pair1, thn_next, thn_ret, thn_exc, thn_bad, res_next, res_ret, cnd_ok, env_ok, out_ok, bind_ok, forB_ok, setAll_cons, setAll_nil, List.set_cons_succ, List.set_cons_zero, ev_dset, ev_daug, ev_get2, getOr_int, dctOf_I, ev_comp, wipeE_cons, wipeE_nil, ev_slice, ev_onone, ev_osome, intOf_int, ev_ttrue, ev_count, strOf_str, cntS_ch, revD_tup, in_tupI, decide_eq_false hp, Bool.false_eq_true, if_false, i0, i1, okR_chn, ho, e2, ht, if_true]
            rw [app_map (by unfold LIM; omega)]
            simp only [ev_seq, ev_nil, ev_set, ev_ret, ev_if, ev_for, forI_ok, ev_varS, ev_var0, ev_cst, ev_un, ev_bin, ev_eif, ev_tst, blD_bl, ev_tval, ev_cmp, ev_chn, ev_tnot, ev_tand, ev_tor, ev_anil, ev_acons, ev_args, ev_eand, ev_eor, notD_bl, addD_int, subD_int, negD_int, ltD_int, leD_int, gtD_int, geD_int, eqD_int, neD_int, ev_app, lstOf_lst, dctOf_dct, ev_par2, noX_ok, ev_unp, gtN_eq, gtT2, tup2, tup1, tup0, lst0, lst1, idx_pair0, idx_pair1, thn_next, thn_ret, thn_exc, thn_bad, res_next, res_ret, cnd_ok, env_ok, out_ok, bind_ok, forB_ok, setAll_cons, setAll_nil, List.set_cons_succ, List.set_cons_zero, ev_dset, ev_daug, ev_get2, getOr_int, dctOf_I, ev_comp, wipeE_cons, wipeE_nil, ev_slice, ev_onone, ev_osome, intOf_int, ev_ttrue, ev_count, strOf_str, cntS_ch, revD_tup, eh]
          · have eh : rwStep lo hi n i false t = [] := by unfold rwStep; rw [if_neg (by decide), if_neg ho, if_neg ht]; rfl
            simp only [B__law_readable_with_2, ev_seq, ev_nil, ev_set, ev_ret, ev_if, ev_for, forI_ok, ev_varS, ev_var0, ev_cst, ev_un, ev_bin, ev_eif, ev_tst, blD_bl, ev_tval, ev_cmp, ev_chn, ev_tnot, ev_tand, ev_tor, ev_anil, ev_acons, ev_args, ev_eand, ev_eor, notD_bl, addD_int, subD_int, negD_int, ltD_int, leD_int, gtD_int, geD_int, eqD_int, neD_int, ev_app, lstOf_lst, dctOf_dct, ev_par2, noX_ok, ev_unp, gtN_eq, gtT2, tup2, tup1, tup0, lst0, lst1, idx_pair0, idx_pair1, thn_next, thn_ret, thn_exc, thn_bad, res_next, res_ret, cnd_ok, env_ok, out_ok, bind_ok, forB_ok, setAll_cons, setAll_nil, List.set_cons_succ, List.set_cons_zero, ev_dset, ev_daug, ev_get2, getOr_int, dctOf_I, ev_comp, wipeE_cons, wipeE_nil, ev_slice, ev_onone, ev_osome, intOf_int, ev_ttrue, ev_count, strOf_str, cntS_ch, revD_tup, in_tupI, decide_eq_false hp, Bool.false_eq_true, if_false, i0, i1, okR_chn, ho, e2, ht, eh, List.append_nil]
    obtain ⟨x8, hk⟩ := key
    obtain ⟨y7, y8, h4⟩ := ih (lt ++ rwStep lo hi n i (decide ((i : Int) ∈ ps)) t) (some (.int t)) x8 (by rw [List.length_append]; omega)
    refine ⟨y7, y8, (forL_step (gtN_eq ..) hk).trans (h4.trans ?_)⟩
    rw [List.flatMap_cons, List.append_assoc]
def maskFrom (ps : List Int) (k m : Nat) : List Bool := (List.range' k m).map fun i : Nat => decide ((i : Int) ∈ ps)
def rwRows (lo hi : Int) (ps : List Int) : Nat → List Int → List Int → List Int
  | _, fr, [] => fr
  | i, fr, n :: ns => rwRows lo hi ps (i + 1) (sset (fr.flatMap (rwStep lo hi n i (decide ((i : Int) ∈ ps))))) ns
structure FR (lo hi : Int) (ps pre fr : List Int) : Prop where
  lt : fr.Pairwise (· < ·)
  mem : ∀ t, t ∈ fr ↔ Reach lo hi 0 true pre (maskFrom ps 0 pre.length) t
theorem fr_step {lo hi : Int} {ps pre fr : List Int} (h : FR lo hi ps pre fr) (n : Int) : FR lo hi ps (pre ++ [n]) (sset (fr.flatMap (rwStep lo hi n pre.length (decide ((pre.length : Int) ∈ ps))))) := by
  refine ⟨sset_lt _, fun t => ?_⟩
  have em : maskFrom ps 0 (pre ++ [n]).length = maskFrom ps 0 pre.length ++ [decide ((pre.length : Int) ∈ ps)] := by
    unfold maskFrom
    rw [List.length_append, List.length_singleton, List.range'_concat, List.map_append]
    simp
  have ml : (maskFrom ps 0 pre.length).length = pre.length := by unfold maskFrom; rw [List.length_map, List.length_range']
  rw [sset_mem, List.mem_flatMap, em, reach_snoc _ _ _ _ _ _ _ ml]
  have hpe : (true && pre.isEmpty) = false ↔ 0 < pre.length := by cases pre <;> simp
  refine exists_congr fun s => and_congr (h.mem s) ?_
  unfold rwStep stp
  by_cases hb : decide ((pre.length : Int) ∈ ps) = true
  · rw [if_pos hb, if_pos hb, List.mem_map]
    constructor
    · rintro ⟨x, hx, rfl⟩
      have := between_mem.mp hx
      exact okR_iff.mpr (by omega)
    · intro ho
      have := okR_iff.mp ho
      exact ⟨t - s, between_mem.mpr (by omega), by omega⟩
  · rw [if_neg hb, if_neg hb, List.mem_append]
    constructor
    · rintro (h1 | h1)
      · split at h1
        · rename_i ho
          exact ⟨108, mem_steps.mpr (.inl ⟨ho, by rw [List.mem_singleton.mp h1]⟩)⟩
        · simp at h1
      · split at h1
        · rename_i ho
          rw [Bool.and_eq_true, decide_eq_true_eq] at ho
          exact ⟨116, mem_steps.mpr (.inr ⟨hpe.mpr (by omega), ho.2, by rw [List.mem_singleton.mp h1]⟩)⟩
        · simp at h1
    · rintro ⟨c, hc⟩
      rcases mem_steps.mp hc with ⟨o, e⟩ | ⟨hf, o, e⟩
      · left
        rw [if_pos o]
        exact List.mem_singleton.mpr (congrArg Prod.snd e)
      · right
        have := hpe.mp hf
        rw [if_pos (by rw [Bool.and_eq_true, decide_eq_true_eq]; exact ⟨by omega, o⟩)]
        exact List.mem_singleton.mpr (congrArg Prod.snd e)
theorem fr_len {lo hi : Int} (h1 : 1 ≤ lo) (h2 : lo ≤ hi) {ps pre fr : List Int} (h : FR lo hi ps pre fr) {B : Nat} (hB : hi * (pre.length : Nat) ≤ (B : Nat)) : fr.length ≤ B + 1 := by
  refine lt_len fr 0 (B + 1) h.lt fun t ht => ?_
  have := reach_bnd (by omega) h2 pre _ 0 true t ((h.mem t).mp ht)
  constructor <;> omega
theorem flat_bnd (f : Int → List Int) (c : Nat) (hf : ∀ t, (f t).length ≤ c) : ∀ ts : List Int, (ts.flatMap f).length ≤ c * ts.length
  | [] => by simp
  | t :: ts => by
    have h1 := flat_bnd f c hf ts
    have h2 := hf t
    rw [List.flatMap_cons, List.length_append, List.length_cons, Nat.mul_add, Nat.mul_one]
    omega
theorem rw_3 {lo hi : Int} (h1 : 1 ≤ lo) (h2 : lo ≤ hi) (h3 : hi ≤ 20) (ps : List Int) (nt : Option D) {all : List Int} (hal : all.length ≤ 6) : ∀ (ns pre fr : List Int) (g4 g5 g6 g7 g8 : Option D), FR lo hi ps pre fr → all = pre ++ ns →
    ∃ g4' g5' g6' g7' g8', forL (gtT [4, 5]) B__law_readable_with_3 ((enI pre.length ns).map (enD D.int)) [some (pr lo hi), nt, some (tupI ps), some (lstI fr), g4, g5, g6, g7, g8] = .next [some (pr lo hi), nt, some (tupI ps), some (lstI (rwRows lo hi ps pre.length fr ns)), g4', g5', g6', g7', g8'] ∧ FR lo hi ps all (rwRows lo hi ps pre.length fr ns) := by
  intro ns
  induction ns with
  | nil => exact fun pre fr g4 g5 g6 g7 g8 h ha => ⟨g4, g5, g6, g7, g8, rfl, by rw [ha, List.append_nil]; exact h⟩
  | cons n ns ih =>
    intro pre fr g4 g5 g6 g7 g8 h ha
    have hpl : pre.length ≤ 6 := by rw [ha, List.length_append] at hal; omega
    have hfl : fr.length ≤ 121 := fr_len h1 h2 h (B := 120) (by
      have : hi * (pre.length : Nat) ≤ 20 * 6 := Int.mul_le_mul h3 (by omega) (by omega) (by decide)
      omega)
    have hw : 2 + (hi + 1 - lo).toNat ≤ 22 := by omega
    have hmul : (2 + (hi + 1 - lo).toNat) * fr.length ≤ 22 * 121 := Nat.mul_le_mul hw hfl
    obtain ⟨x7, x8, f⟩ := rw_2 h1 h2 (by omega) n pre.length ps nt (some (lstI fr)) fr [] g7 g8 (by rw [List.length_nil]; omega)
    have hfb := flat_bnd (rwStep lo hi n pre.length (decide ((pre.length : Int) ∈ ps))) _ (fun t => rwStep_len n pre.length _ t) fr
    obtain ⟨y4, y5, y6, y7, y8, f2, F⟩ := ih (pre ++ [n]) _ (some (.int (pre.length : Nat))) (some (.int n)) (some (lstI (fr.flatMap (rwStep lo hi n pre.length (decide ((pre.length : Int) ∈ ps)))))) x7 x8 (fr_step h n) (by rw [ha, List.append_assoc]; rfl)
    rw [List.length_append, List.length_singleton] at f2 F
    refine ⟨y4, y5, y6, y7, y8, (forL_step rfl ?_).trans f2, F⟩
    have e0 : D.lst [] = lstI [] := rfl
    have it : itemsD (lstI fr) = .ok (fr.map D.int) := rfl
    rw [List.nil_append] at f
    simp only [B__law_readable_with_3, ev_seq, ev_nil, ev_set, ev_ret, ev_if, ev_for, forI_ok, ev_varS, ev_var0, ev_cst, ev_un, ev_bin, ev_eif, ev_tst, blD_bl, ev_tval, ev_cmp, ev_chn, ev_tnot, ev_tand, ev_tor, ev_anil, ev_acons, ev_args, ev_eand, ev_eor, notD_bl, addD_int, subD_int, negD_int, ltD_int, leD_int, gtD_int, geD_int, eqD_int, neD_int, ev_app, lstOf_lst, dctOf_dct, ev_par2, noX_ok, ev_unp, gtN_eq, gtT2, tup2, tup1, tup0, lst0, lst1, idx_pair0, idx_pair1, thn_next, thn_ret, thn_exc, thn_bad, res_next, res_ret, cnd_ok, env_ok, out_ok, bind_ok, forB_ok, setAll_cons, setAll_nil, List.set_cons_succ, List.set_cons_zero, ev_dset, ev_daug, ev_get2, getOr_int, dctOf_I, ev_comp, wipeE_cons, wipeE_nil, ev_slice, ev_onone, ev_osome, intOf_int, ev_ttrue, ev_count, strOf_str, cntS_ch, revD_tup, e0, it, f, ev_sset _ (show (fr.flatMap (rwStep lo hi n pre.length (decide ((pre.length : Int) ∈ ps)))).length < 4000 by omega)]
def rwB (lo hi : Int) (ns ps : List Int) : Bool := !decide (rwRows lo hi ps 0 [0] ns = [])
theorem rw_eq {lo hi : Int} (h1 : 1 ≤ lo) (h2 : lo ≤ hi) (h3 : hi ≤ 20) {ns : List Int} (hl : ns.length ≤ 6) (ps : List Int) : S__law_readable_with [pr lo hi, tupI ns, tupI ps] = .ok (.bl (rwB lo hi ns ps)) ∧ (rwB lo hi ns ps = true ↔ CanB lo hi 0 true ns (maskFrom ps 0 ns.length)) := by
  obtain ⟨y4, y5, y6, y7, y8, f, F⟩ := rw_3 h1 h2 h3 ps (some (tupI ns)) hl ns [] [0] none none none none none ⟨List.pairwise_singleton _ _, fun t => List.mem_singleton⟩ rfl
  rw [List.length_nil] at f F
  constructor
  · have e0 : D.lst [.int 0] = lstI [0] := rfl
    have e1 : D.lst [] = lstI [] := rfl
    have en : enumD [tupI ns] = .ok ((enI 0 ns).map (enD D.int)) := enum_tup D.int ns
    rw [R__law_readable_with]
    simp only [B__law_readable_with, ev_seq, ev_nil, ev_set, ev_ret, ev_if, ev_for, forI_ok, ev_varS, ev_var0, ev_cst, ev_un, ev_bin, ev_eif, ev_tst, blD_bl, ev_tval, ev_cmp, ev_chn, ev_tnot, ev_tand, ev_tor, ev_anil, ev_acons, ev_args, ev_eand, ev_eor, notD_bl, addD_int, subD_int, negD_int, ltD_int, leD_int, gtD_int, geD_int, eqD_int, neD_int, ev_app, lstOf_lst, dctOf_dct, ev_par2, noX_ok, ev_unp, gtN_eq, gtT2, tup2, tup1, tup0, lst0, lst1, idx_pair0, idx_pair1, thn_next, thn_ret, thn_exc, thn_bad, res_next, res_ret, cnd_ok, env_ok, out_ok, bind_ok, forB_ok, setAll_cons, setAll_nil, List.set_cons_succ, List.set_cons_zero, ev_dset, ev_daug, ev_get2, getOr_int, dctOf_I, ev_comp, wipeE_cons, wipeE_nil, ev_slice, ev_onone, ev_osome, intOf_int, ev_ttrue, ev_count, strOf_str, cntS_ch, revD_tup, e0, en, f, e1, ne_lstI]
    rfl
  · unfold rwB CanB
    rw [Bool.not_eq_true', decide_eq_false_iff_not]
    constructor
    · intro h
      obtain ⟨t, ht⟩ := List.exists_mem_of_ne_nil _ h
      exact ⟨t, (F.mem t).mp ht⟩
    · rintro ⟨t, ht⟩
      exact List.ne_nil_of_mem ((F.mem t).mpr ht)
theorem mask_one : ∀ (m a k : Nat), a < m → (List.range' k m).map (fun i : Nat => decide ((i : Int) ∈ [((k + a : Nat) : Int)])) = oneM m a
  | 0, a, k, h => absurd h (Nat.not_lt_zero a)
  | m + 1, 0, k, _ => by
    rw [List.range'_succ, List.map_cons, oneM]
    congr 1
    · rw [decide_eq_true_eq, List.mem_singleton]; rfl
    · rw [List.map_eq_replicate_iff.mpr ?_, List.length_range']
      intro i hi'
      rw [decide_eq_false_iff_not, List.mem_singleton]
      have := (List.mem_range'_1.mp hi').1
      omega
  | m + 1, a + 1, k, h => by
    rw [List.range'_succ, List.map_cons, oneM, ← mask_one m a (k + 1) (by omega)]
    congr 1
    · rw [decide_eq_false_iff_not, List.mem_singleton]
      omega
    · refine List.map_congr_left fun i _ => ?_
      rw [show k + (a + 1) = k + 1 + a by omega]
theorem rwB_one {lo hi : Int} (h1 : 1 ≤ lo) (h2 : lo ≤ hi) (h3 : hi ≤ 20) {ns : List Int} (hl : ns.length ≤ 6) (hn : ∀ n ∈ ns, 0 ≤ n) {i : Nat} (hi' : i < ns.length) : rwB lo hi ns [(i : Int)] = !decide (hnM lo hi ns i = []) := by
  rw [Bool.eq_iff_iff, (rw_eq h1 h2 h3 hl [(i : Int)]).2, Bool.not_eq_true', decide_eq_false_iff_not]
  refine Iff.trans ?_ (hn_ne h1 h2 hi' hn (by
    have : hi * (ns.length : Nat) ≤ 20 * 6 := Int.mul_le_mul h3 (by omega) (by omega) (by decide)
    omega)).symm
  have e := mask_one ns.length i 0 hi'
  rw [Nat.zero_add] at e
  unfold maskFrom
  exact iff_of_eq (congrArg _ e)
end PL
set_option Elab.async false
set_option linter.all false
set_option maxRecDepth 100000
set_option maxHeartbeats 4000000
namespace PL
open PySem PySem.Spec PyProof.Rows L2
abbrev lstT (ls : List (List Int)) : D := .lst (ls.map tupI)
def exQ (ps : List Int) (a : Nat) : Bool := decide (ps = []) || decide (dg ps (ps.length - 1) < (a : Int))
def ext (m : Nat) (ps : List Int) : List (List Int) := ((List.range m).filter (exQ ps)).map fun a : Nat => ps ++ [(a : Int)]
def lv (m : Nat) : Nat → List (List Int)
  | 0 => [[]]
  | s + 1 => (lv m s).flatMap (ext m)
def fd (m k : Nat) : List (List Int) := (List.range (k + 1)).flatMap (lv m)
theorem ext_len (m : Nat) (ps : List Int) : (ext m ps).length ≤ m := by
  unfold ext
  rw [List.length_map]
  exact Nat.le_trans (List.length_filter_le _ _) (by rw [List.length_range]; exact Nat.le_refl _)
theorem flat_bndL (f : List Int → List (List Int)) (c : Nat) (hf : ∀ t, (f t).length ≤ c) : ∀ ts : List (List Int), (ts.flatMap f).length ≤ c * ts.length
  | [] => by simp
  | t :: ts => by
    have h1 := flat_bndL f c hf ts
    have h2 := hf t
    rw [List.flatMap_cons, List.length_append, List.length_cons, Nat.mul_add, Nat.mul_one]
    omega
theorem lv_len (m : Nat) : ∀ s, (lv m s).length ≤ m ^ s
  | 0 => Nat.le_refl _
  | s + 1 => by
    have h1 := lv_len m s
    have h2 := flat_bndL (ext m) m (ext_len m) (lv m s)
    have h3 : m * (lv m s).length ≤ m * m ^ s := Nat.mul_le_mul_left m h1
    show ((lv m s).flatMap (ext m)).length ≤ _
    rw [Nat.pow_succ, Nat.mul_comm]
    omega
theorem fd_succ (m k : Nat) : fd m (k + 1) = fd m k ++ lv m (k + 1) := by
  unfold fd
  rw [List.range_succ (n := k + 1), List.flatMap_append, List.flatMap_cons, List.flatMap_nil, List.append_nil]
theorem lv_bnd {m s : Nat} (hm : m ≤ 6) (hs : s ≤ 6) : (lv m s).length ≤ 46656 := by
  have h1 := lv_len m s
  have h2 : m ^ s ≤ 6 ^ s := Nat.pow_le_pow_left hm s
  have h3 : 6 ^ s ≤ 6 ^ 6 := Nat.pow_le_pow_right (by decide) hs
  omega
theorem fd_bnd {m : Nat} (hm : m ≤ 6) : ∀ k, k ≤ 6 → (fd m k).length ≤ 46656 * (k + 1)
  | 0, _ => by
    have : fd m 0 = [[]] := rfl
    rw [this]
    decide
  | k + 1, h => by
    have h1 := fd_bnd hm k (by omega)
    have h2 := lv_bnd hm h
    rw [fd_succ, List.length_append]
    omega
theorem add_lstT (a b : List (List Int)) (h : a.length + b.length ≤ 1000000) : addD (lstT a) (lstT b) = .ok (lstT (a ++ b)) := by
  show (if (a.map tupI).length + (b.map tupI).length ≤ LIM then Res.ok (D.lst (a.map tupI ++ b.map tupI)) else .bad) = _
  rw [List.length_map, List.length_map, if_pos (by unfold LIM; omega), ← List.map_append]
theorem pl_1 (m : Nat) (hm : m ≤ 6) (g1 g2 g3 : Option D) : ∀ (ts lg : List (List Int)) (g5 g6 : Option D), (∀ t ∈ ts, t.length ≤ 10) → lg.length + 6 * ts.length ≤ 900000 →
    ∃ g5' g6', forL (gtN 5) B__law_places_1 (ts.map tupI) [some (.int (m : Nat)), g1, g2, g3, some (lstT lg), g5, g6] = .next [some (.int (m : Nat)), g1, g2, g3, some (lstT (lg ++ ts.flatMap (ext m))), g5', g6'] := by
  intro ts
  induction ts with
  | nil => exact fun lg g5 g6 _ _ => ⟨g5, g6, by rw [List.map_nil, List.flatMap_nil, List.append_nil, forL_nil]⟩
  | cons t ts ih =>
    intro lg g5 g6 ht hl
    rw [List.length_cons] at hl
    have he := ext_len m t
    have htl := ht t (List.mem_cons_self ..)
    obtain ⟨y5, y6, h1⟩ := ih (lg ++ ext m t) (some (tupI t)) g6 (fun x hx => ht x (List.mem_cons_of_mem _ hx)) (by rw [List.length_append]; omega)
    refine ⟨y5, y6, (forL_step (gtN_eq ..) ?_).trans (h1.trans ?_)⟩
    · have rm : rng1 [.int (m : Nat)] = .ok ((List.range m).map fun a : Nat => D.int (a : Nat)) := rng1_eq (by omega)
      have e0 : D.tup [] = tupI [] := rfl
      have hcnd : ∀ a : Nat, (tOr (tCmp eqD (eVar 5) (eArgs tupD aNil)) (tCmp gtD (eVar 6) (eBin idxD (eVar 5) (eBin subD (eArgs lenD (aCons (eVar 5) aNil)) (eCst (.int 1)))))) [some (.int (m : Nat)), g1, g2, g3, some (lstT lg), some (tupI t), some (.int (a : Nat))] = .ok (exQ t a) := fun a => by
        unfold exQ
        by_cases hn : t = []
        · simp only [ev_seq, ev_nil, ev_set, ev_ret, ev_if, ev_for, forI_ok, ev_varS, ev_var0, ev_cst, ev_un, ev_bin, ev_eif, ev_tst, blD_bl, ev_tval, ev_cmp, ev_chn, ev_tnot, ev_tand, ev_tor, ev_anil, ev_acons, ev_args, ev_eand, ev_eor, notD_bl, addD_int, subD_int, negD_int, ltD_int, leD_int, gtD_int, geD_int, eqD_int, neD_int, ev_app, lstOf_lst, dctOf_dct, ev_par2, noX_ok, ev_unp, gtN_eq, gtT2, tup2, tup1, tup0, lst0, lst1, idx_pair0, idx_pair1, thn_next, thn_ret, thn_exc, thn_bad, res_next, res_ret, cnd_ok, env_ok, out_ok, bind_ok, forB_ok, setAll_cons, setAll_nil, List.set_cons_succ, List.set_cons_zero, ev_dset, ev_daug, ev_get2, getOr_int, dctOf_I, ev_comp, wipeE_cons, wipeE_nil, ev_slice, ev_onone, ev_osome, intOf_int, ev_ttrue, ev_count, strOf_str, cntS_ch, revD_tup, e0, eq_tupI, decide_eq_true hn, if_true, Bool.true_or]
        · have hp := List.length_pos_iff.mpr hn
          have el : ((t.length : Nat) : Int) - 1 = ((t.length - 1 : Nat) : Int) := by omega
          simp only [ev_seq, ev_nil, ev_set, ev_ret, ev_if, ev_for, forI_ok, ev_varS, ev_var0, ev_cst, ev_un, ev_bin, ev_eif, ev_tst, blD_bl, ev_tval, ev_cmp, ev_chn, ev_tnot, ev_tand, ev_tor, ev_anil, ev_acons, ev_args, ev_eand, ev_eor, notD_bl, addD_int, subD_int, negD_int, ltD_int, leD_int, gtD_int, geD_int, eqD_int, neD_int, ev_app, lstOf_lst, dctOf_dct, ev_par2, noX_ok, ev_unp, gtN_eq, gtT2, tup2, tup1, tup0, lst0, lst1, idx_pair0, idx_pair1, thn_next, thn_ret, thn_exc, thn_bad, res_next, res_ret, cnd_ok, env_ok, out_ok, bind_ok, forB_ok, setAll_cons, setAll_nil, List.set_cons_succ, List.set_cons_zero, ev_dset, ev_daug, ev_get2, getOr_int, dctOf_I, ev_comp, wipeE_cons, wipeE_nil, ev_slice, ev_onone, ev_osome, intOf_int, ev_ttrue, ev_count, strOf_str, cntS_ch, revD_tup, e0, eq_tupI, decide_eq_false hn, Bool.false_eq_true, if_false, len_tupI, el, idx_dgT (show t.length - 1 < t.length by omega), Bool.false_or]
      have hadd : ∀ a : Nat, addD (tupI t) (.tup [.int (a : Nat)]) = .ok (tupI (t ++ [(a : Int)])) := fun a => add_tup t [(a : Int)] (by rw [List.length_singleton]; omega)
      have hc := compL_map (f := fun a : Nat => D.int (a : Nat)) (g := gtN 6) (c := tOr (tCmp eqD (eVar 5) (eArgs tupD aNil)) (tCmp gtD (eVar 6) (eBin idxD (eVar 5) (eBin subD (eArgs lenD (aCons (eVar 5) aNil)) (eCst (.int 1)))))) (e := eBin addD (eVar 5) (eArgs tupD (aCons (eVar 6) aNil))) (ρ := [some (.int (m : Nat)), g1, g2, g3, some (lstT lg), some (tupI t), none]) (exQ t) (fun a : Nat => tupI (t ++ [(a : Int)])) (List.range m) fun a _ => ⟨[some (.int (m : Nat)), g1, g2, g3, some (lstT lg), some (tupI t), some (.int (a : Nat))], rfl, hcnd a, fun _ => by simp only [ev_seq, ev_nil, ev_set, ev_ret, ev_if, ev_for, forI_ok, ev_varS, ev_var0, ev_cst, ev_un, ev_bin, ev_eif, ev_tst, blD_bl, ev_tval, ev_cmp, ev_chn, ev_tnot, ev_tand, ev_tor, ev_anil, ev_acons, ev_args, ev_eand, ev_eor, notD_bl, addD_int, subD_int, negD_int, ltD_int, leD_int, gtD_int, geD_int, eqD_int, neD_int, ev_app, lstOf_lst, dctOf_dct, ev_par2, noX_ok, ev_unp, gtN_eq, gtT2, tup2, tup1, tup0, lst0, lst1, idx_pair0, idx_pair1, thn_next, thn_ret, thn_exc, thn_bad, res_next, res_ret, cnd_ok, env_ok, out_ok, bind_ok, forB_ok, setAll_cons, setAll_nil, List.set_cons_succ, List.set_cons_zero, ev_dset, ev_daug, ev_get2, getOr_int, dctOf_I, ev_comp, wipeE_cons, wipeE_nil, ev_slice, ev_onone, ev_osome, intOf_int, ev_ttrue, ev_count, strOf_str, cntS_ch, revD_tup, hadd]⟩
      have hx : ((List.range m).filter (exQ t)).map (fun a : Nat => tupI (t ++ [(a : Int)])) = (ext m t).map tupI := by
        unfold ext
        rw [List.map_map]
        rfl
      rw [hx] at hc
      simp only [B__law_places_1, C__law_places_1, ev_seq, ev_nil, ev_set, ev_ret, ev_if, ev_for, forI_ok, ev_varS, ev_var0, ev_cst, ev_un, ev_bin, ev_eif, ev_tst, blD_bl, ev_tval, ev_cmp, ev_chn, ev_tnot, ev_tand, ev_tor, ev_anil, ev_acons, ev_args, ev_eand, ev_eor, notD_bl, addD_int, subD_int, negD_int, ltD_int, leD_int, gtD_int, geD_int, eqD_int, neD_int, ev_app, lstOf_lst, dctOf_dct, ev_par2, noX_ok, ev_unp, gtN_eq, gtT2, tup2, tup1, tup0, lst0, lst1, idx_pair0, idx_pair1, thn_next, thn_ret, thn_exc, thn_bad, res_next, res_ret, cnd_ok, env_ok, out_ok, bind_ok, forB_ok, setAll_cons, setAll_nil, List.set_cons_succ, List.set_cons_zero, ev_dset, ev_daug, ev_get2, getOr_int, dctOf_I, ev_comp, wipeE_cons, wipeE_nil, ev_slice, ev_onone, ev_osome, intOf_int, ev_ttrue, ev_count, strOf_str, cntS_ch, revD_tup, rm, hc, lst_ok (f := tupI) (show (ext m t).length ≤ 1000000 by omega), add_lstT lg (ext m t) (by omega)]
    · rw [List.flatMap_cons, List.append_assoc]
theorem lv_lens {m : Nat} : ∀ {s : Nat} {ps : List Int}, ps ∈ lv m s → ps.length = s
  | 0, ps, h => by rw [List.mem_singleton.mp h]; rfl
  | s + 1, ps, h => by
    obtain ⟨qs, hq, h2⟩ := List.mem_flatMap.mp h
    obtain ⟨a, _, rfl⟩ := List.mem_map.mp h2
    rw [List.length_append, lv_lens hq]
    rfl
theorem pl_2 (m : Nat) (hm : m ≤ 6) : ∀ (j k : Nat) (g3 g4 g5 g6 : Option D), k + j ≤ 6 →
    ∃ g3' g4' g5' g6', forL (gtN 3) B__law_places_2 ((List.range' k j).map fun i : Nat => D.int (i : Nat)) [some (.int (m : Nat)), some (lstT (fd m k)), some (lstT (lv m k)), g3, g4, g5, g6] = .next [some (.int (m : Nat)), some (lstT (fd m (k + j))), some (lstT (lv m (k + j))), g3', g4', g5', g6'] := by
  intro j
  induction j with
  | zero => exact fun k g3 g4 g5 g6 _ => ⟨g3, g4, g5, g6, rfl⟩
  | succ j ih =>
    intro k g3 g4 g5 g6 h
    have hl := lv_bnd hm (show k ≤ 6 by omega)
    have hl2 := lv_bnd hm (show k + 1 ≤ 6 by omega)
    have hf := fd_bnd hm k (by omega)
    obtain ⟨x5, x6, f⟩ := pl_1 m hm (some (lstT (fd m k))) (some (lstT (lv m k))) (some (.int (k : Nat))) (lv m k) [] g5 g6 (fun t ht => by rw [lv_lens ht]; omega) (by rw [List.length_nil]; omega)
    obtain ⟨y3, y4, y5, y6, h1⟩ := ih (k + 1) (some (.int (k : Nat))) (some (lstT (lv m (k + 1)))) x5 x6 (by omega)
    rw [show k + 1 + j = k + (j + 1) by omega] at h1
    refine ⟨y3, y4, y5, y6, ?_⟩
    rw [List.range'_succ, List.map_cons]
    refine (forL_step (gtN_eq ..) ?_).trans h1
    have e0 : D.lst [] = lstT [] := rfl
    have it : itemsD (lstT (lv m k)) = .ok ((lv m k).map tupI) := rfl
    rw [List.nil_append] at f
    have f : forL (gtN 5) B__law_places_1 ((lv m k).map tupI) [some (.int (m : Nat)), some (lstT (fd m k)), some (lstT (lv m k)), some (.int (k : Nat)), some (lstT []), g5, g6] = .next [some (.int (m : Nat)), some (lstT (fd m k)), some (lstT (lv m k)), some (.int (k : Nat)), some (lstT (lv m (k + 1))), x5, x6] := f
    simp only [B__law_places_2, ev_seq, ev_nil, ev_set, ev_ret, ev_if, ev_for, forI_ok, ev_varS, ev_var0, ev_cst, ev_un, ev_bin, ev_eif, ev_tst, blD_bl, ev_tval, ev_cmp, ev_chn, ev_tnot, ev_tand, ev_tor, ev_anil, ev_acons, ev_args, ev_eand, ev_eor, notD_bl, addD_int, subD_int, negD_int, ltD_int, leD_int, gtD_int, geD_int, eqD_int, neD_int, ev_app, lstOf_lst, dctOf_dct, ev_par2, noX_ok, ev_unp, gtN_eq, gtT2, tup2, tup1, tup0, lst0, lst1, idx_pair0, idx_pair1, thn_next, thn_ret, thn_exc, thn_bad, res_next, res_ret, cnd_ok, env_ok, out_ok, bind_ok, forB_ok, setAll_cons, setAll_nil, List.set_cons_succ, List.set_cons_zero, ev_dset, ev_daug, ev_get2, getOr_int, dctOf_I, ev_comp, wipeE_cons, wipeE_nil, ev_slice, ev_onone, ev_osome, intOf_int, ev_ttrue, ev_count, strOf_str, cntS_ch, revD_tup, e0, it, f, add_lstT (fd m k) (lv m (k + 1)) (by omega)]
    rw [fd_succ]
theorem places_eq (m : Nat) (hm : m ≤ 6) : S__law_places [.int (m : Nat)] = .ok (lstT (fd m m)) := by
  obtain ⟨y3, y4, y5, y6, h1⟩ := pl_2 m hm m 0 none none none none (by omega)
  rw [Nat.zero_add] at h1
  have rm : rng1 [.int (m : Nat)] = .ok ((List.range' 0 m).map fun a : Nat => D.int (a : Nat)) := by rw [rng1_eq (by omega), List.range_eq_range']
  have e0 : D.lst [.tup []] = lstT (fd m 0) := rfl
  have h1 : forL (gtN 3) B__law_places_2 ((List.range' 0 m).map fun i : Nat => D.int (i : Nat)) [some (.int (m : Nat)), some (lstT (fd m 0)), some (lstT (fd m 0)), none, none, none, none] = .next [some (.int (m : Nat)), some (lstT (fd m m)), some (lstT (lv m m)), y3, y4, y5, y6] := h1
  rw [R__law_places]
  simp only [B__law_places, ev_seq, ev_nil, ev_set, ev_ret, ev_if, ev_for, forI_ok, ev_varS, ev_var0, ev_cst, ev_un, ev_bin, ev_eif, ev_tst, blD_bl, ev_tval, ev_cmp, ev_chn, ev_tnot, ev_tand, ev_tor, ev_anil, ev_acons, ev_args, ev_eand, ev_eor, notD_bl, addD_int, subD_int, negD_int, ltD_int, leD_int, gtD_int, geD_int, eqD_int, neD_int, ev_app, lstOf_lst, dctOf_dct, ev_par2, noX_ok, ev_unp, gtN_eq, gtT2, tup2, tup1, tup0, lst0, lst1, idx_pair0, idx_pair1, thn_next, thn_ret, thn_exc, thn_bad, res_next, res_ret, cnd_ok, env_ok, out_ok, bind_ok, forB_ok, setAll_cons, setAll_nil, List.set_cons_succ, List.set_cons_zero, ev_dset, ev_daug, ev_get2, getOr_int, dctOf_I, ev_comp, wipeE_cons, wipeE_nil, ev_slice, ev_onone, ev_osome, intOf_int, ev_ttrue, ev_count, strOf_str, cntS_ch, revD_tup, e0, rm, h1]
theorem le_last : ∀ {ps : List Int} {x : Int}, ps.Pairwise (· < ·) → x ∈ ps → x ≤ dg ps (ps.length - 1)
  | [], x, _, h => by simp at h
  | [y], x, _, h => by rw [List.mem_singleton.mp h]; exact Int.le_refl _
  | y :: z :: ps, x, hp, h => by
    obtain ⟨h1, h2⟩ := List.pairwise_cons.mp hp
    have e : dg (y :: z :: ps) ((y :: z :: ps).length - 1) = dg (z :: ps) ((z :: ps).length - 1) := by
      unfold dg
      rfl
    rw [e]
    rcases List.mem_cons.mp h with e | h
    · have := le_last h2 (List.mem_cons_self ..)
      have := h1 z (List.mem_cons_self ..)
      omega
    · exact le_last h2 h
theorem last_mem {ps : List Int} (h : ps ≠ []) : dg ps (ps.length - 1) ∈ ps := by
  have := List.length_pos_iff.mpr h
  exact List.mem_of_getElem? (dg_get (by omega))
theorem lv_mem {m : Nat} : ∀ {s : Nat} {ps : List Int}, ps ∈ lv m s ↔ ps.length = s ∧ ps.Pairwise (· < ·) ∧ ∀ x ∈ ps, 0 ≤ x ∧ x < (m : Int)
  | 0, ps => by
    show ps ∈ [[]] ↔ _
    rw [List.mem_singleton]
    constructor
    · rintro rfl
      exact ⟨rfl, .nil, fun x h => by simp at h⟩
    · intro h
      exact List.length_eq_zero_iff.mp h.1
  | s + 1, ps => by
    show ps ∈ (lv m s).flatMap (ext m) ↔ _
    rw [List.mem_flatMap]
    constructor
    · rintro ⟨qs, hq, h2⟩
      obtain ⟨a, ha, rfl⟩ := List.mem_map.mp h2
      obtain ⟨ha1, ha2⟩ := List.mem_filter.mp ha
      obtain ⟨q1, q2, q3⟩ := lv_mem.mp hq
      have ha1 := List.mem_range.mp ha1
      refine ⟨by rw [List.length_append, q1]; rfl, List.pairwise_append.mpr ⟨q2, List.pairwise_singleton _ _, fun x hx y hy => ?_⟩, fun x hx => ?_⟩
      · rw [List.mem_singleton.mp hy]
        unfold exQ at ha2
        rw [Bool.or_eq_true, decide_eq_true_eq, decide_eq_true_eq] at ha2
        rcases ha2 with e | e
        · rw [e] at hx; simp at hx
        · have := le_last q2 hx
          omega
      · rcases List.mem_append.mp hx with hx | hx
        · exact q3 x hx
        · rw [List.mem_singleton.mp hx]
          omega
    · rintro ⟨h1, h2, h3⟩
      have hne : ps ≠ [] := by intro e; rw [e] at h1; simp at h1
      have e := (List.dropLast_concat_getLast hne).symm
      have hg := h3 _ (List.getLast_mem hne)
      generalize ps.dropLast = qs at e
      generalize ps.getLast hne = b at e hg
      subst e
      obtain ⟨p1, p2, p3⟩ := List.pairwise_append.mp h2
      rw [List.length_append, List.length_singleton] at h1
      refine ⟨qs, lv_mem.mpr ⟨by omega, p1, fun x hx => h3 x (List.mem_append_left _ hx)⟩, List.mem_map.mpr ⟨b.toNat, List.mem_filter.mpr ⟨List.mem_range.mpr (by omega), ?_⟩, by rw [show ((b.toNat : Nat) : Int) = b by omega]⟩⟩
      unfold exQ
      by_cases hq : qs = []
      · rw [decide_eq_true hq]; rfl
      · have := p3 _ (last_mem hq) b (List.mem_singleton.mpr rfl)
        rw [Bool.or_eq_true, decide_eq_true_eq, decide_eq_true_eq]
        right
        omega
theorem mask_count {ps : List Int} {m : Nat} (h1 : ps.Pairwise (· < ·)) (h2 : ∀ x ∈ ps, 0 ≤ x ∧ x < (m : Int)) : (maskFrom ps 0 m).count true = ps.length := by
  have e : ((List.range m).filter fun i : Nat => decide ((i : Int) ∈ ps)).map (fun i : Nat => (i : Int)) = ps := by
    refine lt_uniq ?_ h1 fun x => ?_
    · rw [List.pairwise_map]
      exact (List.Pairwise.filter _ List.pairwise_lt_range).imp fun h => by omega
    · rw [List.mem_map]
      constructor
      · rintro ⟨i, hi', rfl⟩
        exact of_decide_eq_true (List.mem_filter.mp hi').2
      · intro hx
        have := h2 x hx
        have ex : ((x.toNat : Nat) : Int) = x := by omega
        exact ⟨x.toNat, List.mem_filter.mpr ⟨List.mem_range.mpr (by omega), by rw [ex]; exact decide_eq_true hx⟩, ex⟩
  have e2 := congrArg List.length e
  rw [List.length_map, ← List.countP_eq_length_filter] at e2
  unfold maskFrom
  rw [← List.range_eq_range', List.count_eq_countP, List.countP_map, ← e2]
  refine List.countP_congr fun i _ => ?_
  show ((decide ((i : Int) ∈ ps) == true) = true) ↔ _
  rw [beq_iff_eq]
theorem mask_all {bs : List Bool} : ∃ ps : List Int, ps.Pairwise (· < ·) ∧ (∀ x ∈ ps, 0 ≤ x ∧ x < (bs.length : Int)) ∧ maskFrom ps 0 bs.length = bs := by
  refine ⟨((List.range bs.length).filter fun i => bs.getD i false).map (fun i : Nat => (i : Int)), ?_, fun x hx => ?_, ?_⟩
  · rw [List.pairwise_map]
    exact (List.Pairwise.filter _ List.pairwise_lt_range).imp fun h => by omega
  · obtain ⟨i, hi', rfl⟩ := List.mem_map.mp hx
    have := List.mem_range.mp (List.mem_filter.mp hi').1
    omega
  · unfold maskFrom
    refine List.ext_getElem (by rw [List.length_map, List.length_range']) fun i h1 h2 => ?_
    rw [List.getElem_map, List.getElem_range', Bool.eq_iff_iff, decide_eq_true_eq, List.mem_map]
    have eg : bs.getD i false = bs[i] := by rw [List.getD_eq_getElem?_getD, List.getElem?_eq_getElem h2]; rfl
    constructor
    · rintro ⟨k, hk, e⟩
      have : k = i := by omega
      subst this
      have := (List.mem_filter.mp hk).2
      rw [eg] at this
      exact this
    · intro h
      exact ⟨i, List.mem_filter.mpr ⟨List.mem_range.mpr h2, by rw [eg]; exact h⟩, by omega⟩
theorem fd_mem {m : Nat} {ps : List Int} : ps ∈ fd m m ↔ ps.Pairwise (· < ·) ∧ ∀ x ∈ ps, 0 ≤ x ∧ x < (m : Int) := by
  unfold fd
  rw [List.mem_flatMap]
  constructor
  · rintro ⟨s, _, h⟩
    exact (lv_mem.mp h).2
  · rintro ⟨h1, h2⟩
    have := lt_len ps 0 m h1 fun t ht => by have := h2 t ht; omega
    exact ⟨ps.length, List.mem_range.mpr (by omega), lv_mem.mpr ⟨rfl, h1, h2⟩⟩
theorem fd_sorted (m : Nat) : ∀ (j k : Nat), ((List.range' k j).flatMap (lv m)).Pairwise fun a b => a.length ≤ b.length
  | 0, _ => .nil
  | j + 1, k => by
    rw [List.range'_succ, List.flatMap_cons]
    refine List.pairwise_append.mpr ⟨List.pairwise_iff_forall_sublist.mpr fun {a b} h => ?_, fd_sorted m j (k + 1), fun a ha b hb => ?_⟩
    · have h1 := lv_lens (h.subset (List.mem_cons_self ..))
      have h2 := lv_lens (h.subset (List.mem_cons_of_mem _ (List.mem_cons_self ..)))
      omega
    · obtain ⟨s, hs, h⟩ := List.mem_flatMap.mp hb
      have := (List.mem_range'_1.mp hs).1
      have h1 := lv_lens ha
      have h2 := lv_lens h
      omega
theorem sizes_head {lo hi : Int} (h1 : 1 ≤ lo) (h2 : lo ≤ hi) (h3 : hi ≤ 20) {ns : List Int} (hl : ns.length ≤ 6) {w : Nat} (hw : Few lo hi ns w) : ∃ zs, ((fd ns.length ns.length).filter (rwB lo hi ns)).map List.length = w :: zs := by
  have hs : (((fd ns.length ns.length).filter (rwB lo hi ns)).map List.length).Pairwise (· ≤ ·) := by
    rw [List.pairwise_map]
    have := fd_sorted ns.length (ns.length + 1) 0
    rw [← List.range_eq_range'] at this
    exact this.filter _
  have hmin : ∀ z ∈ ((fd ns.length ns.length).filter (rwB lo hi ns)).map List.length, w ≤ z := fun z hz => by
    obtain ⟨ps, hp, rfl⟩ := List.mem_map.mp hz
    obtain ⟨p1, p2⟩ := List.mem_filter.mp hp
    obtain ⟨q1, q2⟩ := fd_mem.mp p1
    have := hw.min (maskFrom ps 0 ns.length) (by unfold maskFrom; rw [List.length_map, List.length_range']) ((rw_eq h1 h2 h3 hl ps).2.mp p2)
    rw [mask_count q1 q2] at this
    exact this
  have hin : w ∈ ((fd ns.length ns.length).filter (rwB lo hi ns)).map List.length := by
    obtain ⟨bs, b1, b2, b3⟩ := hw.can
    obtain ⟨ps, q1, q2, q3⟩ := mask_all (bs := bs)
    rw [b1] at q2 q3
    refine List.mem_map.mpr ⟨ps, List.mem_filter.mpr ⟨fd_mem.mpr ⟨q1, q2⟩, (rw_eq h1 h2 h3 hl ps).2.mpr (by rw [q3]; exact b3)⟩, ?_⟩
    rw [← b2, ← q3, mask_count q1 q2]
  generalize ((fd ns.length ns.length).filter (rwB lo hi ns)).map List.length = L at hs hmin hin
  cases L with
  | nil => simp at hin
  | cons z zs =>
    have a1 := hmin z (List.mem_cons_self ..)
    have a2 : z ≤ w := by
      rcases List.mem_cons.mp hin with e | e
      · omega
      · exact (List.pairwise_cons.mp hs).1 w e
    exact ⟨zs, by rw [show z = w by omega]⟩
end PL
set_option Elab.async false
set_option linter.all false
set_option maxRecDepth 100000
set_option maxHeartbeats 4000000
namespace PL
open PySem PySem.Spec PyProof.Rows L2
def tmsM (t : Int) : List Int → List Nat → List Int
  | n :: ns, k :: ks => (if k = 108 then t + n else n) :: tmsM (if k = 108 then t + n else n) ns ks
  | _, _ => []
theorem times_1 (a b : Option D) : ∀ (ns : List Int) (ks : List Nat) (t : Int) (fd : List Int) (g4 g5 : Option D), KS ks → fd.length + ns.length < 100000 →
    ∃ t' g4' g5', forL (gtT [4, 5]) B_times_1 ((ns.zip ks).map zD) [a, b, some (lstI fd), some (.int t), g4, g5] = .next [a, b, some (lstI (fd ++ tmsM t ns ks)), some (.int t'), g4', g5'] := by
  intro ls
  induction ls with
  | nil => exact fun ks t fd g4 g5 _ _ => ⟨t, g4, g5, by rw [List.zip_nil_left, List.map_nil, forL_nil]; simp [tmsM]⟩
  | cons l ls ih =>
    intro ks t fd g4 g5 hk hl
    rw [List.length_cons] at hl
    cases ks with
    | nil => exact ⟨t, g4, g5, by rw [List.zip_nil_right, List.map_nil, forL_nil]; simp [tmsM]⟩
    | cons k ks =>
      obtain ⟨t', y4, y5, h1⟩ := ih ks (if k = 108 then t + l else l) (fd ++ [if k = 108 then t + l else l]) (some (.int l)) (some (.str [k])) (fun c hc => hk c (List.mem_cons_of_mem _ hc)) (by rw [List.length_append, List.length_singleton]; omega)
      refine ⟨t', y4, y5, (forL_step rfl ?_).trans (h1.trans ?_)⟩
      · simp only [B_times_1, ev_seq, ev_nil, ev_set, ev_ret, ev_if, ev_for, forI_ok, ev_varS, ev_var0, ev_cst, ev_un, ev_bin, ev_eif, ev_tst, blD_bl, ev_tval, ev_cmp, ev_chn, ev_tnot, ev_tand, ev_tor, ev_anil, ev_acons, ev_args, ev_eand, ev_eor, notD_bl, addD_int, subD_int, negD_int, ltD_int, leD_int, gtD_int, geD_int, eqD_int, neD_int, ev_app, lstOf_lst, dctOf_dct, ev_par2, noX_ok, ev_unp, gtN_eq, gtT2, tup2, tup1, tup0, lst0, lst1, idx_pair0, idx_pair1, thn_next, thn_ret, thn_exc, thn_bad, res_next, res_ret, cnd_ok, env_ok, out_ok, bind_ok, forB_ok, setAll_cons, setAll_nil, List.set_cons_succ, List.set_cons_zero, ev_dset, ev_daug, ev_get2, getOr_int, dctOf_I, ev_comp, wipeE_cons, wipeE_nil, ev_slice, ev_onone, ev_osome, intOf_int, ev_ttrue, ev_count, strOf_str, cntS_ch, revD_tup, eq_ch k 108 (hk k (List.mem_cons_self ..)) (.inl rfl), decide_eq_true_eq]
        by_cases h : k = 108
        · simp only [if_pos h, ev_seq, ev_nil, ev_set, ev_ret, ev_if, ev_for, forI_ok, ev_varS, ev_var0, ev_cst, ev_un, ev_bin, ev_eif, ev_tst, blD_bl, ev_tval, ev_cmp, ev_chn, ev_tnot, ev_tand, ev_tor, ev_anil, ev_acons, ev_args, ev_eand, ev_eor, notD_bl, addD_int, subD_int, negD_int, ltD_int, leD_int, gtD_int, geD_int, eqD_int, neD_int, ev_app, lstOf_lst, dctOf_dct, ev_par2, noX_ok, ev_unp, gtN_eq, gtT2, tup2, tup1, tup0, lst0, lst1, idx_pair0, idx_pair1, thn_next, thn_ret, thn_exc, thn_bad, res_next, res_ret, cnd_ok, env_ok, out_ok, bind_ok, forB_ok, setAll_cons, setAll_nil, List.set_cons_succ, List.set_cons_zero, ev_dset, ev_daug, ev_get2, getOr_int, dctOf_I, ev_comp, wipeE_cons, wipeE_nil, ev_slice, ev_onone, ev_osome, intOf_int, ev_ttrue, ev_count, strOf_str, cntS_ch, revD_tup]
          rw [app_map (by unfold LIM; omega)]
          simp only [ev_seq, ev_nil, ev_set, ev_ret, ev_if, ev_for, forI_ok, ev_varS, ev_var0, ev_cst, ev_un, ev_bin, ev_eif, ev_tst, blD_bl, ev_tval, ev_cmp, ev_chn, ev_tnot, ev_tand, ev_tor, ev_anil, ev_acons, ev_args, ev_eand, ev_eor, notD_bl, addD_int, subD_int, negD_int, ltD_int, leD_int, gtD_int, geD_int, eqD_int, neD_int, ev_app, lstOf_lst, dctOf_dct, ev_par2, noX_ok, ev_unp, gtN_eq, gtT2, tup2, tup1, tup0, lst0, lst1, idx_pair0, idx_pair1, thn_next, thn_ret, thn_exc, thn_bad, res_next, res_ret, cnd_ok, env_ok, out_ok, bind_ok, forB_ok, setAll_cons, setAll_nil, List.set_cons_succ, List.set_cons_zero, ev_dset, ev_daug, ev_get2, getOr_int, dctOf_I, ev_comp, wipeE_cons, wipeE_nil, ev_slice, ev_onone, ev_osome, intOf_int, ev_ttrue, ev_count, strOf_str, cntS_ch, revD_tup]
        · simp only [if_neg h, ev_seq, ev_nil, ev_set, ev_ret, ev_if, ev_for, forI_ok, ev_varS, ev_var0, ev_cst, ev_un, ev_bin, ev_eif, ev_tst, blD_bl, ev_tval, ev_cmp, ev_chn, ev_tnot, ev_tand, ev_tor, ev_anil, ev_acons, ev_args, ev_eand, ev_eor, notD_bl, addD_int, subD_int, negD_int, ltD_int, leD_int, gtD_int, geD_int, eqD_int, neD_int, ev_app, lstOf_lst, dctOf_dct, ev_par2, noX_ok, ev_unp, gtN_eq, gtT2, tup2, tup1, tup0, lst0, lst1, idx_pair0, idx_pair1, thn_next, thn_ret, thn_exc, thn_bad, res_next, res_ret, cnd_ok, env_ok, out_ok, bind_ok, forB_ok, setAll_cons, setAll_nil, List.set_cons_succ, List.set_cons_zero, ev_dset, ev_daug, ev_get2, getOr_int, dctOf_I, ev_comp, wipeE_cons, wipeE_nil, ev_slice, ev_onone, ev_osome, intOf_int, ev_ttrue, ev_count, strOf_str, cntS_ch, revD_tup]
          rw [app_map (by unfold LIM; omega)]
          simp only [ev_seq, ev_nil, ev_set, ev_ret, ev_if, ev_for, forI_ok, ev_varS, ev_var0, ev_cst, ev_un, ev_bin, ev_eif, ev_tst, blD_bl, ev_tval, ev_cmp, ev_chn, ev_tnot, ev_tand, ev_tor, ev_anil, ev_acons, ev_args, ev_eand, ev_eor, notD_bl, addD_int, subD_int, negD_int, ltD_int, leD_int, gtD_int, geD_int, eqD_int, neD_int, ev_app, lstOf_lst, dctOf_dct, ev_par2, noX_ok, ev_unp, gtN_eq, gtT2, tup2, tup1, tup0, lst0, lst1, idx_pair0, idx_pair1, thn_next, thn_ret, thn_exc, thn_bad, res_next, res_ret, cnd_ok, env_ok, out_ok, bind_ok, forB_ok, setAll_cons, setAll_nil, List.set_cons_succ, List.set_cons_zero, ev_dset, ev_daug, ev_get2, getOr_int, dctOf_I, ev_comp, wipeE_cons, wipeE_nil, ev_slice, ev_onone, ev_osome, intOf_int, ev_ttrue, ev_count, strOf_str, cntS_ch, revD_tup]
      · rw [List.append_assoc]; rfl
theorem times_eq (ns : List Int) (ks : List Nat) (hk : KS ks) (hl : ns.length < 10000) : S_times [tupI ns, .str ks] = .ok (lstI (tmsM 0 ns ks)) := by
  obtain ⟨t', y4, y5, h1⟩ := times_1 (some (tupI ns)) (some (.str ks)) ns ks 0 [] none none hk (by simp; omega)
  rw [R_times]
  have e : D.lst [] = lstI [] := rfl
  simp only [B_times, ev_seq, ev_nil, ev_set, ev_ret, ev_if, ev_for, forI_ok, ev_varS, ev_var0, ev_cst, ev_un, ev_bin, ev_eif, ev_tst, blD_bl, ev_tval, ev_cmp, ev_chn, ev_tnot, ev_tand, ev_tor, ev_anil, ev_acons, ev_args, ev_eand, ev_eor, notD_bl, addD_int, subD_int, negD_int, ltD_int, leD_int, gtD_int, geD_int, eqD_int, neD_int, ev_app, lstOf_lst, dctOf_dct, ev_par2, noX_ok, ev_unp, gtN_eq, gtT2, tup2, tup1, tup0, lst0, lst1, idx_pair0, idx_pair1, thn_next, thn_ret, thn_exc, thn_bad, res_next, res_ret, cnd_ok, env_ok, out_ok, bind_ok, forB_ok, setAll_cons, setAll_nil, List.set_cons_succ, List.set_cons_zero, ev_dset, ev_daug, ev_get2, getOr_int, dctOf_I, ev_comp, wipeE_cons, wipeE_nil, ev_slice, ev_onone, ev_osome, intOf_int, ev_ttrue, ev_count, strOf_str, cntS_ch, revD_tup, e, zip_is, h1, List.nil_append]
def zI (e : Int × Int) : D := .tup [.int e.1, .int e.2]
theorem zip_ll (xs ys : List Int) : zipD [lstI xs, lstI ys] = .ok ((xs.zip ys).map zI) := by
  show Res.ok _ = _
  congr 1
  have : ∀ (ls ks : List Int), ((ls.map D.int).zip (ks.map D.int)).map (fun e => D.tup [e.1, e.2]) = (ls.zip ks).map zI := by
    intro ls
    induction ls with
    | nil => intro ks; rfl
    | cons l ls ih =>
      intro ks
      cases ks with
      | nil => rfl
      | cons k ks =>
        rw [List.map_cons, List.map_cons, List.zip_cons_cons, List.map_cons, ih ks, List.zip_cons_cons, List.map_cons]
        rfl
  exact this xs ys
theorem tms_laps : ∀ (ns : List Int) (ks : List Nat) (t : Int), ((t :: tmsM t ns ks).zip (tmsM t ns ks)).map (fun e => e.2 - e.1) = lapsM t ns ks
  | [], ks, t => by simp [tmsM, lapsM]
  | n :: ns, [], t => by simp [tmsM, lapsM]
  | n :: ns, k :: ks, t => by
    have := tms_laps ns ks (if k = 108 then t + n else n)
    exact congrArg (((if k = 108 then t + n else n) - t) :: ·) this
theorem tms_len : ∀ (ns : List Int) (ks : List Nat) (t : Int), (tmsM t ns ks).length ≤ ns.length
  | [], ks, t => by simp [tmsM]
  | n :: ns, [], t => by simp [tmsM]
  | n :: ns, k :: ks, t => by
    have := tms_len ns ks (if k = 108 then t + n else n)
    show _ + 1 ≤ _ + 1
    omega
theorem laps_len : ∀ (ns : List Int) (ks : List Nat) (t : Int), (lapsM t ns ks).length ≤ ns.length
  | [], ks, t => by simp [lapsM]
  | n :: ns, [], t => by simp [lapsM]
  | n :: ns, k :: ks, t => by
    have := laps_len ns ks (if k = 108 then t + n else n)
    show _ + 1 ≤ _ + 1
    omega
theorem laps_eq (ns : List Int) (ks : List Nat) (hk : KS ks) (hl : ns.length < 10000) : S_laps [tupI ns, .str ks] = .ok (lstI (lapsM 0 ns ks)) := by
  have hc := compL_map (f := zI) (g := gtT [3, 4]) (c := tTrue) (e := eBin subD (eVar 4) (eVar 3)) (ρ := [some (tupI ns), some (.str ks), some (lstI (tmsM 0 ns ks)), none, none]) (fun _ => true) (fun e => D.int (e.2 - e.1)) ((0 :: tmsM 0 ns ks).zip (tmsM 0 ns ks)) fun e _ => ⟨_, rfl, rfl, fun _ => rfl⟩
  rw [List.filter_eq_self.mpr fun _ _ => rfl] at hc
  have e1 : ((0 :: tmsM 0 ns ks).zip (tmsM 0 ns ks)).map (fun e => D.int (e.2 - e.1)) = (lapsM 0 ns ks).map D.int := by
    rw [← tms_laps ns ks 0, List.map_map]
    rfl
  rw [e1] at hc
  have e2 : addD (.lst [.int 0]) (lstI (tmsM 0 ns ks)) = .ok (lstI (0 :: tmsM 0 ns ks)) := by
    have := tms_len ns ks 0
    show (if [D.int 0].length + ((tmsM 0 ns ks).map D.int).length ≤ LIM then Res.ok (D.lst ([D.int 0] ++ (tmsM 0 ns ks).map D.int)) else .bad) = _
    rw [List.length_map, if_pos (by rw [List.length_singleton]; unfold LIM; omega)]
    rfl
  have l1 := laps_len ns ks 0
  rw [R_laps]
  simp only [B_laps, C_laps_1, ev_seq, ev_nil, ev_set, ev_ret, ev_if, ev_for, forI_ok, ev_varS, ev_var0, ev_cst, ev_un, ev_bin, ev_eif, ev_tst, blD_bl, ev_tval, ev_cmp, ev_chn, ev_tnot, ev_tand, ev_tor, ev_anil, ev_acons, ev_args, ev_eand, ev_eor, notD_bl, addD_int, subD_int, negD_int, ltD_int, leD_int, gtD_int, geD_int, eqD_int, neD_int, ev_app, lstOf_lst, dctOf_dct, ev_par2, noX_ok, ev_unp, gtN_eq, gtT2, tup2, tup1, tup0, lst0, lst1, idx_pair0, idx_pair1, thn_next, thn_ret, thn_exc, thn_bad, res_next, res_ret, cnd_ok, env_ok, out_ok, bind_ok, forB_ok, setAll_cons, setAll_nil, List.set_cons_succ, List.set_cons_zero, ev_dset, ev_daug, ev_get2, getOr_int, dctOf_I, ev_comp, wipeE_cons, wipeE_nil, ev_slice, ev_onone, ev_osome, intOf_int, ev_ttrue, ev_count, strOf_str, cntS_ch, revD_tup, times_eq ns ks hk hl, e2, zip_ll, hc, lst_ok (f := D.int) (show (lapsM 0 ns ks).length ≤ 1000000 by omega)]
theorem fits_eq (lo hi : Int) (ns : List Int) (ks : List Nat) (hk : KS ks) (hl : ns.length < 10000) : S_fits [pr lo hi, tupI ns, .str ks] = .ok (.bl ((lapsM 0 ns ks).all (okR lo hi))) := by
  have i0 : idxD (pr lo hi) (.int 0) = .ok (.int lo) := rfl
  have i1 : idxD (pr lo hi) (.int 1) = .ok (.int hi) := rfl
  have hc := compL_map (f := D.int) (g := gtN 3) (c := tTrue) (e := eTst (tChn leD leD (eBin idxD (eVar 0) (eCst (.int 0))) (eVar 3) (eBin idxD (eVar 0) (eCst (.int 1))))) (ρ := [some (pr lo hi), some (tupI ns), some (.str ks), none]) (fun _ => true) (fun l => D.bl (okR lo hi l)) (lapsM 0 ns ks) fun l _ => ⟨[some (pr lo hi), some (tupI ns), some (.str ks), some (.int l)], rfl, rfl, fun _ => by simp only [ev_seq, ev_nil, ev_set, ev_ret, ev_if, ev_for, forI_ok, ev_varS, ev_var0, ev_cst, ev_un, ev_bin, ev_eif, ev_tst, blD_bl, ev_tval, ev_cmp, ev_chn, ev_tnot, ev_tand, ev_tor, ev_anil, ev_acons, ev_args, ev_eand, ev_eor, notD_bl, addD_int, subD_int, negD_int, ltD_int, leD_int, gtD_int, geD_int, eqD_int, neD_int, ev_app, lstOf_lst, dctOf_dct, ev_par2, noX_ok, ev_unp, gtN_eq, gtT2, tup2, tup1, tup0, lst0, lst1, idx_pair0, idx_pair1, thn_next, thn_ret, thn_exc, thn_bad, res_next, res_ret, cnd_ok, env_ok, out_ok, bind_ok, forB_ok, setAll_cons, setAll_nil, List.set_cons_succ, List.set_cons_zero, ev_dset, ev_daug, ev_get2, getOr_int, dctOf_I, ev_comp, wipeE_cons, wipeE_nil, ev_slice, ev_onone, ev_osome, intOf_int, ev_ttrue, ev_count, strOf_str, cntS_ch, revD_tup, i0, i1, okR_chn]⟩
  rw [List.filter_eq_self.mpr fun _ _ => rfl] at hc
  have l1 := laps_len ns ks 0
  have it : itemsD (lstI (lapsM 0 ns ks)) = .ok ((lapsM 0 ns ks).map D.int) := rfl
  have l2 : lstD ((lapsM 0 ns ks).map fun l => D.bl (okR lo hi l)) = .ok (.lst ((lapsM 0 ns ks).map fun l => D.bl (okR lo hi l))) := lst_ok (f := fun l : Int => D.bl (okR lo hi l)) (by omega)
  rw [R_fits]
  simp only [B_fits, C_fits_1, ev_seq, ev_nil, ev_set, ev_ret, ev_if, ev_for, forI_ok, ev_varS, ev_var0, ev_cst, ev_un, ev_bin, ev_eif, ev_tst, blD_bl, ev_tval, ev_cmp, ev_chn, ev_tnot, ev_tand, ev_tor, ev_anil, ev_acons, ev_args, ev_eand, ev_eor, notD_bl, addD_int, subD_int, negD_int, ltD_int, leD_int, gtD_int, geD_int, eqD_int, neD_int, ev_app, lstOf_lst, dctOf_dct, ev_par2, noX_ok, ev_unp, gtN_eq, gtT2, tup2, tup1, tup0, lst0, lst1, idx_pair0, idx_pair1, thn_next, thn_ret, thn_exc, thn_bad, res_next, res_ret, cnd_ok, env_ok, out_ok, bind_ok, forB_ok, setAll_cons, setAll_nil, List.set_cons_succ, List.set_cons_zero, ev_dset, ev_daug, ev_get2, getOr_int, dctOf_I, ev_comp, wipeE_cons, wipeE_nil, ev_slice, ev_onone, ev_osome, intOf_int, ev_ttrue, ev_count, strOf_str, cntS_ch, revD_tup, laps_eq ns ks hk hl, it, hc, l2, all_map]
theorem ra_skip (a b nm rs : Option D) (i : Nat) (tm nt : Option D) (s : List Nat) (hs : s.length = i + 1) (hl : s.length < 100000) : ∀ (ps : List (Nat × Int)) (g8 g9 : Option D),
    ∃ g8' g9', forL (gtT [8, 9]) B_reading_at_1 (ps.map stD) [a, b, nm, rs, tm, some (.str s), some (.int (i : Nat)), nt, g8, g9] = .next [a, b, nm, rs, tm, some (.str s), some (.int (i : Nat)), nt, g8', g9'] := by
  intro ps
  induction ps with
  | nil => exact fun g8 g9 => ⟨g8, g9, rfl⟩
  | cons e ps ih =>
    intro g8 g9
    obtain ⟨y8, y9, h1⟩ := ih (some (.str [e.1])) (some (.int e.2))
    refine ⟨y8, y9, (forL_step rfl ?_).trans h1⟩
    have d1 : decide (((s.length : Nat) : Int) = (i : Nat)) = false := decide_eq_false (by omega)
    simp only [B_reading_at_1, ev_seq, ev_nil, ev_set, ev_ret, ev_if, ev_for, forI_ok, ev_varS, ev_var0, ev_cst, ev_un, ev_bin, ev_eif, ev_tst, blD_bl, ev_tval, ev_cmp, ev_chn, ev_tnot, ev_tand, ev_tor, ev_anil, ev_acons, ev_args, ev_eand, ev_eor, notD_bl, addD_int, subD_int, negD_int, ltD_int, leD_int, gtD_int, geD_int, eqD_int, neD_int, ev_app, lstOf_lst, dctOf_dct, ev_par2, noX_ok, ev_unp, gtN_eq, gtT2, tup2, tup1, tup0, lst0, lst1, idx_pair0, idx_pair1, thn_next, thn_ret, thn_exc, thn_bad, res_next, res_ret, cnd_ok, env_ok, out_ok, bind_ok, forB_ok, setAll_cons, setAll_nil, List.set_cons_succ, List.set_cons_zero, ev_dset, ev_daug, ev_get2, getOr_int, dctOf_I, ev_comp, wipeE_cons, wipeE_nil, ev_slice, ev_onone, ev_osome, intOf_int, ev_ttrue, ev_count, strOf_str, cntS_ch, revD_tup, len_str (show s.length < 1000000 by omega), d1, Bool.false_eq_true, if_false]
theorem ra_1 (lo hi : Int) (ns : List Int) (i : Nat) (hi' : i < ns.length) (hn : ns.length < 900) (a b nt : Option D) (ks : List Nat) : ∀ (ps : List (Nat × Int)) (k : Nat) (t : Int) (s : List Nat) (g8 g9 : Option D), s.length = i → (∀ e ∈ ps, e.2 ∈ keys (fwAt lo hi ns (i + 1))) →
    (ps.flatMap fun e => (rd lo hi e.2 false (ns.drop (i + 1))).map (e.1 :: ·))[k]? = some ks →
    ∃ g8' g9' e k' ks', e ∈ ps ∧ ks = e.1 :: ks' ∧ (rd lo hi e.2 false (ns.drop (i + 1)))[k']? = some ks' ∧ forL (gtT [8, 9]) B_reading_at_1 (ps.map stD) [a, b, some (.int (k : Nat)), some (bwD lo hi ns), some (.int t), some (.str s), some (.int (i : Nat)), nt, g8, g9] = .next [a, b, some (.int (k' : Nat)), some (bwD lo hi ns), some (.int e.2), some (.str (s ++ [e.1])), some (.int (i : Nat)), nt, g8', g9'] := by
  intro ps
  induction ps with
  | nil => intro k t s g8 g9 _ _ h; simp at h
  | cons e ps ih =>
    intro k t s g8 g9 hs he h
    rw [List.flatMap_cons] at h
    have hk := he e (List.mem_cons_self ..)
    have hlen : ((rd lo hi e.2 false (ns.drop (i + 1))).map (e.1 :: ·)).length = cnt lo hi e.2 false (ns.drop (i + 1)) := by rw [List.length_map, rd_cnt]
    have e1 : (i : Int) + 1 = ((i + 1 : Nat) : Int) := rfl
    have d1 : decide (((s.length : Nat) : Int) = (i : Nat)) = true := decide_eq_true (by omega)
    by_cases hc : k < cnt lo hi e.2 false (ns.drop (i + 1))
    · rw [List.getElem?_append_left (by omega), List.getElem?_map] at h
      obtain ⟨ks', h2, h3⟩ := Option.map_eq_some_iff.mp h
      obtain ⟨y8, y9, h4⟩ := ra_skip a b (some (.int (k : Nat))) (some (bwD lo hi ns)) i (some (.int e.2)) nt (s ++ [e.1]) (by rw [List.length_append, hs]; rfl) (by rw [List.length_append, hs, List.length_singleton]; omega) ps (some (.str [e.1])) (some (.int e.2))
      refine ⟨y8, y9, e, k, ks', List.mem_cons_self .., h3.symm, h2, (forL_step rfl ?_).trans h4⟩
      have d2 : decide (((k : Nat) : Int) < (cnt lo hi e.2 false (ns.drop (i + 1)) : Nat)) = true := decide_eq_true (by omega)
      simp only [B_reading_at_1, ev_seq, ev_nil, ev_set, ev_ret, ev_if, ev_for, forI_ok, ev_varS, ev_var0, ev_cst, ev_un, ev_bin, ev_eif, ev_tst, blD_bl, ev_tval, ev_cmp, ev_chn, ev_tnot, ev_tand, ev_tor, ev_anil, ev_acons, ev_args, ev_eand, ev_eor, notD_bl, addD_int, subD_int, negD_int, ltD_int, leD_int, gtD_int, geD_int, eqD_int, neD_int, ev_app, lstOf_lst, dctOf_dct, ev_par2, noX_ok, ev_unp, gtN_eq, gtT2, tup2, tup1, tup0, lst0, lst1, idx_pair0, idx_pair1, thn_next, thn_ret, thn_exc, thn_bad, res_next, res_ret, cnd_ok, env_ok, out_ok, bind_ok, forB_ok, setAll_cons, setAll_nil, List.set_cons_succ, List.set_cons_zero, ev_dset, ev_daug, ev_get2, getOr_int, dctOf_I, ev_comp, wipeE_cons, wipeE_nil, ev_slice, ev_onone, ev_osome, intOf_int, ev_ttrue, ev_count, strOf_str, cntS_ch, revD_tup, len_str (show s.length < 1000000 by omega), d1, if_true, e1, bw_idx (show i + 1 ≤ ns.length by omega), idx_bw (show i + 1 ≤ ns.length by omega) hk, isF_succ, d2, add_str (show s.length + [e.1].length ≤ 1000000 by rw [List.length_singleton]; omega)]
    · rw [List.getElem?_append_right (by omega), hlen] at h
      obtain ⟨y8, y9, e', k', ks', h2, h3, h4, h5⟩ := ih (k - cnt lo hi e.2 false (ns.drop (i + 1))) t s (some (.str [e.1])) (some (.int e.2)) hs (fun x hx => he x (List.mem_cons_of_mem _ hx)) h
      refine ⟨y8, y9, e', k', ks', List.mem_cons_of_mem _ h2, h3, h4, (forL_step rfl ?_).trans h5⟩
      have d2 : decide (((k : Nat) : Int) < (cnt lo hi e.2 false (ns.drop (i + 1)) : Nat)) = false := decide_eq_false (by omega)
      have e2 : ((k : Nat) : Int) - (cnt lo hi e.2 false (ns.drop (i + 1)) : Nat) = ((k - cnt lo hi e.2 false (ns.drop (i + 1)) : Nat) : Int) := by omega
      simp only [B_reading_at_1, ev_seq, ev_nil, ev_set, ev_ret, ev_if, ev_for, forI_ok, ev_varS, ev_var0, ev_cst, ev_un, ev_bin, ev_eif, ev_tst, blD_bl, ev_tval, ev_cmp, ev_chn, ev_tnot, ev_tand, ev_tor, ev_anil, ev_acons, ev_args, ev_eand, ev_eor, notD_bl, addD_int, subD_int, negD_int, ltD_int, leD_int, gtD_int, geD_int, eqD_int, neD_int, ev_app, lstOf_lst, dctOf_dct, ev_par2, noX_ok, ev_unp, gtN_eq, gtT2, tup2, tup1, tup0, lst0, lst1, idx_pair0, idx_pair1, thn_next, thn_ret, thn_exc, thn_bad, res_next, res_ret, cnd_ok, env_ok, out_ok, bind_ok, forB_ok, setAll_cons, setAll_nil, List.set_cons_succ, List.set_cons_zero, ev_dset, ev_daug, ev_get2, getOr_int, dctOf_I, ev_comp, wipeE_cons, wipeE_nil, ev_slice, ev_onone, ev_osome, intOf_int, ev_ttrue, ev_count, strOf_str, cntS_ch, revD_tup, len_str (show s.length < 1000000 by omega), d1, if_true, e1, bw_idx (show i + 1 ≤ ns.length by omega), idx_bw (show i + 1 ≤ ns.length by omega) hk, isF_succ, d2, Bool.false_eq_true, if_false, e2]
theorem ra_2 (lo hi : Int) (ns : List Int) (hn : ns.length < 900) : ∀ (m i : Nat) (t : Int) (k : Nat) (s ks : List Nat) (g6 g7 g8 g9 : Option D), i + m = ns.length → s.length = i → t ∈ keys (fwAt lo hi ns i) → (rd lo hi t (isF true i) (ns.drop i))[k]? = some ks →
    ∃ n' t' g6' g7' g8' g9', forL (gtT [6, 7]) B_reading_at_2 ((enI i (ns.drop i)).map (enD D.int)) [some (pr lo hi), some (tupI ns), some (.int (k : Nat)), some (bwD lo hi ns), some (.int t), some (.str s), g6, g7, g8, g9] = .next [some (pr lo hi), some (tupI ns), n', some (bwD lo hi ns), t', some (.str (s ++ ks)), g6', g7', g8', g9'] := by
  intro m
  induction m with
  | zero =>
    intro i t k s ks g6 g7 g8 g9 h hs ht hk
    rw [show ns.drop i = [] from List.drop_eq_nil_of_le (by omega)] at hk ⊢
    have : ks = [] := by
      unfold rd at hk
      cases k with
      | zero => simpa using hk.symm
      | succ k => simp at hk
    rw [this, List.append_nil]
    exact ⟨_, _, g6, g7, g8, g9, rfl⟩
  | succ m ih =>
    intro i t k s ks g6 g7 g8 g9 h hs ht hk
    have hi' : i < ns.length := by omega
    rw [drop_dg hi'] at hk ⊢
    obtain ⟨x8, x9, e, k', ks', e1, e2, e3, f1⟩ := ra_1 lo hi ns i hi' hn (some (pr lo hi)) (some (tupI ns)) (some (.int (dg ns i))) ks (stepsM lo hi t (dg ns i) (isF true i)) k t s g8 g9 hs (fun e he => fwAt_step hi' ht he) hk
    obtain ⟨n', t', y6, y7, y8, y9, f2⟩ := ih (i + 1) e.2 k' (s ++ [e.1]) ks' (some (.int (i : Nat))) (some (.int (dg ns i))) x8 x9 (by omega) (by rw [List.length_append, hs]; rfl) (fwAt_step hi' ht e1) (by rw [isF_succ]; exact e3)
    refine ⟨n', t', y6, y7, y8, y9, (forL_step rfl ?_).trans (f2.trans ?_)⟩
    · simp only [B_reading_at_2, ev_seq, ev_nil, ev_set, ev_ret, ev_if, ev_for, forI_ok, ev_varS, ev_var0, ev_cst, ev_un, ev_bin, ev_eif, ev_tst, blD_bl, ev_tval, ev_cmp, ev_chn, ev_tnot, ev_tand, ev_tor, ev_anil, ev_acons, ev_args, ev_eand, ev_eor, notD_bl, addD_int, subD_int, negD_int, ltD_int, leD_int, gtD_int, geD_int, eqD_int, neD_int, ev_app, lstOf_lst, dctOf_dct, ev_par2, noX_ok, ev_unp, gtN_eq, gtT2, tup2, tup1, tup0, lst0, lst1, idx_pair0, idx_pair1, thn_next, thn_ret, thn_exc, thn_bad, res_next, res_ret, cnd_ok, env_ok, out_ok, bind_ok, forB_ok, setAll_cons, setAll_nil, List.set_cons_succ, List.set_cons_zero, ev_dset, ev_daug, ev_get2, getOr_int, dctOf_I, ev_comp, wipeE_cons, wipeE_nil, ev_slice, ev_onone, ev_osome, intOf_int, ev_ttrue, ev_count, strOf_str, cntS_ch, revD_tup, isF_dec, steps_eq, itemsD, f1]
    · rw [e2, List.append_assoc]; rfl
theorem zero_key (lo hi : Int) (ns : List Int) : (0 : Int) ∈ keys (fwAt lo hi ns 0) := by
  have e2 : fwAt lo hi ns 0 = [(0, 1)] := by
    unfold fwAt
    rw [fwRows_zero]
    rfl
  rw [e2]
  exact List.mem_singleton.mpr rfl
theorem reading_some {lo hi : Int} {ns : List Int} (hn : ns.length < 900) {k : Nat} {ks : List Nat} (h : (rd lo hi 0 true ns)[k]? = some ks) : S_reading_at [pr lo hi, tupI ns, .int (k : Nat)] = .ok (.str ks) := by
  obtain ⟨n', t', y6, y7, y8, y9, f⟩ := ra_2 lo hi ns hn ns.length 0 0 k [] ks none none none none (by omega) rfl (zero_key lo hi ns) h
  rw [List.drop_zero, List.nil_append] at f
  have hk : k < (rd lo hi 0 true ns).length := (List.getElem?_eq_some_iff.mp h).1
  rw [rd_cnt] at hk
  have d1 : decide ((0 : Int) ≤ (k : Nat)) = true := decide_eq_true (by omega)
  have d2 : decide (((k : Nat) : Int) < (cnt lo hi 0 true ns : Nat)) = true := decide_eq_true (by omega)
  have h1 := bw00 lo hi ns
  rw [R_reading_at]
  simp only [B_reading_at, ev_seq, ev_nil, ev_set, ev_ret, ev_if, ev_for, forI_ok, ev_varS, ev_var0, ev_cst, ev_un, ev_bin, ev_eif, ev_tst, blD_bl, ev_tval, ev_cmp, ev_chn, ev_tnot, ev_tand, ev_tor, ev_anil, ev_acons, ev_args, ev_eand, ev_eor, notD_bl, addD_int, subD_int, negD_int, ltD_int, leD_int, gtD_int, geD_int, eqD_int, neD_int, ev_app, lstOf_lst, dctOf_dct, ev_par2, noX_ok, ev_unp, gtN_eq, gtT2, tup2, tup1, tup0, lst0, lst1, idx_pair0, idx_pair1, thn_next, thn_ret, thn_exc, thn_bad, res_next, res_ret, cnd_ok, env_ok, out_ok, bind_ok, forB_ok, setAll_cons, setAll_nil, List.set_cons_succ, List.set_cons_zero, ev_dset, ev_daug, ev_get2, getOr_int, dctOf_I, ev_comp, wipeE_cons, wipeE_nil, ev_slice, ev_onone, ev_osome, intOf_int, ev_ttrue, ev_count, strOf_str, cntS_ch, revD_tup, backward_eq lo hi ns hn, h1, d1, d2, if_true, Bool.not_true, Bool.false_eq_true, if_false, enum_tup, f]
theorem reading_none {lo hi : Int} {ns : List Int} (hn : ns.length < 900) {x : Int} (h : ¬ (0 ≤ x ∧ x < ((rd lo hi 0 true ns).length : Nat))) : S_reading_at [pr lo hi, tupI ns, .int x] = .ok .non := by
  have h1 := bw00 lo hi ns
  rw [rd_cnt] at h
  rw [R_reading_at]
  by_cases h0 : (0 : Int) ≤ x
  · have d2 : decide (x < (cnt lo hi 0 true ns : Nat)) = false := decide_eq_false (by omega)
    simp only [B_reading_at, ev_seq, ev_nil, ev_set, ev_ret, ev_if, ev_for, forI_ok, ev_varS, ev_var0, ev_cst, ev_un, ev_bin, ev_eif, ev_tst, blD_bl, ev_tval, ev_cmp, ev_chn, ev_tnot, ev_tand, ev_tor, ev_anil, ev_acons, ev_args, ev_eand, ev_eor, notD_bl, addD_int, subD_int, negD_int, ltD_int, leD_int, gtD_int, geD_int, eqD_int, neD_int, ev_app, lstOf_lst, dctOf_dct, ev_par2, noX_ok, ev_unp, gtN_eq, gtT2, tup2, tup1, tup0, lst0, lst1, idx_pair0, idx_pair1, thn_next, thn_ret, thn_exc, thn_bad, res_next, res_ret, cnd_ok, env_ok, out_ok, bind_ok, forB_ok, setAll_cons, setAll_nil, List.set_cons_succ, List.set_cons_zero, ev_dset, ev_daug, ev_get2, getOr_int, dctOf_I, ev_comp, wipeE_cons, wipeE_nil, ev_slice, ev_onone, ev_osome, intOf_int, ev_ttrue, ev_count, strOf_str, cntS_ch, revD_tup, backward_eq lo hi ns hn, h1, decide_eq_true h0, d2, if_true, Bool.not_false]
  · simp only [B_reading_at, ev_seq, ev_nil, ev_set, ev_ret, ev_if, ev_for, forI_ok, ev_varS, ev_var0, ev_cst, ev_un, ev_bin, ev_eif, ev_tst, blD_bl, ev_tval, ev_cmp, ev_chn, ev_tnot, ev_tand, ev_tor, ev_anil, ev_acons, ev_args, ev_eand, ev_eor, notD_bl, addD_int, subD_int, negD_int, ltD_int, leD_int, gtD_int, geD_int, eqD_int, neD_int, ev_app, lstOf_lst, dctOf_dct, ev_par2, noX_ok, ev_unp, gtN_eq, gtT2, tup2, tup1, tup0, lst0, lst1, idx_pair0, idx_pair1, thn_next, thn_ret, thn_exc, thn_bad, res_next, res_ret, cnd_ok, env_ok, out_ok, bind_ok, forB_ok, setAll_cons, setAll_nil, List.set_cons_succ, List.set_cons_zero, ev_dset, ev_daug, ev_get2, getOr_int, dctOf_I, ev_comp, wipeE_cons, wipeE_nil, ev_slice, ev_onone, ev_osome, intOf_int, ev_ttrue, ev_count, strOf_str, cntS_ch, revD_tup, backward_eq lo hi ns hn, h1, decide_eq_false h0, if_true, Bool.false_eq_true, if_false, Bool.not_false]
theorem nb_1 (lo hi : Int) (ns : List Int) (z : List Nat) (hz : KS z) (i : Nat) (hi' : i < ns.length) (hzi : i < z.length) (hzl : z.length < 100000) (a b nt tm fd : Option D) (t : Int) (f : Bool) (n : Int) (he : ∀ e ∈ stepsM lo hi t n f, e.2 ∈ keys (fwAt lo hi ns (i + 1))) (g10 g11 : Option D) :
    ∃ (bb : Int) (af : D) (g10' g11' : Option D), forL (gtT [10, 11]) B_number_of_1 ((stepsM lo hi t n f).map stD) [a, b, some (.str z), some (bwD lo hi ns), tm, fd, some (.int (i : Nat)), nt, some (.int 0), some .non, g10, g11] = .next [a, b, some (.str z), some (bwD lo hi ns), tm, fd, some (.int (i : Nat)), nt, some (.int bb), some af, g10', g11'] ∧
      ((∃ (e : Nat × Int) (j0 : Nat), e ∈ stepsM lo hi t n f ∧ e.1 = z[i] ∧ af = .int e.2 ∧ bb = (j0 : Nat) ∧ ∀ (j : Nat) (ks : List Nat), (rd lo hi e.2 false (ns.drop (i + 1)))[j]? = some ks → ((stepsM lo hi t n f).flatMap fun e => (rd lo hi e.2 false (ns.drop (i + 1))).map (e.1 :: ·))[j0 + j]? = some (e.1 :: ks)) ∨ (af = .non ∧ ∀ e ∈ stepsM lo hi t n f, e.1 ≠ z[i])) := by
  have hc := hz z[i] (List.getElem_mem hzi)
  have ix : idxD (.str z) (.int (i : Nat)) = .ok (.str [z[i]]) := idx_ch (by omega) (List.getElem?_eq_getElem hzi)
  have e1 : (i : Int) + 1 = ((i + 1 : Nat) : Int) := rfl
  have en : isND .non .non = .ok true := id rfl
  have ei : ∀ x : Int, isND (.int x) .non = .ok false := fun _ => id rfl
  have q1 : eqD (.str [108]) (.str [z[i]]) = .ok (decide (108 = z[i])) := eq_ch 108 z[i] (.inl rfl) hc
  have q2 : eqD (.str [116]) (.str [z[i]]) = .ok (decide (116 = z[i])) := eq_ch 116 z[i] (.inr rfl) hc
  have hst : ∀ (c : Nat) (x : Int), stD (c, x) = .tup [.str [c], .int x] := fun _ _ => rfl
  generalize hci : z[i] = c at hc ix q1 q2
  unfold stepsM at he ⊢
  by_cases o1 : okR lo hi n = true
  · by_cases o2 : (!f && okR lo hi (n - t)) = true
    · rw [if_pos o1, if_pos o2] at he ⊢
      have k1 : idxD (dctI (bwRow lo hi ns (i + 1) (fwAt lo hi ns (i + 1)))) (.int (t + n)) = .ok (.int (cnt lo hi (t + n) false (ns.drop (i + 1)) : Nat)) := by
        have := idx_bw (show i + 1 ≤ ns.length by omega) (he (108, t + n) (by simp))
        rw [isF_succ] at this
        exact this
      rcases hc with h | h
      · subst h
        refine ⟨0, .int (t + n), some (.str [116]), some (.int n), ?_, .inl ⟨(108, t + n), 0, by simp, rfl, rfl, rfl, fun j ks hj => ?_⟩⟩
        · simp only [List.singleton_append, List.map_cons, List.map_nil, hst]
          rw [forL_cons]
          simp only [B_number_of_1, ev_seq, ev_nil, ev_set, ev_ret, ev_if, ev_for, forI_ok, ev_varS, ev_var0, ev_cst, ev_un, ev_bin, ev_eif, ev_tst, blD_bl, ev_tval, ev_cmp, ev_chn, ev_tnot, ev_tand, ev_tor, ev_anil, ev_acons, ev_args, ev_eand, ev_eor, notD_bl, addD_int, subD_int, negD_int, ltD_int, leD_int, gtD_int, geD_int, eqD_int, neD_int, ev_app, lstOf_lst, dctOf_dct, ev_par2, noX_ok, ev_unp, gtN_eq, gtT2, tup2, tup1, tup0, lst0, lst1, idx_pair0, idx_pair1, thn_next, thn_ret, thn_exc, thn_bad, res_next, res_ret, cnd_ok, env_ok, out_ok, bind_ok, forB_ok, setAll_cons, setAll_nil, List.set_cons_succ, List.set_cons_zero, ev_dset, ev_daug, ev_get2, getOr_int, dctOf_I, ev_comp, wipeE_cons, wipeE_nil, ev_slice, ev_onone, ev_osome, intOf_int, ev_ttrue, ev_count, strOf_str, cntS_ch, revD_tup, ix, q1, decide_true, if_true]
          rw [forL_cons]
          simp only [B_number_of_1, ev_seq, ev_nil, ev_set, ev_ret, ev_if, ev_for, forI_ok, ev_varS, ev_var0, ev_cst, ev_un, ev_bin, ev_eif, ev_tst, blD_bl, ev_tval, ev_cmp, ev_chn, ev_tnot, ev_tand, ev_tor, ev_anil, ev_acons, ev_args, ev_eand, ev_eor, notD_bl, addD_int, subD_int, negD_int, ltD_int, leD_int, gtD_int, geD_int, eqD_int, neD_int, ev_app, lstOf_lst, dctOf_dct, ev_par2, noX_ok, ev_unp, gtN_eq, gtT2, tup2, tup1, tup0, lst0, lst1, idx_pair0, idx_pair1, thn_next, thn_ret, thn_exc, thn_bad, res_next, res_ret, cnd_ok, env_ok, out_ok, bind_ok, forB_ok, setAll_cons, setAll_nil, List.set_cons_succ, List.set_cons_zero, ev_dset, ev_daug, ev_get2, getOr_int, dctOf_I, ev_comp, wipeE_cons, wipeE_nil, ev_slice, ev_onone, ev_osome, intOf_int, ev_ttrue, ev_count, strOf_str, cntS_ch, revD_tup, ix, q2, show decide ((116 : Nat) = 108) = false from rfl, Bool.false_eq_true, if_false, ei, forL_nil]
        · rw [Nat.zero_add, List.singleton_append, List.flatMap_cons, List.getElem?_append_left (by rw [List.length_map]; exact (List.getElem?_eq_some_iff.mp hj).1), List.getElem?_map, hj]
          rfl
      · subst h
        refine ⟨(cnt lo hi (t + n) false (ns.drop (i + 1)) : Nat), .int n, some (.str [116]), some (.int n), ?_, .inl ⟨(116, n), cnt lo hi (t + n) false (ns.drop (i + 1)), by simp, rfl, rfl, rfl, fun j ks hj => ?_⟩⟩
        · simp only [List.singleton_append, List.map_cons, List.map_nil, hst]
          rw [forL_cons]
          simp only [B_number_of_1, ev_seq, ev_nil, ev_set, ev_ret, ev_if, ev_for, forI_ok, ev_varS, ev_var0, ev_cst, ev_un, ev_bin, ev_eif, ev_tst, blD_bl, ev_tval, ev_cmp, ev_chn, ev_tnot, ev_tand, ev_tor, ev_anil, ev_acons, ev_args, ev_eand, ev_eor, notD_bl, addD_int, subD_int, negD_int, ltD_int, leD_int, gtD_int, geD_int, eqD_int, neD_int, ev_app, lstOf_lst, dctOf_dct, ev_par2, noX_ok, ev_unp, gtN_eq, gtT2, tup2, tup1, tup0, lst0, lst1, idx_pair0, idx_pair1, thn_next, thn_ret, thn_exc, thn_bad, res_next, res_ret, cnd_ok, env_ok, out_ok, bind_ok, forB_ok, setAll_cons, setAll_nil, List.set_cons_succ, List.set_cons_zero, ev_dset, ev_daug, ev_get2, getOr_int, dctOf_I, ev_comp, wipeE_cons, wipeE_nil, ev_slice, ev_onone, ev_osome, intOf_int, ev_ttrue, ev_count, strOf_str, cntS_ch, revD_tup, ix, q1, show decide ((108 : Nat) = 116) = false from rfl, Bool.false_eq_true, if_false, en, if_true, e1, bw_idx (show i + 1 ≤ ns.length by omega), k1]
          rw [forL_cons]
          simp only [B_number_of_1, ev_seq, ev_nil, ev_set, ev_ret, ev_if, ev_for, forI_ok, ev_varS, ev_var0, ev_cst, ev_un, ev_bin, ev_eif, ev_tst, blD_bl, ev_tval, ev_cmp, ev_chn, ev_tnot, ev_tand, ev_tor, ev_anil, ev_acons, ev_args, ev_eand, ev_eor, notD_bl, addD_int, subD_int, negD_int, ltD_int, leD_int, gtD_int, geD_int, eqD_int, neD_int, ev_app, lstOf_lst, dctOf_dct, ev_par2, noX_ok, ev_unp, gtN_eq, gtT2, tup2, tup1, tup0, lst0, lst1, idx_pair0, idx_pair1, thn_next, thn_ret, thn_exc, thn_bad, res_next, res_ret, cnd_ok, env_ok, out_ok, bind_ok, forB_ok, setAll_cons, setAll_nil, List.set_cons_succ, List.set_cons_zero, ev_dset, ev_daug, ev_get2, getOr_int, dctOf_I, ev_comp, wipeE_cons, wipeE_nil, ev_slice, ev_onone, ev_osome, intOf_int, ev_ttrue, ev_count, strOf_str, cntS_ch, revD_tup, ix, q2, decide_true, if_true, forL_nil]
        · rw [List.singleton_append, List.flatMap_cons, List.flatMap_cons, List.flatMap_nil, List.append_nil, List.getElem?_append_right (by rw [List.length_map, rd_cnt]; dsimp only; omega), List.length_map, rd_cnt]
          dsimp only
          rw [Nat.add_sub_cancel_left, List.getElem?_map, hj]
          rfl
    · rw [if_pos o1, if_neg o2] at he ⊢
      have k1 : idxD (dctI (bwRow lo hi ns (i + 1) (fwAt lo hi ns (i + 1)))) (.int (t + n)) = .ok (.int (cnt lo hi (t + n) false (ns.drop (i + 1)) : Nat)) := by
        have := idx_bw (show i + 1 ≤ ns.length by omega) (he (108, t + n) (by simp))
        rw [isF_succ] at this
        exact this
      rcases hc with h | h
      · subst h
        refine ⟨0, .int (t + n), some (.str [108]), some (.int (t + n)), ?_, .inl ⟨(108, t + n), 0, by simp, rfl, rfl, rfl, fun j ks hj => ?_⟩⟩
        · simp only [List.append_nil, List.map_cons, List.map_nil, hst]
          rw [forL_cons]
          simp only [B_number_of_1, ev_seq, ev_nil, ev_set, ev_ret, ev_if, ev_for, forI_ok, ev_varS, ev_var0, ev_cst, ev_un, ev_bin, ev_eif, ev_tst, blD_bl, ev_tval, ev_cmp, ev_chn, ev_tnot, ev_tand, ev_tor, ev_anil, ev_acons, ev_args, ev_eand, ev_eor, notD_bl, addD_int, subD_int, negD_int, ltD_int, leD_int, gtD_int, geD_int, eqD_int, neD_int, ev_app, lstOf_lst, dctOf_dct, ev_par2, noX_ok, ev_unp, gtN_eq, gtT2, tup2, tup1, tup0, lst0, lst1, idx_pair0, idx_pair1, thn_next, thn_ret, thn_exc, thn_bad, res_next, res_ret, cnd_ok, env_ok, out_ok, bind_ok, forB_ok, setAll_cons, setAll_nil, List.set_cons_succ, List.set_cons_zero, ev_dset, ev_daug, ev_get2, getOr_int, dctOf_I, ev_comp, wipeE_cons, wipeE_nil, ev_slice, ev_onone, ev_osome, intOf_int, ev_ttrue, ev_count, strOf_str, cntS_ch, revD_tup, ix, q1, decide_true, if_true, forL_nil]
        · rw [Nat.zero_add, List.append_nil, List.flatMap_cons, List.getElem?_append_left (by rw [List.length_map]; exact (List.getElem?_eq_some_iff.mp hj).1), List.getElem?_map, hj]
          rfl
      · subst h
        refine ⟨(cnt lo hi (t + n) false (ns.drop (i + 1)) : Nat), .non, some (.str [108]), some (.int (t + n)), ?_, .inr ⟨rfl, fun e he => by
          simp only [List.append_nil, List.mem_singleton] at he
          rw [he]
          show (108 : Nat) ≠ 116
          decide⟩⟩
        simp only [List.append_nil, List.map_cons, List.map_nil, hst]
        rw [forL_cons]
        simp only [B_number_of_1, ev_seq, ev_nil, ev_set, ev_ret, ev_if, ev_for, forI_ok, ev_varS, ev_var0, ev_cst, ev_un, ev_bin, ev_eif, ev_tst, blD_bl, ev_tval, ev_cmp, ev_chn, ev_tnot, ev_tand, ev_tor, ev_anil, ev_acons, ev_args, ev_eand, ev_eor, notD_bl, addD_int, subD_int, negD_int, ltD_int, leD_int, gtD_int, geD_int, eqD_int, neD_int, ev_app, lstOf_lst, dctOf_dct, ev_par2, noX_ok, ev_unp, gtN_eq, gtT2, tup2, tup1, tup0, lst0, lst1, idx_pair0, idx_pair1, thn_next, thn_ret, thn_exc, thn_bad, res_next, res_ret, cnd_ok, env_ok, out_ok, bind_ok, forB_ok, setAll_cons, setAll_nil, List.set_cons_succ, List.set_cons_zero, ev_dset, ev_daug, ev_get2, getOr_int, dctOf_I, ev_comp, wipeE_cons, wipeE_nil, ev_slice, ev_onone, ev_osome, intOf_int, ev_ttrue, ev_count, strOf_str, cntS_ch, revD_tup, ix, q1, show decide ((108 : Nat) = 116) = false from rfl, Bool.false_eq_true, if_false, en, if_true, e1, bw_idx (show i + 1 ≤ ns.length by omega), k1, forL_nil]
  · by_cases o2 : (!f && okR lo hi (n - t)) = true
    · rw [if_neg o1, if_pos o2] at he ⊢
      have k1 : idxD (dctI (bwRow lo hi ns (i + 1) (fwAt lo hi ns (i + 1)))) (.int n) = .ok (.int (cnt lo hi n false (ns.drop (i + 1)) : Nat)) := by
        have := idx_bw (show i + 1 ≤ ns.length by omega) (he (116, n) (by simp))
        rw [isF_succ] at this
        exact this
      rcases hc with h | h
      · subst h
        refine ⟨(cnt lo hi n false (ns.drop (i + 1)) : Nat), .non, some (.str [116]), some (.int n), ?_, .inr ⟨rfl, fun e he => by
          simp only [List.nil_append, List.mem_singleton] at he
          rw [he]
          show (116 : Nat) ≠ 108
          decide⟩⟩
        simp only [List.nil_append, List.map_cons, List.map_nil, hst]
        rw [forL_cons]
        simp only [B_number_of_1, ev_seq, ev_nil, ev_set, ev_ret, ev_if, ev_for, forI_ok, ev_varS, ev_var0, ev_cst, ev_un, ev_bin, ev_eif, ev_tst, blD_bl, ev_tval, ev_cmp, ev_chn, ev_tnot, ev_tand, ev_tor, ev_anil, ev_acons, ev_args, ev_eand, ev_eor, notD_bl, addD_int, subD_int, negD_int, ltD_int, leD_int, gtD_int, geD_int, eqD_int, neD_int, ev_app, lstOf_lst, dctOf_dct, ev_par2, noX_ok, ev_unp, gtN_eq, gtT2, tup2, tup1, tup0, lst0, lst1, idx_pair0, idx_pair1, thn_next, thn_ret, thn_exc, thn_bad, res_next, res_ret, cnd_ok, env_ok, out_ok, bind_ok, forB_ok, setAll_cons, setAll_nil, List.set_cons_succ, List.set_cons_zero, ev_dset, ev_daug, ev_get2, getOr_int, dctOf_I, ev_comp, wipeE_cons, wipeE_nil, ev_slice, ev_onone, ev_osome, intOf_int, ev_ttrue, ev_count, strOf_str, cntS_ch, revD_tup, ix, q2, show decide ((116 : Nat) = 108) = false from rfl, Bool.false_eq_true, if_false, en, if_true, e1, bw_idx (show i + 1 ≤ ns.length by omega), k1, forL_nil]
      · subst h
        refine ⟨0, .int n, some (.str [116]), some (.int n), ?_, .inl ⟨(116, n), 0, by simp, rfl, rfl, rfl, fun j ks hj => ?_⟩⟩
        · simp only [List.nil_append, List.map_cons, List.map_nil, hst]
          rw [forL_cons]
          simp only [B_number_of_1, ev_seq, ev_nil, ev_set, ev_ret, ev_if, ev_for, forI_ok, ev_varS, ev_var0, ev_cst, ev_un, ev_bin, ev_eif, ev_tst, blD_bl, ev_tval, ev_cmp, ev_chn, ev_tnot, ev_tand, ev_tor, ev_anil, ev_acons, ev_args, ev_eand, ev_eor, notD_bl, addD_int, subD_int, negD_int, ltD_int, leD_int, gtD_int, geD_int, eqD_int, neD_int, ev_app, lstOf_lst, dctOf_dct, ev_par2, noX_ok, ev_unp, gtN_eq, gtT2, tup2, tup1, tup0, lst0, lst1, idx_pair0, idx_pair1, thn_next, thn_ret, thn_exc, thn_bad, res_next, res_ret, cnd_ok, env_ok, out_ok, bind_ok, forB_ok, setAll_cons, setAll_nil, List.set_cons_succ, List.set_cons_zero, ev_dset, ev_daug, ev_get2, getOr_int, dctOf_I, ev_comp, wipeE_cons, wipeE_nil, ev_slice, ev_onone, ev_osome, intOf_int, ev_ttrue, ev_count, strOf_str, cntS_ch, revD_tup, ix, q2, decide_true, if_true, forL_nil]
        · rw [Nat.zero_add, List.nil_append, List.flatMap_cons, List.getElem?_append_left (by rw [List.length_map]; exact (List.getElem?_eq_some_iff.mp hj).1), List.getElem?_map, hj]
          rfl
    · rw [if_neg o1, if_neg o2] at he ⊢
      exact ⟨0, .non, g10, g11, rfl, .inr ⟨rfl, fun e he => by simp at he⟩⟩
theorem nb_2 (lo hi : Int) (ns : List Int) (hn : ns.length < 900) (z : List Nat) (hz : KS z) (hzl : z.length = ns.length) : ∀ (m i : Nat) (t : Int) (F : Int) (g6 g7 g8 g9 g10 g11 : Option D), i + m = ns.length → t ∈ keys (fwAt lo hi ns i) →
    (∃ (j : Nat) (t' g6' g7' g8' g9' g10' g11' : Option D), (rd lo hi t (isF true i) (ns.drop i))[j]? = some (z.drop i) ∧ forL (gtT [6, 7]) B_number_of_2 ((enI i (ns.drop i)).map (enD D.int)) [some (pr lo hi), some (tupI ns), some (.str z), some (bwD lo hi ns), some (.int t), some (.int F), g6, g7, g8, g9, g10, g11] = .next [some (pr lo hi), some (tupI ns), some (.str z), some (bwD lo hi ns), t', some (.int (F + (j : Nat))), g6', g7', g8', g9', g10', g11']) ∨
    (z.drop i ∉ rd lo hi t (isF true i) (ns.drop i) ∧ forL (gtT [6, 7]) B_number_of_2 ((enI i (ns.drop i)).map (enD D.int)) [some (pr lo hi), some (tupI ns), some (.str z), some (bwD lo hi ns), some (.int t), some (.int F), g6, g7, g8, g9, g10, g11] = .ret .non) := by
  intro m
  induction m with
  | zero =>
    intro i t F g6 g7 g8 g9 g10 g11 h ht
    rw [show ns.drop i = [] from List.drop_eq_nil_of_le (by omega), show z.drop i = [] from List.drop_eq_nil_of_le (by omega)]
    exact .inl ⟨0, _, g6, g7, g8, g9, g10, g11, rfl, by rw [show F + ((0 : Nat) : Int) = F by omega]; rfl⟩
  | succ m ih =>
    intro i t F g6 g7 g8 g9 g10 g11 h ht
    have hi' : i < ns.length := by omega
    have hzi : i < z.length := by omega
    obtain ⟨bb, af, x10, x11, f1, hx⟩ := nb_1 lo hi ns z hz i hi' hzi (by omega) (some (pr lo hi)) (some (tupI ns)) (some (.int (dg ns i))) (some (.int t)) (some (.int F)) t (isF true i) (dg ns i) (fun e he => fwAt_step hi' ht he) g10 g11
    have hzd : z.drop i = z[i] :: z.drop (i + 1) := List.drop_eq_getElem_cons hzi
    rw [drop_dg hi', hzd]
    have en : isND .non .non = .ok true := id rfl
    have ei : ∀ x : Int, isND (.int x) .non = .ok false := fun _ => id rfl
    rcases hx with ⟨e, j0, h1, h2, rfl, rfl, h3⟩ | ⟨rfl, h1⟩
    · have hstep : forL (gtT [6, 7]) B_number_of_2 ((enI i (dg ns i :: ns.drop (i + 1))).map (enD D.int)) [some (pr lo hi), some (tupI ns), some (.str z), some (bwD lo hi ns), some (.int t), some (.int F), g6, g7, g8, g9, g10, g11] = forL (gtT [6, 7]) B_number_of_2 ((enI (i + 1) (ns.drop (i + 1))).map (enD D.int)) [some (pr lo hi), some (tupI ns), some (.str z), some (bwD lo hi ns), some (.int e.2), some (.int (F + (j0 : Nat))), some (.int (i : Nat)), some (.int (dg ns i)), some (.int (j0 : Nat)), some (.int e.2), x10, x11] := by
        refine forL_step rfl ?_
        simp only [B_number_of_2, ev_seq, ev_nil, ev_set, ev_ret, ev_if, ev_for, forI_ok, ev_varS, ev_var0, ev_cst, ev_un, ev_bin, ev_eif, ev_tst, blD_bl, ev_tval, ev_cmp, ev_chn, ev_tnot, ev_tand, ev_tor, ev_anil, ev_acons, ev_args, ev_eand, ev_eor, notD_bl, addD_int, subD_int, negD_int, ltD_int, leD_int, gtD_int, geD_int, eqD_int, neD_int, ev_app, lstOf_lst, dctOf_dct, ev_par2, noX_ok, ev_unp, gtN_eq, gtT2, tup2, tup1, tup0, lst0, lst1, idx_pair0, idx_pair1, thn_next, thn_ret, thn_exc, thn_bad, res_next, res_ret, cnd_ok, env_ok, out_ok, bind_ok, forB_ok, setAll_cons, setAll_nil, List.set_cons_succ, List.set_cons_zero, ev_dset, ev_daug, ev_get2, getOr_int, dctOf_I, ev_comp, wipeE_cons, wipeE_nil, ev_slice, ev_onone, ev_osome, intOf_int, ev_ttrue, ev_count, strOf_str, cntS_ch, revD_tup, isF_dec, steps_eq, itemsD, f1, ei, Bool.false_eq_true, if_false]
      rcases ih (i + 1) e.2 (F + (j0 : Nat)) (some (.int (i : Nat))) (some (.int (dg ns i))) (some (.int (j0 : Nat))) (some (.int e.2)) x10 x11 (by omega) (fwAt_step hi' ht h1) with ⟨j, t', y6, y7, y8, y9, y10, y11, k1, k2⟩ | ⟨k1, k2⟩
      · rw [isF_succ] at k1
        refine .inl ⟨j0 + j, t', y6, y7, y8, y9, y10, y11, ?_, ?_⟩
        · have := h3 j _ k1
          rw [h2] at this
          exact this
        · rw [hstep, k2, show F + (j0 : Nat) + (j : Nat) = F + ((j0 + j : Nat) : Int) by omega]
      · rw [isF_succ] at k1
        refine .inr ⟨fun hm => ?_, hstep.trans k2⟩
        obtain ⟨e', he', q, hq, e2⟩ := mem_rd_cons.mp hm
        obtain ⟨a1, a2⟩ := List.cons.inj e2
        have hee : e' = e := by
          have c1 : e'.1 = e.1 := by rw [← a1, h2]
          have s1 := step_tm he'
          have s2 := step_tm h1
          rw [c1] at s1
          exact Prod.ext c1 (s1.trans s2.symm)
        rw [hee, ← a2] at hq
        exact k1 hq
    · refine .inr ⟨fun hm => ?_, ?_⟩
      · obtain ⟨e', he', q, hq, e2⟩ := mem_rd_cons.mp hm
        exact h1 e' he' (List.cons.inj e2).1.symm
      · refine forL_ret rfl ?_
        simp only [B_number_of_2, ev_seq, ev_nil, ev_set, ev_ret, ev_if, ev_for, forI_ok, ev_varS, ev_var0, ev_cst, ev_un, ev_bin, ev_eif, ev_tst, blD_bl, ev_tval, ev_cmp, ev_chn, ev_tnot, ev_tand, ev_tor, ev_anil, ev_acons, ev_args, ev_eand, ev_eor, notD_bl, addD_int, subD_int, negD_int, ltD_int, leD_int, gtD_int, geD_int, eqD_int, neD_int, ev_app, lstOf_lst, dctOf_dct, ev_par2, noX_ok, ev_unp, gtN_eq, gtT2, tup2, tup1, tup0, lst0, lst1, idx_pair0, idx_pair1, thn_next, thn_ret, thn_exc, thn_bad, res_next, res_ret, cnd_ok, env_ok, out_ok, bind_ok, forB_ok, setAll_cons, setAll_nil, List.set_cons_succ, List.set_cons_zero, ev_dset, ev_daug, ev_get2, getOr_int, dctOf_I, ev_comp, wipeE_cons, wipeE_nil, ev_slice, ev_onone, ev_osome, intOf_int, ev_ttrue, ev_count, strOf_str, cntS_ch, revD_tup, isF_dec, steps_eq, itemsD, f1, en, if_true]
theorem number_some {lo hi : Int} {ns : List Int} (hn : ns.length < 900) {j : Nat} {z : List Nat} (h : (rd lo hi 0 true ns)[j]? = some z) : S_number_of [pr lo hi, tupI ns, .str z] = .ok (.int (j : Nat)) := by
  have hm := List.mem_of_getElem? h
  rw [R_number_of]
  rcases nb_2 lo hi ns hn z (rd_KS hm) (rd_len hm) ns.length 0 0 0 none none none none none none (by omega) (zero_key lo hi ns) with ⟨j', t', y6, y7, y8, y9, y10, y11, k1, k2⟩ | ⟨k1, k2⟩
  · have e : j' = j := by
      rw [List.drop_zero, List.drop_zero] at k1
      exact List.getElem?_inj (List.getElem?_eq_some_iff.mp k1).1 (rd_nodup lo hi 0 true ns) |>.mp (k1.trans h.symm)
    subst e
    rw [List.drop_zero] at k2
    simp only [B_number_of, ev_seq, ev_nil, ev_set, ev_ret, ev_if, ev_for, forI_ok, ev_varS, ev_var0, ev_cst, ev_un, ev_bin, ev_eif, ev_tst, blD_bl, ev_tval, ev_cmp, ev_chn, ev_tnot, ev_tand, ev_tor, ev_anil, ev_acons, ev_args, ev_eand, ev_eor, notD_bl, addD_int, subD_int, negD_int, ltD_int, leD_int, gtD_int, geD_int, eqD_int, neD_int, ev_app, lstOf_lst, dctOf_dct, ev_par2, noX_ok, ev_unp, gtN_eq, gtT2, tup2, tup1, tup0, lst0, lst1, idx_pair0, idx_pair1, thn_next, thn_ret, thn_exc, thn_bad, res_next, res_ret, cnd_ok, env_ok, out_ok, bind_ok, forB_ok, setAll_cons, setAll_nil, List.set_cons_succ, List.set_cons_zero, ev_dset, ev_daug, ev_get2, getOr_int, dctOf_I, ev_comp, wipeE_cons, wipeE_nil, ev_slice, ev_onone, ev_osome, intOf_int, ev_ttrue, ev_count, strOf_str, cntS_ch, revD_tup, backward_eq lo hi ns hn, enum_tup, k2]
    rw [show (0 : Int) + (j' : Nat) = (j' : Nat) by omega]
  · exact absurd (by rw [List.drop_zero, List.drop_zero]; exact hm) k1
theorem number_none {lo hi : Int} {ns : List Int} (hn : ns.length < 900) {z : List Nat} (hz : KS z) (hzl : z.length = ns.length) (h : z ∉ rd lo hi 0 true ns) : S_number_of [pr lo hi, tupI ns, .str z] = .ok .non := by
  rw [R_number_of]
  rcases nb_2 lo hi ns hn z hz hzl ns.length 0 0 0 none none none none none none (by omega) (zero_key lo hi ns) with ⟨j', t', y6, y7, y8, y9, y10, y11, k1, k2⟩ | ⟨k1, k2⟩
  · rw [List.drop_zero, List.drop_zero] at k1
    exact absurd (List.mem_of_getElem? k1) h
  · rw [List.drop_zero] at k2
    simp only [B_number_of, ev_seq, ev_nil, ev_set, ev_ret, ev_if, ev_for, forI_ok, ev_varS, ev_var0, ev_cst, ev_un, ev_bin, ev_eif, ev_tst, blD_bl, ev_tval, ev_cmp, ev_chn, ev_tnot, ev_tand, ev_tor, ev_anil, ev_acons, ev_args, ev_eand, ev_eor, notD_bl, addD_int, subD_int, negD_int, ltD_int, leD_int, gtD_int, geD_int, eqD_int, neD_int, ev_app, lstOf_lst, dctOf_dct, ev_par2, noX_ok, ev_unp, gtN_eq, gtT2, tup2, tup1, tup0, lst0, lst1, idx_pair0, idx_pair1, thn_next, thn_ret, thn_exc, thn_bad, res_next, res_ret, cnd_ok, env_ok, out_ok, bind_ok, forB_ok, setAll_cons, setAll_nil, List.set_cons_succ, List.set_cons_zero, ev_dset, ev_daug, ev_get2, getOr_int, dctOf_I, ev_comp, wipeE_cons, wipeE_nil, ev_slice, ev_onone, ev_osome, intOf_int, ev_ttrue, ev_count, strOf_str, cntS_ch, revD_tup, backward_eq lo hi ns hn, enum_tup, k2]
end PL
set_option Elab.async false
set_option linter.all false
set_option maxRecDepth 100000
set_option maxHeartbeats 4000000
namespace PL
open PySem PySem.Spec PyProof.Rows L2
theorem rdg_1 {lo hi : Int} {ns : List Int} (hn : ns.length < 900) : ∀ (j k : Nat) (ys : List (List Nat)) (g2 : Option D), k + j = (rd lo hi 0 true ns).length → ys.length + j < 900000 →
    ∃ g2', gForL (gtN 2) G_readings_1 ((List.range' k j).map fun i : Nat => D.int (i : Nat)) (ys.map D.str) [some (pr lo hi), some (tupI ns), g2] = .next [some (pr lo hi), some (tupI ns), g2'] ((ys ++ (rd lo hi 0 true ns).drop k).map D.str) := by
  intro j
  induction j with
  | zero =>
    intro k ys g2 h hl
    refine ⟨g2, ?_⟩
    rw [List.drop_eq_nil_of_le (by omega), List.append_nil]
    rfl
  | succ j ih =>
    intro k ys g2 h hl
    have hk : k < (rd lo hi 0 true ns).length := by omega
    obtain ⟨y2, h1⟩ := ih (k + 1) (ys ++ [(rd lo hi 0 true ns)[k]]) (some (.int (k : Nat))) (by omega) (by rw [List.length_append, List.length_singleton]; omega)
    refine ⟨y2, ?_⟩
    have hr := reading_some hn (List.getElem?_eq_getElem hk)
    rw [List.drop_eq_getElem_cons hk, List.range'_succ, List.map_cons]
    have e1 : (ys.map D.str).length < LIM := by rw [List.length_map]; unfold LIM; omega
    have step : G_readings_1 (ys.map D.str) [some (pr lo hi), some (tupI ns), some (.int (k : Nat))] = .next [some (pr lo hi), some (tupI ns), some (.int (k : Nat))] ((ys ++ [(rd lo hi 0 true ns)[k]]).map D.str) := by
      have he : (eArgs S_reading_at (aCons (eVar 0) (aCons (eVar 1) (aCons (eVar 2) aNil)))) [some (pr lo hi), some (tupI ns), some (.int (k : Nat))] = .ok (.str (rd lo hi 0 true ns)[k]) := by
        simp only [ev_seq, ev_nil, ev_set, ev_ret, ev_if, ev_for, forI_ok, ev_varS, ev_var0, ev_cst, ev_un, ev_bin, ev_eif, ev_tst, blD_bl, ev_tval, ev_cmp, ev_chn, ev_tnot, ev_tand, ev_tor, ev_anil, ev_acons, ev_args, ev_eand, ev_eor, notD_bl, addD_int, subD_int, negD_int, ltD_int, leD_int, gtD_int, geD_int, eqD_int, neD_int, ev_app, lstOf_lst, dctOf_dct, ev_par2, noX_ok, ev_unp, gtN_eq, gtT2, tup2, tup1, tup0, lst0, lst1, idx_pair0, idx_pair1, thn_next, thn_ret, thn_exc, thn_bad, res_next, res_ret, cnd_ok, env_ok, out_ok, bind_ok, forB_ok, setAll_cons, setAll_nil, List.set_cons_succ, List.set_cons_zero, ev_dset, ev_daug, ev_get2, getOr_int, dctOf_I, ev_comp, wipeE_cons, wipeE_nil, ev_slice, ev_onone, ev_osome, intOf_int, ev_ttrue, ev_count, strOf_str, cntS_ch, revD_tup, hr]
      unfold G_readings_1 gSeq gYield gNil
      rw [he]
      dsimp only
      rw [if_pos e1, List.map_append]
      rfl
    show (match gtN 2 (.int (k : Nat)) [some (pr lo hi), some (tupI ns), g2] with
      | .ok ρ1 => (match G_readings_1 (ys.map D.str) ρ1 with
        | .next ρ2 ds2 => gForL (gtN 2) G_readings_1 ((List.range' (k + 1) j).map fun i : Nat => D.int (i : Nat)) ds2 ρ2
        | .bad => .bad)
      | _ => .bad) = _
    have eg : gtN 2 (.int (k : Nat)) [some (pr lo hi), some (tupI ns), g2] = .ok [some (pr lo hi), some (tupI ns), some (.int (k : Nat))] := rfl
    rw [eg]
    dsimp only
    rw [step]
    dsimp only
    rw [h1, List.append_assoc]
    rfl
theorem readings_list {lo hi : Int} {ns : List Int} (hn : ns.length < 900) (hl : (rd lo hi 0 true ns).length < 900000) : listG S_readings [pr lo hi, tupI ns] = .ok (lstS (rd lo hi 0 true ns)) := by
  obtain ⟨y2, h1⟩ := rdg_1 (lo := lo) (hi := hi) hn (rd lo hi 0 true ns).length 0 [] none (by omega) (by rw [List.length_nil]; omega)
  rw [List.drop_zero, List.nil_append, List.map_nil, ← List.range_eq_range', rd_cnt] at h1
  have hit : (fun ρ => (((aCons (eArgs S_count_readings (aCons (eVar 0) (aCons (eVar 1) aNil))) aNil) ρ).bind rng1 : Res (List D))) [some (pr lo hi), some (tupI ns), none] = .ok ((List.range (cnt lo hi 0 true ns)).map fun i : Nat => D.int (i : Nat)) := by
    rw [rd_cnt] at hl
    simp only [ev_seq, ev_nil, ev_set, ev_ret, ev_if, ev_for, forI_ok, ev_varS, ev_var0, ev_cst, ev_un, ev_bin, ev_eif, ev_tst, blD_bl, ev_tval, ev_cmp, ev_chn, ev_tnot, ev_tand, ev_tor, ev_anil, ev_acons, ev_args, ev_eand, ev_eor, notD_bl, addD_int, subD_int, negD_int, ltD_int, leD_int, gtD_int, geD_int, eqD_int, neD_int, ev_app, lstOf_lst, dctOf_dct, ev_par2, noX_ok, ev_unp, gtN_eq, gtT2, tup2, tup1, tup0, lst0, lst1, idx_pair0, idx_pair1, thn_next, thn_ret, thn_exc, thn_bad, res_next, res_ret, cnd_ok, env_ok, out_ok, bind_ok, forB_ok, setAll_cons, setAll_nil, List.set_cons_succ, List.set_cons_zero, ev_dset, ev_daug, ev_get2, getOr_int, dctOf_I, ev_comp, wipeE_cons, wipeE_nil, ev_slice, ev_onone, ev_osome, intOf_int, ev_ttrue, ev_count, strOf_str, cntS_ch, revD_tup, count_eq lo hi ns hn, rng1_eq (show cnt lo hi 0 true ns < 1000000000 by omega)]
  have hB : B_readings [] [some (pr lo hi), some (tupI ns), none] = .next [some (pr lo hi), some (tupI ns), y2] ((rd lo hi 0 true ns).map D.str) := by
    unfold B_readings gSeq gFor
    rw [hit]
    dsimp only
    rw [h1]
    rfl
  have hS : S_readings [pr lo hi, tupI ns] = .ok ((rd lo hi 0 true ns).map D.str) := by
    rw [R_readings, hB]
    rfl
  unfold listG
  rw [hS]
  exact lst_ok (f := D.str) (by omega)
theorem rd_le (lo hi : Int) (ns : List Int) : (rd lo hi 0 true ns).length ≤ 2 ^ ns.length := by
  have h1 := words_two ns.length (rd lo hi 0 true ns) (fun _ => true) (rd_nodup _ _ _ _ _) (fun ks h => ⟨rd_len h, rd_KS h⟩) fun i _ h => by cases h
  have h2 := List.countP_le_length (p := fun _ : Nat => true) (l := List.range ns.length)
  rw [List.length_range] at h2
  have h3 : 2 ^ ((List.range ns.length).countP fun _ => true) ≤ 2 ^ ns.length := Nat.pow_le_pow_right (by decide) (by omega)
  omega
theorem in_lstS (z : List Nat) (l : List (List Nat)) : inD (.str z) (lstS l) = .ok (decide (z ∈ l)) := by
  have h1 : (l.map D.str).all flt = true := List.all_eq_true.mpr fun d hd => by
    obtain ⟨i, _, rfl⟩ := List.mem_map.mp hd
    rfl
  show (if flt (.str z) = true ∧ (l.map D.str).all flt = true then Res.ok ((l.map D.str).any fun y => eqv y (.str z)) else .bad) = _
  rw [if_pos ⟨rfl, h1⟩, List.any_map]
  congr 1
  rw [Bool.eq_iff_iff, List.any_eq_true, decide_eq_true_eq]
  constructor
  · rintro ⟨x, hx, h⟩
    have : x = z := eq_of_beq h
    exact this ▸ hx
  · intro h
    exact ⟨z, h, beq_self_eq_true z⟩
theorem index_lstS {z : List Nat} {l : List (List Nat)} (h : z ∈ l) : ∃ j : Nat, l[j]? = some z ∧ idxOf (l.map D.str) (.str z) = .ok (.int (j : Nat)) := by
  have h1 : (l.map D.str).all flt = true := List.all_eq_true.mpr fun d hd => by
    obtain ⟨i, _, rfl⟩ := List.mem_map.mp hd
    rfl
  unfold idxOf
  rw [if_pos ⟨rfl, h1⟩]
  cases hf : (l.map D.str).findIdx? (fun d => eqv d (.str z)) with
  | none =>
    have := List.findIdx?_eq_none_iff.mp hf (.str z) (List.mem_map.mpr ⟨z, h, rfl⟩)
    have e : eqv (.str z) (.str z) = true := beq_self_eq_true z
    rw [e] at this
    cases this
  | some j =>
    obtain ⟨hlt, h2, _⟩ := List.findIdx?_eq_some_iff_getElem.mp hf
    rw [List.length_map] at hlt
    rw [List.getElem_map] at h2
    have : l[j] = z := eq_of_beq h2
    exact ⟨j, by rw [List.getElem?_eq_getElem hlt, this], rfl⟩
end PL
set_option Elab.async false
set_option linter.all false
set_option maxRecDepth 100000
set_option maxHeartbeats 4000000
namespace PL
open PySem PySem.Spec PyProof.Rows L2
abbrev ZipHeld (h : Heap) (z TI TO T : Addr) (f : Bool) : Prop :=
  h.get? z = some { cls := .type "zip", dict := none, data := .fields #[rawInt T, .bool f, .bool false, .ref TI, .ref TO], slots := #[] }
section
variable {prog : Program} {w : World} {A : Around} {E : Value → Shared → Prop} {s : Shared} {z TI TO T i1 i2 : Addr} {fp1 fp2 : List Addr} {n1 n2 i : Nat} {P1 P2 : Nat → Value → Prop} {St1 St2 : Nat → Heap → Prop} {f : Bool} {oT : Obj}
theorem lz_alive {a : Addr} {o : Obj} {Q : Option Obj → Shared → Prop} (ho : s.heap.get? a = some o) (h : Q (some o) s) : wpAny (model prog w) A (loadIfAlive a) Q E s := by
  have h' : Q (s.heap.get? a) s := by rw [ho]; exact h
  exact fun _ _ _ => h'
theorem lz_held {Q : Bool → Shared → Prop} (hz : ZipHeld s.heap z TI TO T f) (hT : s.heap.get? T = some oT)
    (h : ∀ h', ZipHeld h' z TI TO T true → Heap.SameBut z s.heap h' → Q false { s with heap := h' }) : wpAny (model prog w) A (Builtin.SmallTypes.ownedTupleIsFree (.ref z)) Q E s := by
  unfold Builtin.SmallTypes.ownedTupleIsFree
  refine wpAny_bind (wpAny_field hz rfl (x := rawInt T) rfl ?_)
  show wpAny _ _ (loadIfAlive ((T : Int).toNat) >>= _) _ _ _
  rw [Int.toNat_natCast]
  refine wpAny_bind (lz_alive hT ?_)
  simp only [Option.isNone_some, Bool.false_eq_true, if_false]
  refine wpAny_bind (wpAny_field hz rfl (x := .bool f) rfl ?_)
  cases f with
  | true =>
    rw [if_neg (show ¬ ((Value.bool true != Value.bool true) = true) from Bool.false_ne_true)]
    exact wpAny_pure (h s.heap hz (Heap.SameBut.refl _ _))
  | false =>
    rw [if_pos (show (Value.bool false != Value.bool true) = true from rfl)]
    exact wpAny_bind (wpAny_setField_rec hz (by simp) fun h₁ hz₁ hs₁ => wpAny_pure (h h₁ hz₁ hs₁))
theorem lz_item {Q : Value → Shared → Prop} (S : ZipSep2 z TI TO i1 i2 fp1 fp2) (D1 : Draws prog w A i1 fp1 n1 P1 St1) (D2 : Draws prog w A i2 fp2 n2 P2 St2)
    (hz : ZipHeld s.heap z TI TO T f) (hT : s.heap.get? T = some oT) (hTI : IsTupOf2 s.heap TI (.ref i1) (.ref i2)) (st1 : St1 i s.heap) (st2 : St2 i s.heap) (hlt1 : i < n1) (hlt2 : i < n2)
    (hQ : ∀ x1 x2 h' tk, P1 i x1 → P2 i x2 → ZipHeld h' z TI TO T true → St1 (i + 1) h' → St2 (i + 1) h' → IsTupOf2 h' s.heap.objs.size x1 x2 → h'.objs.size = s.heap.objs.size + 1 →
      (∀ c o, c ≠ z → c ≠ i1 → c ≠ i2 → s.heap.get? c = some o → h'.get? c = some o) → Q (.ref s.heap.objs.size) { s with heap := h', toks := tk }) :
    wpAny (model prog w) A (Builtin.«zip.__next__» ⟨[.ref z], []⟩) (fun fin s' => ∃ v, fin = .done (.ret v) ∧ Q v s') E s := by
  obtain ⟨hp, g, d, tk0, os⟩ := s
  show wpAny _ _ (field (.ref z) 2 >>= _) _ _ _
  refine wpAny_bind (wpAny_field hz rfl (x := .bool false) rfl ?_)
  show wpAny _ _ (field (.ref z) 3 >>= _) _ _ _
  refine wpAny_bind (wpAny_field hz rfl (x := .ref TI) rfl ?_)
  refine wpAny_bind (wpAny_seqItems hTI rfl ?_)
  show wpAny _ _ (Builtin.SmallTypes.ownedTupleIsFree (.ref z) >>= _) _ _ _
  refine wpAny_bind (lz_held hz hT fun h₁ hz₁ hs₁ => ?_)
  replace hs₁ : Heap.SameBut z hp h₁ := hs₁
  simp only [Bool.false_eq_true, if_false]
  refine wpAny_bind ?_
  rw [← Array.forIn_toList]
  simp only [List.forIn_cons, List.forIn_nil]
  refine wpAny_bind (wpAny_bind (wpAny_holding ?_))
  show wpAny _ _ (Builtin.SmallTypes.nextOf (.ref i1) >>= _) _ _ ⟨h₁, g, d, tk0, os⟩
  refine wpAny_bind (D1.item i _ _ _ hlt1 (D1.over st1 hs₁ S.zf1) fun x1 p1 tk1 hx1 sn1 hp1 => wpAny_pure ?_)
  replace hp1 : Heap.SameBut i1 h₁ p1 := hp1
  refine wpAny_pure ?_
  refine wpAny_bind (wpAny_bind (wpAny_holding ?_))
  show wpAny _ _ (Builtin.SmallTypes.nextOf (.ref i2) >>= _) _ _ ⟨p1, g, d, tk1, os⟩
  refine wpAny_bind (D2.item i _ _ _ hlt2 (D2.over (D2.over st2 hs₁ S.zf2) hp1 S.sep1_2) fun x2 p2 tk2 hx2 sn2 hp2 => wpAny_pure ?_)
  replace hp2 : Heap.SameBut i2 p1 p2 := hp2
  refine wpAny_pure (wpAny_pure ?_)
  show wpAny _ _ (newTuple [x1, x2] >>= _) _ _ ⟨p2, g, d, tk2, os⟩
  refine wpAny_bind (wpAny_newTuple ?_)
  have hsz : p2.objs.size = hp.objs.size := by rw [hp2.1, hp1.1, hs₁.1]
  have hzz : ZipHeld p2 z TI TO T true := hp2.extBut _ _ S.zi2 (hp1.extBut _ _ S.zi1 hz₁)
  have hk : ∀ c o, c ≠ z → c ≠ i1 → c ≠ i2 → hp.get? c = some o → p2.get? c = some o := fun c o c1 c2 c3 e => hp2.extBut _ _ c3 (hp1.extBut _ _ c2 (hs₁.extBut _ _ c1 e))
  have hj1 : St1 (i + 1) p2 := D1.over sn1 hp2 S.sep2_1
  refine wpAny_pure ⟨_, rfl, ?_⟩
  show Q (.ref p2.objs.size) _
  have hpp : IsTupOf2 (p2.push { cls := .type "tuple", data := .seq #[x1, x2] }) p2.objs.size x1 x2 := Heap.get?_push_size _ rfl
  have hz4 : (p2.push { cls := .type "tuple", data := .seq #[x1, x2] }).objs.size = p2.objs.size + 1 := Heap.size_push ..
  rw [hsz] at hpp hz4 ⊢
  exact hQ x1 x2 _ tk2 hx1 hx2 (Heap.get?_push_of_some _ hzz) (D1.frame _ _ _ hj1 fun b _ o e => Heap.get?_push_of_some _ e) (D2.frame _ _ _ sn2 fun b _ o e => Heap.get?_push_of_some _ e) hpp hz4 fun c o c1 c2 c3 e => Heap.get?_push_of_some _ (hk c o c1 c2 c3 e)
theorem lz_end {Q : _ → Shared → Prop} (S : ZipSep2 z TI TO i1 i2 fp1 fp2) (D1 : Draws prog w A i1 fp1 n1 P1 St1) (D2 : Draws prog w A i2 fp2 n2 P2 St2)
    (hz : ZipHeld s.heap z TI TO T f) (hT : s.heap.get? T = some oT) (hTI : IsTupOf2 s.heap TI (.ref i1) (.ref i2)) (st1 : St1 i s.heap) (st2 : St2 i s.heap) (hle1 : i ≤ n1) (hle2 : i ≤ n2) (hend : i = n1 ∨ i = n2)
    (hE : ∀ h' tk e, (∀ c o, c ≠ z → c ≠ i1 → c ≠ i2 → s.heap.get? c = some o → h'.get? c = some o) → (∃ o, h'.get? e = some o ∧ o.cls = .type "StopIteration") → E (.ref e) { s with heap := h', toks := tk }) :
    wpAny (model prog w) A (Builtin.«zip.__next__» ⟨[.ref z], []⟩) Q E s := by
  obtain ⟨hp, g, d, tk0, os⟩ := s
  show wpAny _ _ (field (.ref z) 2 >>= _) _ _ _
  refine wpAny_bind (wpAny_field hz rfl (x := .bool false) rfl ?_)
  show wpAny _ _ (field (.ref z) 3 >>= _) _ _ _
  refine wpAny_bind (wpAny_field hz rfl (x := .ref TI) rfl ?_)
  refine wpAny_bind (wpAny_seqItems hTI rfl ?_)
  show wpAny _ _ (Builtin.SmallTypes.ownedTupleIsFree (.ref z) >>= _) _ _ _
  refine wpAny_bind (lz_held hz hT fun h₁ hz₁ hs₁ => ?_)
  replace hs₁ : Heap.SameBut z hp h₁ := hs₁
  simp only [Bool.false_eq_true, if_false]
  refine wpAny_bind ?_
  rw [← Array.forIn_toList]
  simp only [List.forIn_cons, List.forIn_nil]
  refine wpAny_bind (wpAny_bind (wpAny_holding ?_))
  show wpAny _ _ (Builtin.SmallTypes.nextOf (.ref i1) >>= _) _ _ ⟨h₁, g, d, tk0, os⟩
  by_cases hlt1 : i < n1
  · refine wpAny_bind (D1.item i _ _ _ hlt1 (D1.over st1 hs₁ S.zf1) fun x1 p1 tk1 hx1 sn1 hp1 => wpAny_pure ?_)
    replace hp1 : Heap.SameBut i1 h₁ p1 := hp1
    refine wpAny_pure ?_
    have hi2 : i = n2 := by omega
    refine wpAny_bind (wpAny_bind (wpAny_holding ?_))
    show wpAny _ _ (Builtin.SmallTypes.nextOf (.ref i2) >>= _) _ _ ⟨p1, g, d, tk1, os⟩
    refine wpAny_bind (D2.done ⟨p1, g, d, tk1, os⟩ _ _ (by rw [← hi2]; exact (D2.over (D2.over st2 hs₁ S.zf2) hp1 S.sep1_2)) fun q e hq he => ?_)
    exact hE q tk1 e (fun c o cz c1 c2 x => hq _ _ c2 (hp1.extBut _ _ c1 (hs₁.extBut _ _ cz x))) he
  · have hi1 : i = n1 := by omega
    refine wpAny_bind (D1.done ⟨h₁, g, d, tk0, os⟩ _ _ (by rw [← hi1]; exact (D1.over st1 hs₁ S.zf1)) fun q e hq he => ?_)
    exact hE q tk0 e (fun c o cz c1 c2 x => hq _ _ c1 (hs₁.extBut _ _ cz x)) he
theorem lz_next {Q : Option Value → Shared → Prop} (S : ZipSep2 z TI TO i1 i2 fp1 fp2) (D1 : Draws prog w A.in1 i1 fp1 n1 P1 St1) (D2 : Draws prog w A.in1 i2 fp2 n2 P2 St2)
    (hz : ZipHeld s.heap z TI TO T f) (hT : s.heap.get? T = some oT) (hTI : IsTupOf2 s.heap TI (.ref i1) (.ref i2)) (st1 : St1 i s.heap) (st2 : St2 i s.heap) (hlt1 : i < n1) (hlt2 : i < n2)
    (hQ : ∀ x1 x2 h' tk, P1 i x1 → P2 i x2 → ZipHeld h' z TI TO T true → St1 (i + 1) h' → St2 (i + 1) h' → IsTupOf2 h' s.heap.objs.size x1 x2 → h'.objs.size = s.heap.objs.size + 1 →
      (∀ c o, c ≠ z → c ≠ i1 → c ≠ i2 → s.heap.get? c = some o → h'.get? c = some o) → Q (some (.ref s.heap.objs.size)) { s with heap := h', toks := tk }) :
    wpAny (model prog w) A (pyNext (.ref z)) Q E s := by
  have hTy : s.TypeIs (.ref z) "zip" := ⟨_, hz, rfl⟩
  unfold pyNext
  exact wpAny_bind (wpAny_attempt (wpAny_callSpecial?_slot (name := Str.ofString "__next__") hTy F.slot_zip_next
    (wpAny_call_entry F.slot_zip_next hTy F.entry_zip_next
      (lz_item S D1 D2 hz hT hTI st1 st2 hlt1 hlt2 fun x1 x2 h' tk y1 y2 b1 d1 d2 b5 b6 b7 => wpAny_pure (hQ x1 x2 h' tk y1 y2 b1 d1 d2 b5 b6 b7)) (F.args_zip_next_1 _))))
theorem lz_stop {Q : Option Value → Shared → Prop} (S : ZipSep2 z TI TO i1 i2 fp1 fp2) (D1 : Draws prog w A.in1 i1 fp1 n1 P1 St1) (D2 : Draws prog w A.in1 i2 fp2 n2 P2 St2)
    (hz : ZipHeld s.heap z TI TO T f) (hT : s.heap.get? T = some oT) (hTI : IsTupOf2 s.heap TI (.ref i1) (.ref i2)) (st1 : St1 i s.heap) (st2 : St2 i s.heap) (hle1 : i ≤ n1) (hle2 : i ≤ n2) (hend : i = n1 ∨ i = n2)
    (hQ : ∀ h' tk, (∀ c o, c ≠ z → c ≠ i1 → c ≠ i2 → s.heap.get? c = some o → h'.get? c = some o) → Q none { s with heap := h', toks := tk }) : wpAny (model prog w) A (pyNext (.ref z)) Q E s := by
  have hTy : s.TypeIs (.ref z) "zip" := ⟨_, hz, rfl⟩
  unfold pyNext
  refine wpAny_bind (wpAny_attempt (wpAny_callSpecial?_slot (name := Str.ofString "__next__") hTy F.slot_zip_next
    (wpAny_call_entry F.slot_zip_next hTy F.entry_zip_next (lz_end S D1 D2 hz hT hTI st1 st2 hle1 hle2 hend fun h' tk e hk he => ?_) (F.args_zip_next_1 _))))
  obtain ⟨o, ho, hc⟩ := he
  refine wpAny_bind (wpAny_isInstance (T := "StopIteration") (b := true) ⟨o, ho, hc⟩ isSubtype_stop ?_)
  exact wpAny_pure (hQ _ _ hk)
end
inductive LZC (S T : Src) (H0 : Hp) : Nat → Hp → List V → Prop
  | nil : LZC S T H0 0 H0 []
  | snoc {i : Nat} {H : Hp} {ys : List V} {a : Addr} {x y : V} : LZC S T H0 i H ys → H a = none → S.get i = some x → T.get i = some y → LZC S T H0 (i + 1) (upd H a (.tup [x, y])) (ys ++ [.ref a])
theorem LZC.len {S T : Src} {H0 H : Hp} {i : Nat} {ys : List V} (h : LZC S T H0 i H ys) : ys.length = i := by
  induction h with
  | nil => rfl
  | snoc _ _ _ _ ih => rw [List.length_append, ih]; rfl
theorem Src.ok_upd {S : Src} {H : Hp} {a : Addr} {o : HO} (h : S.ok H) (hn : H a = none) : S.ok (upd H a o) := by
  cases S with
  | lst b xs => show upd H a o b = _; rw [upd_ne (ne_of_none h hn)]; exact h
  | tup b xs => show upd H a o b = _; rw [upd_ne (ne_of_none h hn)]; exact h
  | str _ _ => trivial
theorem LZC.ok {S T U : Src} {H0 H : Hp} {i : Nat} {ys : List V} (h : LZC S T H0 i H ys) (k : U.ok H0) : U.ok H := by
  induction h with
  | nil => exact k
  | snoc _ hn _ _ ih => exact Src.ok_upd ih hn
def ZSt (S T : Src) (L z TI TO i1 i2 : Addr) (i : Nat) (h : Heap) : Prop :=
  IsTupOf2 h TI (.ref i1) (.ref i2) ∧ S.st i1 i h ∧ T.st i2 i h ∧ ((IsZip h z TI TO .none ∧ ∃ x y, IsTupOf2 h TO x y) ∨ ∃ U f oU, ZipHeld h z TI TO U f ∧ h.get? U = some oU ∧ U ≠ z ∧ U ≠ i1 ∧ U ≠ i2 ∧ U ≠ L ∧ ∃ oO, h.get? TO = some oO)
section
variable {X : Cx} {pins : List (Addr × Obj)} {σ : L2.St}
theorem lz_loop {A : Around} {R : Result → Shared → Prop} {S T : Src} {L z TI TO i1 i2 : Addr} {H0 : Hp} {res : Value} (hh : A.handled = none) (dn : [L, z, TI, TO, i1, i2].Nodup) (hn : min S.len T.len ≤ sizeLine) (okS0 : S.ok H0) (okT0 : T.ok H0)
    (hR : ∀ (s' : Shared) H' ys acc c, Inv X pins σ H' s' → (∀ b, b ∈ [L, z, TI, TO, i1, i2] → FpOk X pins H' b) → LZC S T H0 (min S.len T.len) H' ys → s'.heap.get? L = some (lstObj acc c) → Vals ys acc.toList → R (.ok (.ret res)) s') :
    ∀ (k i : Nat) (s : Shared) (H : Hp) (ys : List V) (acc : Array Value) (c : Nat), min S.len T.len - i = k → i ≤ min S.len T.len → Inv X pins σ H s → (∀ b, b ∈ [L, z, TI, TO, i1, i2] → FpOk X pins H b) →
      ZSt S T L z TI TO i1 i2 i s.heap → LZC S T H0 i H ys → s.heap.get? L = some (lstObj acc c) → Vals ys acc.toList →
      codeAny (model X.prog X.w) A (.builtin "list.extend.loop" ⟨[.ref L, .ref z, res], []⟩) R s := by
  have dn' : (L ≠ z ∧ L ≠ TI ∧ L ≠ TO ∧ L ≠ i1 ∧ L ≠ i2) ∧ (z ≠ TI ∧ z ≠ TO ∧ z ≠ i1 ∧ z ≠ i2) ∧ (TI ≠ TO ∧ TI ≠ i1 ∧ TI ≠ i2) ∧ (TO ≠ i1 ∧ TO ≠ i2) ∧ i1 ≠ i2 := by simpa using dn
  obtain ⟨⟨l1, l2, l3, l4, l5⟩, ⟨a1, a2, a3, a4⟩, ⟨b1, b2, b3⟩, ⟨c1, c2⟩, e1⟩ := dn'
  intro k
  have sepOf : ∀ (H : Hp), S.ok H → T.ok H → (∀ b, b ∈ [L, z, TI, TO, i1, i2] → FpOk X pins H b) → ZipSep2 z TI TO i1 i2 (S.fp i1) (T.fp i2) := fun H okS okT hf => by
    have n1 : H i1 = none := (hf i1 (by simp)).1
    have n2 : H i2 = none := (hf i2 (by simp)).1
    have nz : H z = none := (hf z (by simp)).1
    have nTO : H TO = none := (hf TO (by simp)).1
    exact ⟨Ne.symm a1, Ne.symm a2, b1, b2, Src.fp_mem, Src.fp_sep okS nz a3, Src.fp_sep okS nTO c1, b3, Src.fp_mem, Src.fp_sep okT nz a4, Src.fp_sep okT nTO c2, Src.fp_sep okT n1 e1, Src.fp_sep okS n2 (Ne.symm e1)⟩
  induction k with
  | zero =>
    intro i s H ys acc c hk hi I hf hst hL hS hv
    have hin : i = min S.len T.len := by omega
    have okS := hL.ok okS0
    have okT := hL.ok okT0
    obtain ⟨P1, St1, D1, in1, out1, get1⟩ := src_draws (A := A.in1.in1) I okS hh (hf i1 (by simp)).1
    obtain ⟨P2, St2, D2, in2, out2, get2⟩ := src_draws (A := A.in1.in1) I okT hh (hf i2 (by simp)).1
    have sep := sepOf H okS okT hf
    obtain ⟨hTI, h1, h2, hz⟩ := hst
    refine codeAny_builtin F.entry_extend_loop ?_
    rw [Around.under_plainId F.plain_extend_loop _]
    show wpAny _ A.in1 (pyNext (.ref z) >>= _) _ _ s
    have fin : ∀ h' tk, (∀ c o, c ≠ z → c ≠ TO → c ≠ i1 → c ≠ i2 → s.heap.get? c = some o → h'.get? c = some o) → R (.ok (.ret res)) { s with heap := h', toks := tk } := fun h' tk hk => by
      have I1 : Inv X pins σ H { s with heap := h', toks := tk } := I.turnedL (ch := [z, TO, i1, i2]) (fun b o hb q => hk b o (fun x => hb (by simp [x])) (fun x => hb (by simp [x])) (fun x => hb (by simp [x])) (fun x => hb (by simp [x])) q) (fun b hb => hf b (by
        have e' : b = z ∨ b = TO ∨ b = i1 ∨ b = i2 := by simpa using hb
        rcases e' with q | q | q | q <;> simp [q]))
      exact hR _ H ys acc c I1 hf (hin ▸ hL) (hk L _ l1 l3 l4 l5 hS) hv
    rcases hz with ⟨hz, x, y, hTO⟩ | ⟨U, f, oU, hz, hU, u1, u2, u3, u4, oO, hO⟩
    · exact wpAny_bind (wpAny_pyNext_zipD2_end sep D1 D2 hz hTI hTO (in1 _ h1) (in2 _ h2) (by omega) (by omega) (by omega) fun h' tk hk => wpAny_pure (fin h' tk hk))
    · exact wpAny_bind (lz_stop sep D1 D2 hz hU hTI (in1 _ h1) (in2 _ h2) (by omega) (by omega) (by omega) fun h' tk hk => wpAny_pure (fin h' tk fun c o q1 q2 q3 q4 e => hk c o q1 q3 q4 e))
  | succ k ih =>
    intro i s H ys acc c hk hi I hf hst hL hS hv
    have hlt : i < min S.len T.len := by omega
    have hlt1 : i < S.len := by omega
    have hlt2 : i < T.len := by omega
    have okS := hL.ok okS0
    have okT := hL.ok okT0
    obtain ⟨P1, St1, D1, in1, out1, get1⟩ := src_draws (A := A.in1.in1) I okS hh (hf i1 (by simp)).1
    obtain ⟨P2, St2, D2, in2, out2, get2⟩ := src_draws (A := A.in1.in1) I okT hh (hf i2 (by simp)).1
    have sep := sepOf H okS okT hf
    obtain ⟨hTI, h1, h2, hz⟩ := hst
    have hasz : acc.size = i := by rw [← Array.length_toList, ← hv.length, hL.len]
    refine codeAny_builtin F.entry_extend_loop ?_
    rw [Around.under_plainId F.plain_extend_loop _]
    show wpAny _ A.in1 (pyNext (.ref z) >>= _) _ _ s
    have sL : s.heap.objs.size ≠ L := Nat.ne_of_gt (Heap.lt_size hS)
    have fin : ∀ x1 x2 h' tk, P1 i x1 → P2 i x2 → (∀ hh : Heap, (∀ b o, b ≠ L → h'.get? b = some o → hh.get? b = some o) → ZSt S T L z TI TO i1 i2 (i + 1) hh) → IsTupOf2 h' s.heap.objs.size x1 x2 →
        (∀ c o, c ≠ z → c ≠ TO → c ≠ i1 → c ≠ i2 → s.heap.get? c = some o → h'.get? c = some o) →
        wpAny (model X.prog X.w) A.in1 (updateSeq L (·.push (Value.ref s.heap.objs.size)) >>= fun _ => again (.builtin "list.extend.loop" ⟨[.ref L, .ref z, res], []⟩)) (fun fin s' => match fin with | .done f => R (.ok f) s' | .again c' => c'.quiet = true ∧ codeAny (model X.prog X.w) A c' R s') (fun e s' => R (.error e) s') { s with heap := h', toks := tk } := fun x1 x2 h' tk p1 p2 st' hT hk => by
      obtain ⟨x, gx, rx⟩ := get1 i x1 p1
      obtain ⟨y, gy, ry⟩ := get2 i x2 p2
      have hS' : h'.get? L = some (lstObj acc c) := hk L _ l1 l3 l4 l5 hS
      refine wpAny_bind (wpAny_updateSeq (s := { s with heap := h', toks := tk }) hS' rfl (wpAny_pure ⟨plainId_quiet F.plain_extend_loop _, ?_⟩) (by rw [hasz]; omega) (by show (acc.push (Value.ref s.heap.objs.size)).size ≤ sizeLine + 1; rw [Array.size_push, hasz]; omega))
      have up : ∀ b o, b ≠ L → h'.get? b = some o → (h'.update L (Obj.mapSeq (·.push (Value.ref s.heap.objs.size)))).get? b = some o := fun b o hb e => (Heap.get?_update_other _ _ (Ne.symm hb)).trans e
      have new : ObjOk X.prog X.w (upd H s.heap.objs.size (.tup [x, y])) (h'.update L (Obj.mapSeq (·.push (Value.ref s.heap.objs.size)))) s.heap.objs.size (.tup [x, y]) := ⟨by show 2 ≤ sizeLine; decide, [x1, x2], .cons rx (.cons ry .nil), ⟨_, up _ _ sL hT, rfl, _, rfl⟩⟩
      have I1 : Inv X pins σ (upd H s.heap.objs.size (.tup [x, y])) { s with heap := h'.update L (Obj.mapSeq (·.push (Value.ref s.heap.objs.size))), toks := tk } := I.turnedNew (ch := [L, z, TO, i1, i2]) (fun b o hb q => up b o (fun x => hb (by simp [x])) (hk b o (fun x => hb (by simp [x])) (fun x => hb (by simp [x])) (fun x => hb (by simp [x])) (fun x => hb (by simp [x])) q)) (fun b hb => hf b (by
        have e' : b = L ∨ b = z ∨ b = TO ∨ b = i1 ∨ b = i2 := by simpa using hb
        rcases e' with q | q | q | q | q <;> simp [q])) (Nat.le_refl _) new
      refine ih (i + 1) _ _ (ys ++ [.ref s.heap.objs.size]) (acc.push (.ref s.heap.objs.size)) _ (by omega) hlt I1 (fun b hb => ?_) (st' _ up) (hL.snoc (I.hok.fresh (Nat.le_refl _)) gx gy) (Heap.get?_update_self _ hS' rfl) (by rw [Array.toList_push]; exact hv.append (.cons rfl .nil))
      obtain ⟨f0, f1, f2, f3, f4, f5⟩ := hf b hb
      refine ⟨?_, f1, f2, f3, f4, f5⟩
      have hlt : b < s.heap.objs.size := by
        have e' : b = L ∨ b = z ∨ b = TI ∨ b = TO ∨ b = i1 ∨ b = i2 := by simpa using hb
        have hzl : z < s.heap.objs.size := by
          rcases hz with ⟨hz, _⟩ | ⟨_, _, _, hz, _⟩
          · exact Heap.lt_size hz
          · exact Heap.lt_size hz
        rcases e' with q | q | q | q | q | q
        · rw [q]; exact Heap.lt_size hS
        · rw [q]; exact hzl
        · rw [q]; exact Heap.lt_size hTI
        · rw [q]
          by_cases hq : TO < s.heap.objs.size
          · exact hq
          · rcases hz with ⟨_, x, y, hTO⟩ | ⟨_, _, _, _, _, _, _, _, _, oO, hO⟩
            · exact Heap.lt_size hTO
            · exact absurd (Heap.lt_size hO) hq
        · rw [q]; obtain ⟨_, e1, _⟩ := (Src.st_obj h1); exact Heap.lt_size e1
        · rw [q]; obtain ⟨_, e2, _⟩ := (Src.st_obj h2); exact Heap.lt_size e2
      rw [upd_ne (Nat.ne_of_lt hlt)]
      exact f0
    have n1 : s.heap.objs.size ≠ i1 := by obtain ⟨_, e1, _⟩ := (Src.st_obj h1); exact Nat.ne_of_gt (Heap.lt_size e1)
    have n2 : s.heap.objs.size ≠ i2 := by obtain ⟨_, e1, _⟩ := (Src.st_obj h2); exact Nat.ne_of_gt (Heap.lt_size e1)
    rcases hz with ⟨hz, x, y, hTO⟩ | ⟨U, f, oU, hz, hU, u1, u2, u3, u4, oO, hO⟩
    · refine wpAny_bind (wpAny_pyNext_zipD2_item sep D1 D2 hz hTI hTO (in1 _ h1) (in2 _ h2) hlt1 hlt2 fun x1 x2 h' tk p1 p2 b1' b2' d1 d2 b5 b6 hk => ?_)
      refine fin x1 x2 h' tk p1 p2 (fun g up => ⟨up _ _ (Ne.symm l2) (hk _ _ (Ne.symm a1) b1 b2 b3 hTI), Src.st_at (out1 _ _ d1) (fun o e => up _ o (Ne.symm l4) e), Src.st_at (out2 _ _ d2) (fun o e => up _ o (Ne.symm l5) e), .inr ⟨s.heap.objs.size, false, _, up _ _ (Ne.symm l1) b1', up _ _ sL b5, Nat.ne_of_gt (Heap.lt_size hz), n1, n2, sL, _, up _ _ (Ne.symm l3) b2'⟩⟩) b5 hk
    · refine wpAny_bind (lz_next sep D1 D2 hz hU hTI (in1 _ h1) (in2 _ h2) hlt1 hlt2 fun x1 x2 h' tk p1 p2 b1' d1 d2 b5 b6 hk => ?_)
      refine fin x1 x2 h' tk p1 p2 (fun g up => ⟨up _ _ (Ne.symm l2) (hk _ _ (Ne.symm a1) b2 b3 hTI), Src.st_at (out1 _ _ d1) (fun o e => up _ o (Ne.symm l4) e), Src.st_at (out2 _ _ d2) (fun o e => up _ o (Ne.symm l5) e), .inr ⟨U, true, oU, up _ _ (Ne.symm l1) b1', up _ _ u4 (hk _ _ u1 u2 u3 hU), u1, u2, u3, u4, _, up _ _ (Ne.symm l3) (hk _ _ (Ne.symm a2) c1 c2 hO)⟩⟩) b5 (fun c o q1 q2 q3 q4 e => hk c o q1 q3 q4 e)
end
theorem lz_no_len : typeLookup (.type "zip") "__len__" = pure none := by rw [typeLookup_type, builtinLookup_eq_fast]; kernel_rfl
theorem lz_no_hint : typeLookup (.type "zip") "__length_hint__" = pure none := by rw [typeLookup_type, builtinLookup_eq_fast]; kernel_rfl
section
variable {X : Cx} {pins : List (Addr × Obj)} {σ : L2.St}
theorem lz_call {A : Around} {E Q : Value → Shared → Prop} {S T : Src} {z TI TO i1 i2 : Addr} {H : Hp} {s : Shared} (hh : A.handled = none) (dn : [z, TI, TO, i1, i2].Nodup) (hn : min S.len T.len ≤ sizeLine) (okS0 : S.ok H) (okT0 : T.ok H)
    (I : Inv X pins σ H s) (hf : ∀ b, b ∈ [z, TI, TO, i1, i2] → FpOk X pins H b) (hz : IsZip s.heap z TI TO .none) (hTI : IsTupOf2 s.heap TI (.ref i1) (.ref i2)) (hTO : ∃ x y, IsTupOf2 s.heap TO x y) (h1 : S.st i1 0 s.heap) (h2 : T.st i2 0 s.heap)
    (hQ : ∀ (s' : Shared) H' L ys, LZC S T H (min S.len T.len) H' ys → H' L = none → Inv X pins σ (upd H' L (.lst ys)) s' → Q (.ref L) s') :
    wpAny (model X.prog X.w) A (call (.type "list") [.ref z]) Q E s := by
  obtain ⟨x0, y0, hTO⟩ := hTO
  have lt : ∀ {b o}, s.heap.get? b = some o → s.heap.objs.size ≠ b := fun e => Nat.ne_of_gt (Heap.lt_size e)
  have lz : s.heap.objs.size ≠ z := lt hz
  have hne : z ≠ s.heap.objs.size := Ne.symm lz
  have li1 : s.heap.objs.size ≠ i1 := by obtain ⟨_, e, _⟩ := Src.st_obj h1; exact lt e
  have li2 : s.heap.objs.size ≠ i2 := by obtain ⟨_, e, _⟩ := Src.st_obj h2; exact lt e
  have dn6 : [s.heap.objs.size, z, TI, TO, i1, i2].Nodup := List.nodup_cons.mpr ⟨by simp only [List.mem_cons, List.not_mem_nil, or_false, not_or]; exact ⟨lz, lt hTI, lt hTO, li1, li2⟩, dn⟩
  have hf6 : ∀ b, b ∈ [s.heap.objs.size, z, TI, TO, i1, i2] → FpOk X pins H b := fun b hb => by
    rcases List.mem_cons.mp hb with q | q
    · rw [q]; exact I.fpOk (Nat.le_refl _) (I.hok.fresh (Nat.le_refl _))
    · exact hf b q
  refine callType_codes (Q₁ := fun obj s₁ => obj = .ref s.heap.objs.size ∧ s₁ = { s with heap := s.heap.push { cls := .type "list", data := .seq #[] } }) F.called_list (F.typeCall_list_1 _) F.entry_list_init
    (code_list_new _ ⟨rfl, rfl⟩) fun obj s₁ h₁ => ?_
  obtain ⟨rfl, rfl⟩ := h₁
  have hS : (s.heap.push { cls := .type "list", data := .seq #[] }).get? s.heap.objs.size = some { cls := .type "list", data := .seq #[] } := Heap.get?_push_size _ rfl
  refine ⟨⟨_, hS, rfl⟩, F.args_list_init_2 _ _, ?_⟩
  show wpAny _ A.in1.in1 (do let old ← Builtin.List.listItems (.ref s.heap.objs.size); Builtin.List.listUpdate (.ref s.heap.objs.size) (fun _ => #[]); letGo old.toList.reverse; Builtin.List.listExtendWith (.ref s.heap.objs.size) (.ref z) .none) _ _ _
  refine wpAny_bind ?_
  unfold Builtin.List.listItems
  refine wpAny_bind (wpAny_seqItems hS rfl (wpAny_pure ?_))
  show wpAny _ A.in1.in1 (updateSeq s.heap.objs.size (fun _ => #[]) >>= fun _ => letGo (#[] : Array Value).toList.reverse >>= fun _ => Builtin.List.listExtendWith (.ref s.heap.objs.size) (.ref z) .none) _ _ _
  refine wpAny_bind (wpAny_updateSeq hS rfl ?_)
  have hS2 := Heap.get?_update_self (Obj.mapSeq (fun _ => (#[] : Array Value))) hS rfl
  refine wpAny_bind (wpAny_letGo ?_)
  unfold Builtin.List.listExtendWith
  have up : ∀ (h : Heap) (f : Obj → Obj), (∀ b o, s.heap.get? b = some o → h.get? b = some o) → ∀ b o, s.heap.get? b = some o → (h.update s.heap.objs.size f).get? b = some o := fun h f q b o e =>
    (Heap.get?_update_other _ _ (Ne.symm (Nat.ne_of_lt (Heap.lt_size e)))).trans (q b o e)
  have k1 : ∀ b o, s.heap.get? b = some o → (s.heap.push { cls := .type "list", data := .seq #[] }).get? b = some o := fun b o e => Heap.get?_push_of_some _ e
  have k2 := up _ (Obj.mapSeq (fun _ => (#[] : Array Value))) k1
  have zty : ∀ {h : Heap} {tk : Nat}, (∀ b o, s.heap.get? b = some o → h.get? b = some o) → ({ s with heap := h, toks := tk } : Shared).TypeIs (.ref z) "zip" := fun {h tk} q => ⟨_, q _ _ hz, rfl⟩
  refine wpAny_bind (wpAny_typeOf (zty k2) ?_)
  have q1 : Builtin.List.listSameRef (.ref s.heap.objs.size) (.ref z) = false := by simp [Builtin.List.listSameRef, lz]
  have q2 : (Value.type "zip" == Value.type "list") = false := by decide
  have q3 : (Value.type "zip" == Value.type "tuple") = false := by decide
  simp only [q1, q2, q3, Bool.or_false, Bool.false_eq_true, if_false]
  refine wpAny_bind (wpAny_pyIter_zip (k2 _ _ hz) ?_)
  refine wpAny_bind (wpAny_holding ?_)
  unfold Builtin.List.listLengthHint
  refine wpAny_bind (wpAny_specialOf (zty k2) lz_no_len ?_)
  show wpAny _ A.in1.in1 (specialOf (Value.ref z) (Str.ofString "__length_hint__") >>= _) _ _ _
  refine wpAny_bind (wpAny_specialOf (zty k2) lz_no_hint ?_)
  refine wpAny_pure ?_
  show wpAny _ A.in1.in1 (rule "list.extend.makes-room" >>= fun _ => Builtin.List.listTouch (.ref s.heap.objs.size) >>= fun _ =>
    again (.builtin "list.extend.loop" ⟨[.ref s.heap.objs.size, .ref z, .none], []⟩)) _ _ _
  refine wpAny_bind (wpAny_rule ?_)
  refine wpAny_bind ?_
  show wpAny _ A.in1.in1 (updateSeq s.heap.objs.size (·.push .none) >>= fun _ => updateSeq s.heap.objs.size (·.pop)) _ _ _
  refine wpAny_bind (wpAny_updateSeq hS2 rfl ?_)
  have hS3 := Heap.get?_update_self (Obj.mapSeq (·.push Value.none)) hS2 rfl
  refine wpAny_updateSeq (hz := by seq_fits) hS3 rfl ?_
  have hS4 := Heap.get?_update_self (Obj.mapSeq (·.pop)) hS3 rfl
  have k4 := up _ (Obj.mapSeq (·.pop)) (up _ (Obj.mapSeq (·.push Value.none)) k2)
  refine wpAny_pure ⟨plainId_quiet F.plain_extend_loop _, ?_⟩
  refine lz_loop (A := A.in1) (S := S) (T := T) (H0 := H) hh dn6 hn okS0 okT0 (fun s' H' ys acc c I' hf' hL hS' hv => ⟨rfl, ?_⟩) (min S.len T.len) 0 _ H [] #[] _ (Nat.sub_zero _) (Nat.zero_le _) (I.kept (t' := s.toks) k4) hf6
    ⟨k4 _ _ hTI, Src.st_at h1 (fun o e => k4 _ o e), Src.st_at h2 (fun o e => k4 _ o e), .inl ⟨k4 _ _ hz, x0, y0, k4 _ _ hTO⟩⟩ .nil hS4 .nil
  refine hQ s' H' _ ys hL (hf' _ (by simp)).1 ?_
  exact I'.take (t' := s'.toks) (h' := s'.heap) (it := s.heap.objs.size) (fun b ob _ e => e) (hf' _ (by simp)) ⟨by rw [hL.len]; exact hn, acc.toList, c, hv, by rw [hS']⟩
def tLZ (ta : TA) : TE := fun σ H Q => ta σ H fun vs H1 => ∃ x y mk mk', vs = [x, y] ∧ SrcOf x H1 mk ∧ SrcOf y H1 mk' ∧ ∀ t t', min (mk t).len (mk' t').len ≤ sizeLine ∧ ∀ H2 ys L, LZC (mk t) (mk' t') H1 (min (mk t).len (mk' t').len) H2 ys → H2 L = none → Q (.ref L) (upd H2 L (.lst ys))
theorem pe_listZip {e e2 : Expr} {ta : TA} {p p2 pos pos2 : Pos} (hg : Gl X "zip") (hm : X.mg "zip" = none) (hg2 : Gl X "list") (hm2 : X.mg "list" = none) (ha : PA X [e, e2] ta) (hh : X.A.handled = none)
    (hs : starEach [e, e2] X.env = (false, eval e X.env) :: starEach [e2] X.env := by rfl) (hpl : (backTo pos (starEach [e2] X.env)).any (·.1) = false := by rfl)
    (he2 : starEach [.Call (.Name "zip" p) [e, e2] [] pos] X.env = (false, eval (.Call (.Name "zip" p) [e, e2] [] pos) X.env) :: starEach [] X.env := by rfl) :
    PE X (.Call (.Name "list" p2) [.Call (.Name "zip" p) [e, e2] [] pos] [] pos2) (tLZ ta) := by
  refine ⟨fun pins s σ H Q I h => ?_⟩
  refine wpAny_Call_Name_kw (ld_blt I hg2 hm2 (show bootBuiltins "list" = some (.type "list") by decide +kernel) ?_ (by decide) (by decide))
  refine PyProof.Rows.callWith_type1 ?_ he2 rfl
  rw [he2]
  show wpAny _ _ (spliced ((false, eval (.Call (.Name "zip" p) [e, e2] [] pos) X.env) :: backTo pos2 (starEach [] X.env))) _ _ s
  refine Calls.spliced_cons ?_
  refine Call_ (ld_blt I hg hm PyProof.Rows.boot_zip (PyProof.Rows.callWith_type1 (thn (ha.run pos pins s σ H _ I h) fun us s1 ⟨vs, H1, I1, r1, q1⟩ => ?_) hs hpl))
  obtain ⟨x, y, mk, mk', ex, s1', s2', q⟩ := q1
  subst ex
  obtain ⟨u1, u2, rfl, rx, ry⟩ := vals2 r1
  obtain ⟨t, ok1, e1, _⟩ := srcOf_ok s1' rx
  obtain ⟨t', ok2, e2', _⟩ := srcOf_ok s2' ry
  obtain ⟨HH1, B1, b1⟩ := src_begins I1 ok1
  obtain ⟨HH2, B2, b2⟩ := src_begins I1 ok2
  rw [e1] at B1
  rw [e2'] at B2
  refine zip_begins2 B1 B2 b1 b2 fun h' hz hTI hTO h1 h2 hsz hk => ?_
  have I2 : Inv X pins σ H1 { s1 with heap := h' } := I1.kept (t' := s1.toks) hk
  have fresh5 : ∀ c, c ∈ [s1.heap.objs.size + 4, s1.heap.objs.size + 2, s1.heap.objs.size + 3, s1.heap.objs.size, s1.heap.objs.size + 1] → FpOk X pins H1 c := fun c hcm => by
    have e' : c = s1.heap.objs.size + 4 ∨ c = s1.heap.objs.size + 2 ∨ c = s1.heap.objs.size + 3 ∨ c = s1.heap.objs.size ∨ c = s1.heap.objs.size + 1 := by simpa using hcm
    have hle : s1.heap.objs.size ≤ c := by
      rcases e' with z | z | z | z | z
      · rw [z]; exact Nat.le_add_right _ _
      · rw [z]; exact Nat.le_add_right _ _
      · rw [z]; exact Nat.le_add_right _ _
      · rw [z]; exact Nat.le_refl _
      · rw [z]; exact Nat.le_add_right _ _
    exact I1.fpOk hle (I1.hok.fresh hle)
  refine Calls.spliced_nil ?_
  obtain ⟨hmin, q⟩ := q t t'
  refine lz_call (S := mk t) (T := mk' t') hh ?_ hmin ok1 ok2 I2 fresh5 hz hTI ⟨_, _, hTO⟩ (Src.st0 h1) (Src.st0 h2) fun s' H' L ys hL hn I' => ⟨.ref L, _, I', rfl, q H' ys L hL hn⟩
  generalize s1.heap.objs.size = n
  show ([(n + 4 : Nat), n + 2, n + 3, n, n + 1] : List Nat).Nodup
  simp
end
def listZip (ds : List D) : Res D := match zipD ds with
  | .ok ys => lstD ys
  | _ => .bad
section
variable {X : Cx} {p : Par} {W : WX} {O : List Nat} {pos pos2 pos' p2 : Pos} {e e2 : Expr} {fs : Env → Res (List D)}
theorem lzc_grow {S T : Src} {G H H2 : Hp} {xs ys : List D} {n : Nat} {vs : List V} (b : Same G H) (hl : LZC S T H n H2 vs) (h1 : ∀ i x, S.get i = some x → ∃ d, xs[i]? = some d ∧ Rep p G x d) (h2 : ∀ i x, T.get i = some x → ∃ d, ys[i]? = some d ∧ Rep p G x d) :
    ∃ G2, Grow G H G2 H2 ∧ Reps p G2 vs (((xs.zip ys).map fun e => D.tup [e.1, e.2]).take n) := by
  induction hl with
  | nil => exact ⟨G, .refl b, .nil⟩
  | @snoc i H' ys' a x y hl hn gx gy ih =>
    obtain ⟨G2, g, rs⟩ := ih
    obtain ⟨d1, e1, q1⟩ := h1 _ _ gx
    obtain ⟨d2, e2, q2⟩ := h2 _ _ gy
    have gr : Grow G2 H' (upd G2 a (.tup [x, y])) (upd H' a (.tup [x, y])) := Grow.alloc g.below hn
    refine ⟨_, g.trans gr, ?_⟩
    have hz : ((xs.zip ys).map fun e => D.tup [e.1, e.2])[i]? = some (.tup [d1, d2]) := by
      rw [List.getElem?_map, (List.getElem?_zip_eq_some (z := (d1, d2))).mpr ⟨e1, e2⟩]
      rfl
    rw [List.take_add_one, hz]
    exact (rs.mono gr.sub).append (.cons (.tup upd_same (.cons ((q1.mono g.sub).mono gr.sub) (.cons ((q2.mono g.sub).mono gr.sub) .nil))) .nil)
theorem r_listZip (hh : X.A.handled = none) (hg : Gl X "zip") (hm : X.mg "zip" = none) (hg2 : Gl X "list") (hm2 : X.mg "list" = none) (ha : PA X [e, e2] (rdA p W O fs))
    (hs : starEach [e, e2] X.env = (false, eval e X.env) :: starEach [e2] X.env := by rfl) (hpl : (backTo pos (starEach [e2] X.env)).any (·.1) = false := by rfl)
    (he2 : starEach [.Call (.Name "zip" pos') [e, e2] [] pos] X.env = (false, eval (.Call (.Name "zip" pos') [e, e2] [] pos) X.env) :: starEach [] X.env := by rfl) :
    PE X (.Call (.Name "list" p2) [.Call (.Name "zip" pos') [e, e2] [] pos] [] pos2) (rdF p W O (eArgs listZip fs)) := by
  refine pe_w (pe_listZip hg hm hg2 hm2 ha hh hs hpl he2) fun σ H Q ⟨Z, r, q⟩ => ⟨Z, r, post_imp (post_bind q) fun ds G' H' g q1 vs rs => ?_⟩
  unfold listZip at q1
  cases hz : zipD ds with
  | exc c => rw [hz] at q1; exact q1.elim
  | bad => rw [hz] at q1; exact q1.elim
  | ok zs =>
    rw [hz] at q1
    dsimp only at q1
    unfold lstD at q1
    split at q1
    · rename_i hlen
      unfold zipD at hz
      split at hz
      · rename_i a b
        cases ha : zipItems a with
        | exc c => unfold zipItems at ha; split at ha <;> cases ha
        | bad => rw [ha] at hz; cases hz
        | ok xs =>
          cases hb : zipItems b with
          | exc c => unfold zipItems at hb; split at hb <;> cases hb
          | bad => rw [ha, hb] at hz; cases hz
          | ok ys =>
            rw [ha, hb] at hz
            cases hz
            cases rs with
            | cons r1 r2 =>
              cases r2 with
              | cons r2 r3 =>
                cases r3
                obtain ⟨mk, s1, w1⟩ := src_of g.below r1 ha
                obtain ⟨mk', s2, w2⟩ := src_of g.below r2 hb
                refine ⟨_, _, mk, mk', rfl, s1, s2, fun t t' => ⟨?_, fun H2 us L hL hn => ?_⟩⟩
                · rw [(w1 t).1, (w2 t').1]
                  have h2 := lim_line hlen
                  simpa using h2
                · obtain ⟨G2, gr, rep⟩ := lzc_grow g.below hL (w1 t).2.2 (w2 t').2.2
                  rw [(w1 t).1, (w2 t').1, List.take_of_length_le (by simp)] at rep
                  exact q1 _ _ gr L _ (Grow.allocO gr.below hn) hn (.inl ⟨_, _, rfl, upd_same, rep⟩)
      · cases hz
    · exact q1.elim
end
end PL
set_option Elab.async false
set_option linter.all false
set_option maxRecDepth 100000
set_option maxHeartbeats 4000000
namespace PL
open PySem PySem.Spec PyProof.Rows L2
theorem okR_wide {lo hi lo' hi' x : Int} (h1 : lo' ≤ lo) (h2 : hi ≤ hi') (h : okR lo hi x = true) : okR lo' hi' x = true := by
  rw [okR_iff] at h ⊢; omega
theorem rd_wide {lo hi lo' hi' : Int} (h1 : lo' ≤ lo) (h2 : hi ≤ hi') {t : Int} {f : Bool} {ns : List Int} {ks : List Nat} (h : ks ∈ rd lo hi t f ns) : ks ∈ rd lo' hi' t f ns := by
  have R := mem_rd.mp h
  exact mem_rd.mpr ⟨R.len, R.al, R.hd, fun l hl => okR_wide h1 h2 (R.ok l hl)⟩
theorem cnt_wide {lo hi lo' hi' : Int} (h1 : lo' ≤ lo) (h2 : hi ≤ hi') (ns : List Int) : cnt lo hi 0 true ns ≤ cnt lo' hi' 0 true ns := by
  rw [← rd_cnt, ← rd_cnt]
  exact nodup_len _ _ (rd_nodup _ _ _ _ _) fun x hx => rd_wide h1 h2 hx
theorem rd_take {lo hi : Int} {ns : List Int} {ks : List Nat} (h : ks ∈ rd lo hi 0 true ns) (m : Nat) : ks.take m ∈ rd lo hi 0 true (ns.take m) := by
  have h0 : ks ∈ rd lo hi 0 true (ns.take m ++ ns.drop m) := by rw [List.take_append_drop]; exact h
  obtain ⟨p, q, e, h1, h2⟩ := rd_split.mp h0
  have hp := rd_len h1
  have hq := rd_len h2
  have hl := rd_len h
  have : ks.take m = p := by
    rw [List.length_take] at hp
    rw [e]
    by_cases hm : m ≤ ns.length
    · rw [Nat.min_eq_left hm] at hp
      rw [← hp, List.take_left]
    · rw [List.length_drop] at hq
      have : q = [] := List.length_eq_zero_iff.mp (by omega)
      rw [this, List.append_nil, List.take_of_length_le (by omega)]
  rw [this]
  exact h1
theorem fit_rd {lo hi : Int} {ns : List Int} {ks : List Nat} (h : ks ∈ rd lo hi 0 true ns) : (lapsM 0 ns ks).all (okR lo hi) = true := List.all_eq_true.mpr fun l hl => (mem_rd.mp h).ok l hl
theorem pt_wide {lo hi lo' hi' : Int} (h1 : lo' ≤ lo) (h2 : hi ≤ hi') {ns : List Int} {m : Nat} (hm : m ≤ ns.length) {t : Int} (h : t ∈ ptS lo hi ns m) : t ∈ ptS lo' hi' ns m := by
  obtain ⟨ks, hk, e⟩ := (mem_ptS hm).mp h
  exact (mem_ptS hm).mpr ⟨ks, rd_wide h1 h2 hk, e⟩
theorem pt_take {lo hi : Int} {ns : List Int} {m : Nat} (hm : m ≤ ns.length) {t : Int} (h : t ∈ ptS lo hi ns m) : t ∈ ptS lo hi (ns.take m) m := by
  obtain ⟨ks, hk, e⟩ := (mem_ptS hm).mp h
  refine (mem_ptS (by rw [List.length_take]; omega)).mpr ⟨ks.take m, rd_take hk m, ?_⟩
  rw [List.take_take, List.take_take, Nat.min_self]
  exact e
theorem skc_sub {l l' : List Nat} (h : ∀ x ∈ l, x ∈ l') (hne : l ≠ []) (h1 : ∀ x ∈ l', x = 108 ∨ x = 116) : skc l' = skc l ∨ skc l' = 63 := by
  by_cases h2 : 108 ∈ l' ∧ 116 ∈ l'
  · exact .inr (if_pos h2)
  · left
    have h3 : ¬ (108 ∈ l ∧ 116 ∈ l) := fun q => h2 ⟨h _ q.1, h _ q.2⟩
    unfold skc
    rw [if_neg h2, if_neg h3]
    cases l with
    | nil => exact absurd rfl hne
    | cons a t =>
      have ha := h a (List.mem_cons_self ..)
      cases l' with
      | nil => simp at ha
      | cons b t' =>
        show b = a
        have hb := h1 b (List.mem_cons_self ..)
        have ha' := h1 a ha
        rcases hb with e | e <;> rcases ha' with e' | e'
        · rw [e, e']
        · exact absurd ⟨e ▸ List.mem_cons_self .., e' ▸ ha⟩ h2
        · exact absurd ⟨e' ▸ ha, e ▸ List.mem_cons_self ..⟩ h2
        · rw [e, e']
theorem sk_wide {lo hi lo' hi' : Int} (h1 : lo' ≤ lo) (h2 : hi ≤ hi') {ns : List Int} (hr : rd lo hi 0 true ns ≠ []) {i : Nat} (hin : i < ns.length) : skc (kAt lo' hi' ns i) = skc (kAt lo hi ns i) ∨ skc (kAt lo' hi' ns i) = 63 := by
  refine skc_sub (fun x hx => ?_) (kAt_ne hin hr) fun x hx => kAt_or hin hx
  obtain ⟨ks, hk, e⟩ := (mem_kAt hin).mp hx
  exact (mem_kAt hin).mpr ⟨ks, rd_wide h1 h2 hk, e⟩
theorem okR_mul {u : Int} (hu : 0 < u) (lo hi x : Int) : okR (lo * u) (hi * u) (x * u) = okR lo hi x := by
  unfold okR
  have h1 : (lo * u ≤ x * u) ↔ lo ≤ x := Int.mul_le_mul_right hu
  have h2 : (x * u ≤ hi * u) ↔ x ≤ hi := Int.mul_le_mul_right hu
  rw [decide_eq_decide.mpr h1, decide_eq_decide.mpr h2]
theorem steps_mul {u : Int} (hu : 0 < u) (lo hi t n : Int) (f : Bool) : stepsM (lo * u) (hi * u) (t * u) (n * u) f = (stepsM lo hi t n f).map fun e => (e.1, e.2 * u) := by
  unfold stepsM
  rw [← Int.sub_mul, okR_mul hu, okR_mul hu, ← Int.add_mul]
  cases okR lo hi n <;> cases (!f && okR lo hi (n - t)) <;> rfl
theorem rd_mul {u : Int} (hu : 0 < u) (lo hi : Int) : ∀ (ns : List Int) (t : Int) (f : Bool), rd (lo * u) (hi * u) (t * u) f (ns.map (· * u)) = rd lo hi t f ns
  | [], _, _ => rfl
  | n :: ns, t, f => by
    show (stepsM (lo * u) (hi * u) (t * u) (n * u) f).flatMap (fun e => (rd (lo * u) (hi * u) e.2 false (ns.map (· * u))).map (e.1 :: ·)) = (stepsM lo hi t n f).flatMap fun e => (rd lo hi e.2 false ns).map (e.1 :: ·)
    rw [steps_mul hu, List.flatMap_map]
    refine congrArg List.flatten (List.map_congr_left fun e _ => ?_)
    show (rd (lo * u) (hi * u) (e.2 * u) false (ns.map (· * u))).map (e.1 :: ·) = _
    rw [rd_mul hu lo hi ns e.2 false]
theorem rd_mul0 {u : Int} (hu : 0 < u) (lo hi : Int) (ns : List Int) : rd (lo * u) (hi * u) 0 true (ns.map (· * u)) = rd lo hi 0 true ns := by
  have := rd_mul hu lo hi ns 0 true
  rwa [Int.zero_mul] at this
theorem tm_mul (u : Int) : ∀ (ns : List Int) (ks : List Nat) (t : Int), tmM (t * u) (ns.map (· * u)) ks = tmM t ns ks * u
  | [], ks, t => by cases ks <;> rfl
  | n :: ns, [], t => rfl
  | n :: ns, k :: ks, t => by
    show tmM (if k = 108 then t * u + n * u else n * u) (ns.map (· * u)) ks = tmM (if k = 108 then t + n else n) ns ks * u
    rw [← tm_mul u ns ks]
    by_cases hk : k = 108
    · rw [if_pos hk, if_pos hk, Int.add_mul]
    · rw [if_neg hk, if_neg hk]
theorem pt_lt (lo hi : Int) {ns : List Int} {m : Nat} (hm : m ≤ ns.length) : (isort ltI (ptS lo hi ns m)).Pairwise (· < ·) :=
  lt_of_le_nodup _ ((isort_srt swoI _).imp fun {a b} h => Int.not_lt.mp (of_decide_eq_false h)) ((isort_perm ltI _).nodup_iff.mpr ((fwAt_nodup lo hi hm).filter _))
theorem pt_mul {u : Int} (hu : 0 < u) (lo hi : Int) {ns : List Int} {m : Nat} (hm : m ≤ ns.length) : isort ltI (ptS (lo * u) (hi * u) (ns.map (· * u)) m) = (isort ltI (ptS lo hi ns m)).map (· * u) := by
  have hm' : m ≤ (ns.map (· * u)).length := by rw [List.length_map]; exact hm
  refine lt_uniq (pt_lt _ _ hm') (List.pairwise_map.mpr ((pt_lt lo hi hm).imp fun {a b} h => Int.mul_lt_mul_of_pos_right h hu)) fun x => ?_
  rw [(isort_perm ltI _).mem_iff, mem_ptS hm', List.mem_map]
  rw [rd_mul0 hu]
  constructor
  · rintro ⟨ks, hk, e⟩
    refine ⟨tmM 0 (ns.take m) (ks.take m), ((isort_perm ltI _).mem_iff).mpr ((mem_ptS hm).mpr ⟨ks, hk, rfl⟩), ?_⟩
    rw [← e, ← List.map_take, ← tm_mul, Int.zero_mul]
  · rintro ⟨t, ht, rfl⟩
    obtain ⟨ks, hk, e⟩ := (mem_ptS hm).mp (((isort_perm ltI _).mem_iff).mp ht)
    refine ⟨ks, hk, ?_⟩
    rw [← e, ← List.map_take, ← tm_mul, Int.zero_mul]
end PL
set_option Elab.async false
set_option linter.all false
set_option maxRecDepth 100000
set_option maxHeartbeats 4000000
namespace PL
open PySem PySem.Spec PyProof.Rows L2
def C_law_1 : Env → Res D :=
  (eComp (fun ρ => ((eVar 11) ρ).bind itemsD) (gtN 13) (tCmp notInD (eVar 13) (eVar 12)) (eVar 13) [13])
def C_law_2 : Env → Res D :=
  (eComp (fun ρ => ((eVar 11) ρ).bind itemsD) (gtN 13) (tCmp notInD (eVar 13) (eArgs S_possible_times (aCons (eVar 3) (aCons (eSlice (eVar 5) oNone (oSome (eBin addD (eVar 10) (eCst (.int 1))))) (aCons (eVar 10) aNil))))) (eVar 13) [13])
def B_law_1 : Env → Out :=
  (sSeq (sIf (tOr (tCmp ltD (eArgs S_count_readings (aCons (eVar 3) (aCons (eSlice (eVar 5) oNone (oSome (eVar 10))) aNil))) (eCst (.int 1))) (tNot (tVal (eArgs S_fits (aCons (eVar 3) (aCons (eSlice (eVar 5) oNone (oSome (eVar 10))) (aCons (eSlice (eVar 9) oNone (oSome (eVar 10))) aNil))))))) (sRet (eCst (.bl false))) sNil)
    (sSeq (sSet 11 (eArgs S_possible_times (aCons (eVar 3) (aCons (eVar 5) (aCons (eVar 10) aNil)))))
    (sSeq (sSet 12 (eArgs S_possible_times (aCons (eVar 6) (aCons (eVar 5) (aCons (eVar 10) aNil)))))
    (sSeq (sIf (tCmp neD C_law_1 (eArgs lstD aNil)) (sRet (eCst (.bl false))) sNil)
    (sIf (tCmp neD C_law_2 (eArgs lstD aNil)) (sRet (eCst (.bl false))) sNil)))))
def C_law_3 : Env → Res D :=
  (eComp (fun ρ => ((eVar 14) ρ).bind itemsD) (gtT [15, 16]) (tCmp notInD (eVar 16) (eArgs tupD (aCons (eVar 15) (aCons (eCst (.str [63])) aNil)))) (eCst (.int 1)) [15, 16])
def C_law_4 : Env → Res D :=
  (eComp (fun ρ => ((eVar 5) ρ).bind itemsD) (gtN 20) tTrue (eBin mulD (eVar 20) (eVar 17)) [20])
def C_law_5 : Env → Res D :=
  (eComp (fun ρ => ((eArgs S_possible_times (aCons (eVar 3) (aCons (eVar 5) (aCons (eVar 10) aNil)))) ρ).bind itemsD) (gtN 13) tTrue (eBin mulD (eVar 13) (eVar 17)) [13])
def B_law_2 : Env → Out :=
  (sSeq (sSet 2 (eArgs S__law_digits (aCons (eVar 0) (aCons (eVar 1) (aCons (eCst (.int 100)) (aCons (eCst (.int 27720)) aNil))))))
    (sSeq (sUnp (gtT [3, 4]) (eArgs tupD (aCons (eArgs S__law_bounds (aCons (eVar 2) aNil)) (aCons (eBin addD (eCst (.int 1)) (eBin modD (eBin idxD (eVar 2) (eCst (.int 4))) (eCst (.int 20)))) aNil))))
    (sSeq (sSet 5 (eArgs S__law_noted (aCons (eArgs S__law_lengths (aCons (eSlice (eVar 2) (oSome (eCst (.int 20))) oNone) (aCons (eVar 3) (aCons (eVar 4) aNil)))) (aCons (eArgs S__law_kinds (aCons (eSlice (eVar 2) (oSome (eCst (.int 5))) oNone) (aCons (eVar 4) aNil))) aNil))))
    (sSeq (sSet 6 (eArgs tupD (aCons (eArgs maxD (aCons (eCst (.int 1)) (aCons (eBin subD (eBin idxD (eVar 3) (eCst (.int 0))) (eBin modD (eBin idxD (eVar 2) (eCst (.int 90))) (eCst (.int 4)))) aNil))) (aCons (eBin addD (eBin idxD (eVar 3) (eCst (.int 1))) (eBin modD (eBin idxD (eVar 2) (eCst (.int 91))) (eCst (.int 9)))) aNil))))
    (sSeq (sSet 7 (eBin modD (eBin idxD (eVar 2) (eCst (.int 92))) (eArgs S_count_readings (aCons (eVar 3) (aCons (eVar 5) aNil)))))
    (sSeq (sSet 8 (eArgs S_count_readings (aCons (eVar 6) (aCons (eVar 5) aNil))))
    (sSeq (sSet 9 (eArgs S_reading_at (aCons (eVar 3) (aCons (eVar 5) (aCons (eVar 7) aNil)))))
    (sSeq (sIf (tOr (tCmp ltD (eVar 8) (eArgs S_count_readings (aCons (eVar 3) (aCons (eVar 5) aNil)))) (tNot (tVal (eArgs S_fits (aCons (eVar 6) (aCons (eVar 5) (aCons (eVar 9) aNil))))))) (sRet (eCst (.bl false))) sNil)
    (sSeq (sFor (fun ρ => ((aCons (eVar 4) aNil) ρ).bind rng1) (gtN 10) B_law_1)
    (sSeq (sSet 14 (eArgs listZip (aCons (eArgs S_sure_kinds (aCons (eVar 3) (aCons (eVar 5) aNil))) (aCons (eArgs S_sure_kinds (aCons (eVar 6) (aCons (eVar 5) aNil))) aNil))))
    (sSeq (sIf (tCmp neD C_law_3 (eArgs lstD aNil)) (sRet (eCst (.bl false))) sNil)
    (sSeq (sSet 17 (eBin addD (eCst (.int 2)) (eBin modD (eBin idxD (eVar 2) (eCst (.int 93))) (eCst (.int 30)))))
    (sSeq (sSet 18 (eArgs tupD (aCons (eBin mulD (eBin idxD (eVar 3) (eCst (.int 0))) (eVar 17)) (aCons (eBin mulD (eBin idxD (eVar 3) (eCst (.int 1))) (eVar 17)) aNil))))
    (sSeq (sSet 19 (eArgs tupOf (aCons C_law_4 aNil)))
    (sSeq (sIf (tOr (tCmp neD (eArgs S_count_readings (aCons (eVar 18) (aCons (eVar 19) aNil))) (eArgs S_count_readings (aCons (eVar 3) (aCons (eVar 5) aNil)))) (tCmp neD (eArgs S_reading_at (aCons (eVar 18) (aCons (eVar 19) (aCons (eVar 7) aNil)))) (eVar 9))) (sRet (eCst (.bl false))) sNil)
    (sSeq (sSet 10 (eBin modD (eBin idxD (eVar 2) (eCst (.int 94))) (eVar 4)))
    (sIf (tCmp neD (eArgs S_possible_times (aCons (eVar 18) (aCons (eVar 19) (aCons (eVar 10) aNil)))) C_law_5) (sRet (eCst (.bl false))) sNil)))))))))))))))))
def B_law : Env → Out :=
  (sSeq (sFor (fun ρ => ((aCons (eCst (.int 6)) aNil) ρ).bind rng1) (gtN 1) B_law_2)
    (sSeq (sIf (tCmp neD (eArgs (listG S_readings) (aCons (eArgs tupD (aCons (eCst (.int 10)) (aCons (eCst (.int 35)) aNil))) (aCons (eArgs tupD (aCons (eCst (.int 12)) (aCons (eCst (.int 30)) (aCons (eCst (.int 35)) aNil)))) aNil))) (eArgs lstD (aCons (eCst (.str [108, 108, 108])) (aCons (eCst (.str [108, 116, 108])) aNil)))) (sRet (eCst (.bl false))) sNil)
    (sRet (eTst (tCmp eqD (eArgs (listG S_readings) (aCons (eArgs tupD (aCons (eCst (.int 10)) (aCons (eCst (.int 40)) aNil))) (aCons (eArgs tupD (aCons (eCst (.int 12)) (aCons (eCst (.int 30)) (aCons (eCst (.int 35)) aNil)))) aNil))) (eArgs lstD (aCons (eCst (.str [108, 108, 108])) (aCons (eCst (.str [108, 116, 108])) aNil))))))))
def S_law : List D → Res D := runD 1 21 B_law
theorem R_law (a0 : D) : S_law [a0] = (B_law [some a0, none, none, none, none, none, none, none, none, none, none, none, none, none, none, none, none, none, none, none, none]).res := runD_eq (by rfl)
end PL
set_option Elab.async false
set_option linter.all false
set_option maxRecDepth 100000
set_option maxHeartbeats 4000000
namespace PL
open PySem PySem.Spec PyProof.Rows L2
theorem slS_to (z : List Nat) (k : Nat) (h : z.length < 100000) : sliceD (.str z) none (some (k : Int)) = .ok (.str (z.take k)) := by
  show (if z.length ≤ LIM then Res.ok (D.str (PL.cut z none (some (k : Int)))) else .bad) = _
  rw [if_pos (by unfold LIM; omega)]
  exact congrArg (fun l => Res.ok (D.str l)) (cut_to z k)
theorem flt_no {α : Type} (l : List α) : (l.filter fun _ => false) = [] := List.filter_eq_nil_iff.mpr fun _ _ h => by cases h
theorem flt_yes {α : Type} (l : List α) : (l.filter fun _ => true) = l := List.filter_eq_self.mpr fun _ _ => rfl
theorem k12_1 (sc ix ds mn nb tt g14 g15 g16 g17 g18 g19 g20 : Option D) {lo hi lo' hi' : Int} (h1 : lo' ≤ lo) (h2 : hi ≤ hi') {ns : List Int} (hn : ns.length ≤ 20) {one : List Nat} (ho : one ∈ rd lo hi 0 true ns) (i : Nat) (hin : i < ns.length) (g11 g12 : Option D) :
    ∃ g11' g12', B_law_1 [sc, ix, ds, some (pr lo hi), mn, some (tupI ns), some (pr lo' hi'), nb, tt, some (.str one), some (.int (i : Nat)), g11, g12, none, g14, g15, g16, g17, g18, g19, g20] = .next [sc, ix, ds, some (pr lo hi), mn, some (tupI ns), some (pr lo' hi'), nb, tt, some (.str one), some (.int (i : Nat)), g11', g12', none, g14, g15, g16, g17, g18, g19, g20] := by
  have hl := rd_len ho
  have e1 : (i : Int) + 1 = ((i + 1 : Nat) : Int) := rfl
  have ht := rd_take ho i
  have hc : decide (((cnt lo hi 0 true (ns.take i) : Nat) : Int) < 1) = false := decide_eq_false (by
    have h1 := rd_cnt lo hi (ns.take i) 0 true
    have h2 := List.length_pos_iff.mpr (List.ne_nil_of_mem ht)
    omega)
  have hm1 : i + 1 ≤ ns.length := hin
  have hlt : (ns.take (i + 1)).length = i + 1 := by rw [List.length_take]; omega
  have it : ∀ l : List Int, itemsD (lstI l) = .ok (l.map D.int) := fun _ => rfl
  generalize hF : isort ltI (ptS lo hi ns (i + 1)) = few
  generalize hM : isort ltI (ptS lo' hi' ns (i + 1)) = more
  have hsub : ∀ x ∈ few, x ∈ more := fun x hx => by
    rw [← hM, (isort_perm ltI _).mem_iff]
    rw [← hF, (isort_perm ltI _).mem_iff] at hx
    exact pt_wide h1 h2 hm1 hx
  have hsub2 : ∀ x ∈ few, x ∈ isort ltI (ptS lo hi (ns.take (i + 1)) (i + 1)) := fun x hx => by
    rw [(isort_perm ltI _).mem_iff]
    rw [← hF, (isort_perm ltI _).mem_iff] at hx
    exact pt_take hm1 hx
  have c1 := compL_map (f := D.int) (g := gtN 13) (c := tCmp notInD (eVar 13) (eVar 12)) (e := eVar 13) (ρ := [sc, ix, ds, some (pr lo hi), mn, some (tupI ns), some (pr lo' hi'), nb, tt, some (.str one), some (.int (i : Nat)), some (lstI few), some (lstI more), none, g14, g15, g16, g17, g18, g19, g20]) (fun _ => false) (fun _ => D.int 0) few fun x hx => ⟨[sc, ix, ds, some (pr lo hi), mn, some (tupI ns), some (pr lo' hi'), nb, tt, some (.str one), some (.int (i : Nat)), some (lstI few), some (lstI more), some (.int x), g14, g15, g16, g17, g18, g19, g20], rfl, by
    simp only [ev_seq, ev_nil, ev_set, ev_ret, ev_if, ev_for, forI_ok, ev_varS, ev_var0, ev_cst, ev_un, ev_bin, ev_eif, ev_tst, blD_bl, ev_tval, ev_cmp, ev_chn, ev_tnot, ev_tand, ev_tor, ev_anil, ev_acons, ev_args, ev_eand, ev_eor, notD_bl, addD_int, subD_int, negD_int, ltD_int, leD_int, gtD_int, geD_int, eqD_int, neD_int, ev_app, lstOf_lst, dctOf_dct, ev_par2, noX_ok, ev_unp, gtN_eq, gtT2, tup2, tup1, tup0, lst0, lst1, idx_pair0, idx_pair1, thn_next, thn_ret, thn_exc, thn_bad, res_next, res_ret, cnd_ok, env_ok, out_ok, bind_ok, forB_ok, setAll_cons, setAll_nil, List.set_cons_succ, List.set_cons_zero, ev_dset, ev_daug, ev_get2, getOr_int, dctOf_I, ev_comp, wipeE_cons, wipeE_nil, ev_slice, ev_onone, ev_osome, intOf_int, ev_ttrue, ev_count, strOf_str, cntS_ch, revD_tup, notInD, in_lstJ, decide_eq_true (hsub x hx), Bool.not_true], fun h => by cases h⟩
  have c2 := compL_map (f := D.int) (g := gtN 13) (c := tCmp notInD (eVar 13) (eArgs S_possible_times (aCons (eVar 3) (aCons (eSlice (eVar 5) oNone (oSome (eBin addD (eVar 10) (eCst (.int 1))))) (aCons (eVar 10) aNil))))) (e := eVar 13) (ρ := [sc, ix, ds, some (pr lo hi), mn, some (tupI ns), some (pr lo' hi'), nb, tt, some (.str one), some (.int (i : Nat)), some (lstI few), some (lstI more), none, g14, g15, g16, g17, g18, g19, g20]) (fun _ => false) (fun _ => D.int 0) few fun x hx => ⟨[sc, ix, ds, some (pr lo hi), mn, some (tupI ns), some (pr lo' hi'), nb, tt, some (.str one), some (.int (i : Nat)), some (lstI few), some (lstI more), some (.int x), g14, g15, g16, g17, g18, g19, g20], rfl, by
    simp only [ev_seq, ev_nil, ev_set, ev_ret, ev_if, ev_for, forI_ok, ev_varS, ev_var0, ev_cst, ev_un, ev_bin, ev_eif, ev_tst, blD_bl, ev_tval, ev_cmp, ev_chn, ev_tnot, ev_tand, ev_tor, ev_anil, ev_acons, ev_args, ev_eand, ev_eor, notD_bl, addD_int, subD_int, negD_int, ltD_int, leD_int, gtD_int, geD_int, eqD_int, neD_int, ev_app, lstOf_lst, dctOf_dct, ev_par2, noX_ok, ev_unp, gtN_eq, gtT2, tup2, tup1, tup0, lst0, lst1, idx_pair0, idx_pair1, thn_next, thn_ret, thn_exc, thn_bad, res_next, res_ret, cnd_ok, env_ok, out_ok, bind_ok, forB_ok, setAll_cons, setAll_nil, List.set_cons_succ, List.set_cons_zero, ev_dset, ev_daug, ev_get2, getOr_int, dctOf_I, ev_comp, wipeE_cons, wipeE_nil, ev_slice, ev_onone, ev_osome, intOf_int, ev_ttrue, ev_count, strOf_str, cntS_ch, revD_tup, e1, take_tup, possible_eq lo hi (ns.take (i + 1)) i (by omega) (by omega), notInD, in_lstJ, decide_eq_true (hsub2 x hx), Bool.not_true], fun h => by cases h⟩
  have hnil : ∀ l : List Int, (l.filter fun _ => false).map (fun _ => D.int 0) = [] := fun l => by rw [flt_no]; rfl
  rw [hnil] at c1 c2
  have n0 : neD (.lst []) (.lst []) = .ok false := by rfl
  refine ⟨some (lstI few), some (lstI more), ?_⟩
  simp only [B_law_1, C_law_1, C_law_2, ev_seq, ev_nil, ev_set, ev_ret, ev_if, ev_for, forI_ok, ev_varS, ev_var0, ev_cst, ev_un, ev_bin, ev_eif, ev_tst, blD_bl, ev_tval, ev_cmp, ev_chn, ev_tnot, ev_tand, ev_tor, ev_anil, ev_acons, ev_args, ev_eand, ev_eor, notD_bl, addD_int, subD_int, negD_int, ltD_int, leD_int, gtD_int, geD_int, eqD_int, neD_int, ev_app, lstOf_lst, dctOf_dct, ev_par2, noX_ok, ev_unp, gtN_eq, gtT2, tup2, tup1, tup0, lst0, lst1, idx_pair0, idx_pair1, thn_next, thn_ret, thn_exc, thn_bad, res_next, res_ret, cnd_ok, env_ok, out_ok, bind_ok, forB_ok, setAll_cons, setAll_nil, List.set_cons_succ, List.set_cons_zero, ev_dset, ev_daug, ev_get2, getOr_int, dctOf_I, ev_comp, wipeE_cons, wipeE_nil, ev_slice, ev_onone, ev_osome, intOf_int, ev_ttrue, ev_count, strOf_str, cntS_ch, revD_tup, take_tup, slS_to one i (by omega), count_eq lo hi (ns.take i) (by rw [List.length_take]; omega), hc, fits_eq lo hi (ns.take i) (one.take i) (rd_KS ht) (by rw [List.length_take]; omega), fit_rd ht, possible_eq lo hi ns i hin (by omega), possible_eq lo' hi' ns i hin (by omega), hF, hM, it, c1, c2, n0, Bool.false_eq_true, if_false, Bool.not_true]
theorem k12_l (sc ix ds mn nb tt g14 g15 g16 g17 g18 g19 g20 : Option D) {lo hi lo' hi' : Int} (h1 : lo' ≤ lo) (h2 : hi ≤ hi') {ns : List Int} (hn : ns.length ≤ 20) {one : List Nat} (ho : one ∈ rd lo hi 0 true ns) : ∀ (is : List Nat) (g10 g11 g12 : Option D), (∀ i ∈ is, i < ns.length) →
    ∃ g10' g11' g12', forL (gtN 10) B_law_1 (is.map fun i : Nat => D.int (i : Nat)) [sc, ix, ds, some (pr lo hi), mn, some (tupI ns), some (pr lo' hi'), nb, tt, some (.str one), g10, g11, g12, none, g14, g15, g16, g17, g18, g19, g20] = .next [sc, ix, ds, some (pr lo hi), mn, some (tupI ns), some (pr lo' hi'), nb, tt, some (.str one), g10', g11', g12', none, g14, g15, g16, g17, g18, g19, g20] := by
  intro is
  induction is with
  | nil => exact fun g10 g11 g12 _ => ⟨g10, g11, g12, forL_nil ..⟩
  | cons i is ih =>
    intro g10 g11 g12 h
    obtain ⟨x11, x12, e1⟩ := k12_1 sc ix ds mn nb tt g14 g15 g16 g17 g18 g19 g20 h1 h2 hn ho i (h i (List.mem_cons_self ..)) g11 g12
    obtain ⟨y10, y11, y12, e2⟩ := ih (some (.int (i : Nat))) x11 x12 fun j hj => h j (List.mem_cons_of_mem _ hj)
    exact ⟨y10, y11, y12, (forL_step (gtN_eq ..) e1).trans e2⟩
def sgD (lo hi lo' hi' : Int) (ns : List Int) (i : Nat) : D := .tup [.str [skc (kAt lo hi ns i)], .str [skc (kAt lo' hi' ns i)]]
theorem zip_signs (lo hi lo' hi' : Int) {ns : List Int} (hn : ns.length ≤ 20) : listZip [.str (skS lo hi ns), .str (skS lo' hi' ns)] = .ok (.lst ((List.range ns.length).map (sgD lo hi lo' hi' ns))) := by
  have e : zipD [.str (skS lo hi ns), .str (skS lo' hi' ns)] = .ok ((List.range ns.length).map (sgD lo hi lo' hi' ns)) := by
    show Res.ok ((((skS lo hi ns).map fun c => D.str [c]).zip ((skS lo' hi' ns).map fun c => D.str [c])).map fun e => D.tup [e.1, e.2]) = _
    unfold skS
    rw [List.map_map, List.map_map, List.zip_map', List.map_map]
    rfl
  unfold listZip
  rw [e]
  exact if_pos (by rw [List.length_map, List.length_range]; unfold LIM; omega)
theorem in_sign {o s : Nat} (h : o = s ∨ o = 63) : notInD (.str [o]) (.tup [.str [s], .str [63]]) = .ok false := by
  have e1 : inD (.str [o]) (.tup [.str [s], .str [63]]) = .ok (([s] == [o] : Bool) || (([63] == [o] : Bool) || false)) := rfl
  unfold notInD
  rw [e1]
  rcases h with h | h <;> subst h <;> simp [Res.bind]
def P0 (ns : List Int) (ρ : Env) : Prop := ∃ g1 g2 g3 g4 g5 g6 g7 g8 g9 g10 g11 g12 g14 g17 g18 g19, ρ = [some (.scr ns), g1, g2, g3, g4, g5, g6, g7, g8, g9, g10, g11, g12, none, g14, none, none, g17, g18, g19, none]
theorem k12_2 (scr : List Int) (j : Nat) (hj : j < 6) (ρ : Env) (hp : P0 scr ρ) : ∃ ρ1 ρ2, gtN 1 (.int (j : Nat)) ρ = .ok ρ1 ∧ B_law_2 ρ1 = .next ρ2 ∧ P0 scr ρ2 := by
  obtain ⟨g1, g2, g3, g4, g5, g6, g7, g8, g9, g10, g11, g12, g14, g17, g18, g19, rfl⟩ := hp
  obtain ⟨ds, hds, hdl, hdr⟩ := digits_ok scr j 100 (by omega) (by decide) 27720 (by decide) (by decide)
  have hds : S__law_digits [.scr scr, .int (j : Nat), .int 100, .int 27720] = .ok (lstI ds) := hds
  obtain ⟨lo, hi, hb, b1, b2, b3, b4⟩ := bounds_ok (ds := ds) (by omega) (by decide) hdr
  obtain ⟨many, hm, hm1, hm9⟩ : ∃ many : Nat, 1 + dg ds 4 % 20 = (many : Nat) ∧ 1 ≤ many ∧ many ≤ 20 := ⟨(1 + dg ds 4 % 20).toNat, by omega, by omega, by omega⟩
  obtain ⟨ls, ns, m1, m2, m3, m4, m5, m6, M⟩ := made_ok (ds := ds.drop 20) (es := ds.drop 5) (by rw [List.length_drop]; omega) (by rw [List.length_drop]; omega) (by decide) (hdr.drop 20) b1 b3 many (by omega)
  have i4 : idxD (lstI ds) (.int 4) = .ok (.int (dg ds 4)) := idx_dg (k := 4) (by omega)
  have i90 : idxD (lstI ds) (.int 90) = .ok (.int (dg ds 90)) := idx_dg (k := 90) (by omega)
  have i91 : idxD (lstI ds) (.int 91) = .ok (.int (dg ds 91)) := idx_dg (k := 91) (by omega)
  have i92 : idxD (lstI ds) (.int 92) = .ok (.int (dg ds 92)) := idx_dg (k := 92) (by omega)
  have i93 : idxD (lstI ds) (.int 93) = .ok (.int (dg ds 93)) := idx_dg (k := 93) (by omega)
  have i94 : idxD (lstI ds) (.int 94) = .ok (.int (dg ds 94)) := idx_dg (k := 94) (by omega)
  have s20 : sliceD (lstI ds) (some 20) none = .ok (lstI (ds.drop 20)) := drop_lst ds 20
  have s5 : sliceD (lstI ds) (some 5) none = .ok (lstI (ds.drop 5)) := drop_lst ds 5
  have hnl := M.len
  generalize hks : (List.range many).map (kg (ds.drop 5)) = ks at m2 m3 m6 M
  have hmem : ks ∈ rd lo hi 0 true ns := mem_rd.mpr M.rdg
  have hr := List.ne_nil_of_mem hmem
  have hW : (rd lo hi 0 true ns).length = cnt lo hi 0 true ns := rd_cnt lo hi ns 0 true
  generalize hWW : cnt lo hi 0 true ns = W at hW
  have hWp : 0 < W := by have := List.length_pos_iff.mpr hr; omega
  have hcnt : S_count_readings [pr lo hi, tupI ns] = .ok (.int (W : Nat)) := by rw [count_eq lo hi ns (by omega), hWW]
  have q0 := Int.emod_nonneg (dg ds 92) (show ((W : Nat) : Int) ≠ 0 by omega)
  have q1 := Int.emod_lt_of_pos (dg ds 92) (show (0 : Int) < (W : Nat) by omega)
  obtain ⟨nb, hnb⟩ : ∃ nb : Nat, dg ds 92 % (W : Nat) = (nb : Nat) := ⟨(dg ds 92 % (W : Nat)).toNat, by omega⟩
  have hnbl : nb < (rd lo hi 0 true ns).length := by omega
  obtain ⟨one, hone⟩ : ∃ one, (rd lo hi 0 true ns)[nb]? = some one := ⟨_, List.getElem?_eq_getElem hnbl⟩
  have ho : one ∈ rd lo hi 0 true ns := List.mem_of_getElem? hone
  have hrd : S_reading_at [pr lo hi, tupI ns, .int (nb : Nat)] = .ok (.str one) := reading_some (by omega) hone
  have em : maxD [.int 1, .int (lo - dg ds 90 % 4)] = .ok (.int (if lo - dg ds 90 % 4 > 1 then lo - dg ds 90 % 4 else 1)) := id rfl
  generalize hlo : (if lo - dg ds 90 % 4 > 1 then lo - dg ds 90 % 4 else 1) = lo' at em
  have w1 : lo' ≤ lo := by
    have := Int.emod_nonneg (dg ds 90) (show (4 : Int) ≠ 0 by decide)
    split at hlo <;> omega
  have w2 : hi ≤ hi + dg ds 91 % 9 := by
    have := Int.emod_nonneg (dg ds 91) (show (9 : Int) ≠ 0 by decide)
    omega
  generalize hhi : hi + dg ds 91 % 9 = hi' at w2
  have ho' := rd_wide w1 w2 ho
  have hr' := List.ne_nil_of_mem ho'
  have dcnt : decide (((cnt lo' hi' 0 true ns : Nat) : Int) < (W : Nat)) = false := decide_eq_false (by
    have := cnt_wide w1 w2 ns
    omega)
  obtain ⟨x10, x11, x12, f1⟩ := k12_l (some (.scr scr)) (some (.int (j : Nat))) (some (lstI ds)) (some (.int (ns.length : Nat))) (some (.int (nb : Nat))) (some (.int (cnt lo' hi' 0 true ns : Nat))) g14 none none g17 g18 g19 none (lo := lo) (hi := hi) (lo' := lo') (hi' := hi') w1 w2 (ns := ns) (by omega) ho (List.range ns.length) g10 g11 g12 fun i h => List.mem_range.mp h
  have rm : rng1 [.int (ns.length : Nat)] = .ok ((List.range ns.length).map fun k : Nat => D.int (k : Nat)) := rng1_eq (by omega)
  obtain ⟨u, hu, hu1, hu2⟩ : ∃ u : Int, 2 + dg ds 93 % 30 = u ∧ 2 ≤ u ∧ u ≤ 31 := ⟨_, rfl, by omega, by omega⟩
  have hu0 : 0 < u := by omega
  obtain ⟨a, ha, ha2⟩ : ∃ a : Nat, dg ds 94 % (ns.length : Nat) = (a : Nat) ∧ a < ns.length := ⟨(dg ds 94 % (ns.length : Nat)).toNat, by
    have := Int.emod_nonneg (dg ds 94) (show ((ns.length : Nat) : Int) ≠ 0 by omega); omega, by
    have := Int.emod_lt_of_pos (dg ds 94) (show (0 : Int) < (ns.length : Nat) by omega)
    have := Int.emod_nonneg (dg ds 94) (show ((ns.length : Nat) : Int) ≠ 0 by omega); omega⟩
  have hll : (ns.map (· * u)).length = ns.length := List.length_map ..
  have hcm : cnt (lo * u) (hi * u) 0 true (ns.map (· * u)) = W := by rw [← rd_cnt, rd_mul0 hu0, hW]
  have hrm : S_reading_at [pr (lo * u) (hi * u), tupI (ns.map (· * u)), .int (nb : Nat)] = .ok (.str one) := reading_some (by omega) (by rw [rd_mul0 hu0]; exact hone)
  have it : ∀ l : List Int, itemsD (lstI l) = .ok (l.map D.int) := fun _ => rfl
  have itL : ∀ l : List D, itemsD (.lst l) = .ok l := fun _ => rfl
  have itT : ∀ l : List Int, itemsD (tupI l) = .ok (l.map D.int) := fun _ => rfl
  have mu : ∀ x : Int, mulD (.int x) (.int u) = .ok (.int (x * u)) := fun x => mul_r (by omega) (by omega) x
  have c3 := fun (y17 y18 y19 : Option D) => compL_map (f := sgD lo hi lo' hi' ns) (g := gtT [15, 16]) (c := tCmp notInD (eVar 16) (eArgs tupD (aCons (eVar 15) (aCons (eCst (.str [63])) aNil)))) (e := eCst (.int 1)) (ρ := [some (.scr scr), some (.int (j : Nat)), some (lstI ds), some (pr lo hi), some (.int (ns.length : Nat)), some (tupI ns), some (pr lo' hi'), some (.int (nb : Nat)), some (.int (cnt lo' hi' 0 true ns : Nat)), some (.str one), x10, x11, x12, none, some (.lst ((List.range ns.length).map (sgD lo hi lo' hi' ns))), none, none, y17, y18, y19, none]) (fun _ => false) (fun _ => D.int 0) (List.range ns.length) fun i hi2 => ⟨[some (.scr scr), some (.int (j : Nat)), some (lstI ds), some (pr lo hi), some (.int (ns.length : Nat)), some (tupI ns), some (pr lo' hi'), some (.int (nb : Nat)), some (.int (cnt lo' hi' 0 true ns : Nat)), some (.str one), x10, x11, x12, none, some (.lst ((List.range ns.length).map (sgD lo hi lo' hi' ns))), some (.str [skc (kAt lo hi ns i)]), some (.str [skc (kAt lo' hi' ns i)]), y17, y18, y19, none], rfl, by
    simp only [ev_seq, ev_nil, ev_set, ev_ret, ev_if, ev_for, forI_ok, ev_varS, ev_var0, ev_cst, ev_un, ev_bin, ev_eif, ev_tst, blD_bl, ev_tval, ev_cmp, ev_chn, ev_tnot, ev_tand, ev_tor, ev_anil, ev_acons, ev_args, ev_eand, ev_eor, notD_bl, addD_int, subD_int, negD_int, ltD_int, leD_int, gtD_int, geD_int, eqD_int, neD_int, ev_app, lstOf_lst, dctOf_dct, ev_par2, noX_ok, ev_unp, gtN_eq, gtT2, tup2, tup1, tup0, lst0, lst1, idx_pair0, idx_pair1, thn_next, thn_ret, thn_exc, thn_bad, res_next, res_ret, cnd_ok, env_ok, out_ok, bind_ok, forB_ok, setAll_cons, setAll_nil, List.set_cons_succ, List.set_cons_zero, ev_dset, ev_daug, ev_get2, getOr_int, dctOf_I, ev_comp, wipeE_cons, wipeE_nil, ev_slice, ev_onone, ev_osome, intOf_int, ev_ttrue, ev_count, strOf_str, cntS_ch, revD_tup, in_sign (sk_wide w1 w2 hr (List.mem_range.mp hi2))], fun h => by cases h⟩
  have hnil : ((List.range ns.length).filter fun _ => false).map (fun _ => D.int 0) = [] := by rw [flt_no]; rfl
  simp only [hnil] at c3
  have c4 := fun (y14 y18 y19 : Option D) => compL_map (f := D.int) (g := gtN 20) (c := tTrue) (e := eBin mulD (eVar 20) (eVar 17)) (ρ := [some (.scr scr), some (.int (j : Nat)), some (lstI ds), some (pr lo hi), some (.int (ns.length : Nat)), some (tupI ns), some (pr lo' hi'), some (.int (nb : Nat)), some (.int (cnt lo' hi' 0 true ns : Nat)), some (.str one), x10, x11, x12, none, y14, none, none, some (.int u), y18, y19, none]) (fun _ => true) (fun x => D.int (x * u)) ns fun x _ => ⟨[some (.scr scr), some (.int (j : Nat)), some (lstI ds), some (pr lo hi), some (.int (ns.length : Nat)), some (tupI ns), some (pr lo' hi'), some (.int (nb : Nat)), some (.int (cnt lo' hi' 0 true ns : Nat)), some (.str one), x10, x11, x12, none, y14, none, none, some (.int u), y18, y19, some (.int x)], rfl, rfl, fun _ => by simp only [ev_seq, ev_nil, ev_set, ev_ret, ev_if, ev_for, forI_ok, ev_varS, ev_var0, ev_cst, ev_un, ev_bin, ev_eif, ev_tst, blD_bl, ev_tval, ev_cmp, ev_chn, ev_tnot, ev_tand, ev_tor, ev_anil, ev_acons, ev_args, ev_eand, ev_eor, notD_bl, addD_int, subD_int, negD_int, ltD_int, leD_int, gtD_int, geD_int, eqD_int, neD_int, ev_app, lstOf_lst, dctOf_dct, ev_par2, noX_ok, ev_unp, gtN_eq, gtT2, tup2, tup1, tup0, lst0, lst1, idx_pair0, idx_pair1, thn_next, thn_ret, thn_exc, thn_bad, res_next, res_ret, cnd_ok, env_ok, out_ok, bind_ok, forB_ok, setAll_cons, setAll_nil, List.set_cons_succ, List.set_cons_zero, ev_dset, ev_daug, ev_get2, getOr_int, dctOf_I, ev_comp, wipeE_cons, wipeE_nil, ev_slice, ev_onone, ev_osome, intOf_int, ev_ttrue, ev_count, strOf_str, cntS_ch, revD_tup, mu]⟩
  have c5 := fun (y14 y18 y19 : Option D) => compL_map (f := D.int) (g := gtN 13) (c := tTrue) (e := eBin mulD (eVar 13) (eVar 17)) (ρ := [some (.scr scr), some (.int (j : Nat)), some (lstI ds), some (pr lo hi), some (.int (ns.length : Nat)), some (tupI ns), some (pr lo' hi'), some (.int (nb : Nat)), some (.int (cnt lo' hi' 0 true ns : Nat)), some (.str one), some (.int (a : Nat)), x11, x12, none, y14, none, none, some (.int u), y18, y19, none]) (fun _ => true) (fun x => D.int (x * u)) (isort ltI (ptS lo hi ns (a + 1))) fun x _ => ⟨[some (.scr scr), some (.int (j : Nat)), some (lstI ds), some (pr lo hi), some (.int (ns.length : Nat)), some (tupI ns), some (pr lo' hi'), some (.int (nb : Nat)), some (.int (cnt lo' hi' 0 true ns : Nat)), some (.str one), some (.int (a : Nat)), x11, x12, some (.int x), y14, none, none, some (.int u), y18, y19, none], rfl, rfl, fun _ => by simp only [ev_seq, ev_nil, ev_set, ev_ret, ev_if, ev_for, forI_ok, ev_varS, ev_var0, ev_cst, ev_un, ev_bin, ev_eif, ev_tst, blD_bl, ev_tval, ev_cmp, ev_chn, ev_tnot, ev_tand, ev_tor, ev_anil, ev_acons, ev_args, ev_eand, ev_eor, notD_bl, addD_int, subD_int, negD_int, ltD_int, leD_int, gtD_int, geD_int, eqD_int, neD_int, ev_app, lstOf_lst, dctOf_dct, ev_par2, noX_ok, ev_unp, gtN_eq, gtT2, tup2, tup1, tup0, lst0, lst1, idx_pair0, idx_pair1, thn_next, thn_ret, thn_exc, thn_bad, res_next, res_ret, cnd_ok, env_ok, out_ok, bind_ok, forB_ok, setAll_cons, setAll_nil, List.set_cons_succ, List.set_cons_zero, ev_dset, ev_daug, ev_get2, getOr_int, dctOf_I, ev_comp, wipeE_cons, wipeE_nil, ev_slice, ev_onone, ev_osome, intOf_int, ev_ttrue, ev_count, strOf_str, cntS_ch, revD_tup, mu]⟩
  have hft : ∀ l : List Int, (l.filter fun _ => true).map (fun x => D.int (x * u)) = (l.map (· * u)).map D.int := fun l => by rw [flt_yes, List.map_map]; rfl
  simp only [hft] at c4 c5
  refine ⟨_, [some (.scr scr), some (.int (j : Nat)), some (lstI ds), some (pr lo hi), some (.int (ns.length : Nat)), some (tupI ns), some (pr lo' hi'), some (.int (nb : Nat)), some (.int (cnt lo' hi' 0 true ns : Nat)), some (.str one), some (.int (a : Nat)), x11, x12, none, some (.lst ((List.range ns.length).map (sgD lo hi lo' hi' ns))), none, none, some (.int u), some (pr (lo * u) (hi * u)), some (tupI (ns.map (· * u))), none], gtN_eq .., ?_, _, _, _, _, _, _, _, _, _, _, _, _, _, _, _, _, rfl⟩
  have hm' : 1 + dg ds 4 % 20 = (ns.length : Nat) := by omega
  rw [← hnl] at m1 m2
  have n0 : neD (.lst []) (.lst []) = .ok false := by rfl
  have hone' : neD (.str one) (.str one) = .ok false := by rw [ne_str (rd_KS ho).ok (rd_KS ho).ok, decide_eq_true rfl]; rfl
  have ip0 : idxD (pr lo hi) (.int 0) = .ok (.int lo) := rfl
  have ip1 : idxD (pr lo hi) (.int 1) = .ok (.int hi) := rfl
  have tO : ∀ l : List Int, tupOf [.lst (l.map D.int)] = .ok (tupI l) := fun l => rfl
  have nt : ∀ l : List Int, neD (lstI l) (lstI l) = .ok false := fun l => by rw [ne_lstI, decide_eq_true rfl]; rfl
  have e19 : lstD ((ns.map (· * u)).map D.int) = .ok (lstI (ns.map (· * u))) := if_pos (by rw [List.length_map, List.length_map]; unfold LIM; omega)
  have e20 : lstD (((isort ltI (ptS lo hi ns (a + 1))).map (· * u)).map D.int) = .ok (lstI ((isort ltI (ptS lo hi ns (a + 1))).map (· * u))) := if_pos (by
    have := ptS_len lo hi ha2
    rw [List.length_map, List.length_map]; unfold LIM; omega)
  simp only [B_law_2, C_law_3, C_law_4, C_law_5, ev_seq, ev_nil, ev_set, ev_ret, ev_if, ev_for, forI_ok, ev_varS, ev_var0, ev_cst, ev_un, ev_bin, ev_eif, ev_tst, blD_bl, ev_tval, ev_cmp, ev_chn, ev_tnot, ev_tand, ev_tor, ev_anil, ev_acons, ev_args, ev_eand, ev_eor, notD_bl, addD_int, subD_int, negD_int, ltD_int, leD_int, gtD_int, geD_int, eqD_int, neD_int, ev_app, lstOf_lst, dctOf_dct, ev_par2, noX_ok, ev_unp, gtN_eq, gtT2, tup2, tup1, tup0, lst0, lst1, idx_pair0, idx_pair1, thn_next, thn_ret, thn_exc, thn_bad, res_next, res_ret, cnd_ok, env_ok, out_ok, bind_ok, forB_ok, setAll_cons, setAll_nil, List.set_cons_succ, List.set_cons_zero, ev_dset, ev_daug, ev_get2, getOr_int, dctOf_I, ev_comp, wipeE_cons, wipeE_nil, ev_slice, ev_onone, ev_osome, intOf_int, ev_ttrue, ev_count, strOf_str, cntS_ch, revD_tup, hds, hb, i4, i90, i91, i92, i93, i94, mod_ok (show (0 : Int) < 20 by decide), mod_ok (show (0 : Int) < 4 by decide), mod_ok (show (0 : Int) < 9 by decide), mod_ok (show (0 : Int) < 30 by decide), mod_ok (show (0 : Int) < (W : Nat) by omega), mod_ok (show (0 : Int) < (ns.length : Nat) by omega), hm', s20, s5, m1, m2, m3, em, hhi, hcnt, hnb, hrd, count_eq lo' hi' ns (show ns.length < 900 by omega), dcnt, fits_eq lo' hi' ns one (rd_KS ho) (show ns.length < 10000 by omega), fit_rd ho', Bool.not_true, Bool.false_eq_true, if_false, rm, f1, sure_some (show ns.length < 900 by omega) hr, sure_some (show ns.length < 900 by omega) hr', zip_signs lo hi lo' hi' (show ns.length ≤ 20 by omega), it, itL, itT, c3, n0, hu, mu, c4, tO, count_eq (lo * u) (hi * u) (ns.map (· * u)) (show (ns.map (· * u)).length < 900 by omega), hcm, decide_true, hrm, hone', ha, possible_eq lo hi ns a ha2 (show ns.length < 900 by omega), possible_eq (lo * u) (hi * u) (ns.map (· * u)) a (show a < (ns.map (· * u)).length by omega) (show (ns.map (· * u)).length < 900 by omega), c5, e19, e20, pt_mul hu0 lo hi (show a + 1 ≤ ns.length by omega), nt]
theorem law_true (scr : List Int) (h : scr.length ≤ 63) : S_law [.scr scr] = .ok (.bl true) := by
  rw [R_law]
  obtain ⟨ρ', h3, h4⟩ := forL_keep (g := gtN 1) (b := B_law_2) (P := P0 scr) ((List.range 6).map fun k => .int (k : Nat)) [some (.scr scr), none, none, none, none, none, none, none, none, none, none, none, none, none, none, none, none, none, none, none, none] (fun d hd ρ hρ => by
    obtain ⟨k, hk, rfl⟩ := List.mem_map.mp hd
    exact k12_2 scr k (List.mem_range.mp hk) ρ hρ) ⟨_, _, _, _, _, _, _, _, _, _, _, _, _, _, _, _, rfl⟩
  obtain ⟨g1, g2, g3, g4, g5, g6, g7, g8, g9, g10, g11, g12, g14, g17, g18, g19, rfl⟩ := h4
  have r6 : rng1 [.int 6] = .ok ((List.range 6).map fun k => .int (k : Nat)) := rng1_eq (n := 6) (by decide)
  have l1 : listG S_readings [.tup [.int 10, .int 35], .tup [.int 12, .int 30, .int 35]] = .ok (lstS (rd 10 35 0 true [12, 30, 35])) := readings_list (lo := 10) (hi := 35) (ns := [12, 30, 35]) (by decide) (by decide)
  have l2 : listG S_readings [.tup [.int 10, .int 40], .tup [.int 12, .int 30, .int 35]] = .ok (lstS (rd 10 40 0 true [12, 30, 35])) := readings_list (lo := 10) (hi := 40) (ns := [12, 30, 35]) (by decide) (by decide)
  rw [show rd 10 35 0 true [12, 30, 35] = [[108, 108, 108], [108, 116, 108]] by decide] at l1
  rw [show rd 10 40 0 true [12, 30, 35] = [[108, 108, 108], [108, 116, 108]] by decide] at l2
  have t3 : ∀ a b c, tupD [a, b, c] = .ok (.tup [a, b, c]) := fun _ _ _ => id rfl
  have ll2 : ∀ a b, lstD [a, b] = .ok (.lst [a, b]) := fun _ _ => id rfl
  have n5 : neD (lstS [[108, 108, 108], [108, 116, 108]]) (.lst [.str [108, 108, 108], .str [108, 116, 108]]) = .ok false := by rfl
  have n6 : eqD (lstS [[108, 108, 108], [108, 116, 108]]) (.lst [.str [108, 108, 108], .str [108, 116, 108]]) = .ok true := by rfl
  simp only [B_law, ev_seq, ev_nil, ev_set, ev_ret, ev_if, ev_for, forI_ok, ev_varS, ev_var0, ev_cst, ev_un, ev_bin, ev_eif, ev_tst, blD_bl, ev_tval, ev_cmp, ev_chn, ev_tnot, ev_tand, ev_tor, ev_anil, ev_acons, ev_args, ev_eand, ev_eor, notD_bl, addD_int, subD_int, negD_int, ltD_int, leD_int, gtD_int, geD_int, eqD_int, neD_int, ev_app, lstOf_lst, dctOf_dct, ev_par2, noX_ok, ev_unp, gtN_eq, gtT2, tup2, tup1, tup0, lst0, lst1, idx_pair0, idx_pair1, thn_next, thn_ret, thn_exc, thn_bad, res_next, res_ret, cnd_ok, env_ok, out_ok, bind_ok, forB_ok, setAll_cons, setAll_nil, List.set_cons_succ, List.set_cons_zero, ev_dset, ev_daug, ev_get2, getOr_int, dctOf_I, ev_comp, wipeE_cons, wipeE_nil, ev_slice, ev_onone, ev_osome, intOf_int, ev_ttrue, ev_count, strOf_str, cntS_ch, revD_tup, r6, h3, t3, l1, l2, ll2, n5, n6, Bool.false_eq_true, if_false]
end PL
set_option Elab.async false
set_option linter.all false
set_option maxRecDepth 100000
set_option maxHeartbeats 4000000
namespace PL
open PySem PySem.Spec PyProof.Rows L2
def topS (i : Nat) : Stmt := PySem.Challenge.pw_lapsplits_k12_whole_wider_bounds_and_sho.main.body.getD i (.Pass ⟨0, 0, 0, 0⟩)
theorem sc_times : FnScope ["notes", "kinds", "found", "time", "number", "kind"] ["notes", "kinds"] (defScope (topS 1)) := ⟨rfl, rfl, rfl, by decide +kernel, rfl, by decide +kernel, by decide +kernel⟩
theorem ok_times {P : Program} {w : World} {p : Par} {mg : Str → Option Value} {base : Heap} {f : Addr} {fd : FuncData} (F : Fun p.K "times" "times" (topS 1) f fd) (m_zip : mg "zip" = none) :
    FnOk P w p.K mg base (L2.CX P w) 1 f fd ["notes", "kinds"] (spD p S_times) :=
  fn_ok (k := 0) (O' := []) (b := B_times) F sc_times rfl rfl fun cdv A outer s H E hr =>
  (q_cons (O1 := [2]) (q_parFE (i := 2) (j := 3) (ps_par (by rfl) sc_times.nd rfl rfl (by decide) rfl rfl (pa_cons (r_lst ra_nil) (pa_cons r_int pa_nil)) (by rfl)))
    (q_cons (O1 := [2]) (q_for (O := [2]) (L2.passes_of rfl) rfl (ri_zip (by rfl) m_zip (ra_cons (rv 0) (ra_cons (rv 1) ra_nil))) (pg_tup (n := 2) rfl (pgs_cons (pg_name (i := 4) sc_times.nd rfl (.inl rfl)) (pgs_cons (pg_name (i := 5) sc_times.nd rfl (.inl rfl)) pgs_nil))) (gt_tup (is := [4, 5]) (by rfl)) (q_cons (O1 := [2]) (q_set (i := 3) sc_times.nd rfl (.inl rfl) (r_if (r_cmpT (op_eqK rfl hr.units) ok_eq (rvB 5) (r_b (r_str (by rfl))) (nomark _)) (r_add rfl (rvB 3) (rvB 4)) (rv 4)))
    (q_cons (O1 := [2]) (qv_app (i := 2) (by decide) (pv 2) (rv 3))
    (q_nilP (by decide)))))
    (q_frz 2 (q_one (q_ret (O1 := []) (rv 2))))))
theorem sc_laps : FnScope ["notes", "kinds", "rows", "time", "later"] ["notes", "kinds"] (defScope (topS 2)) := ⟨rfl, rfl, rfl, by decide +kernel, rfl, by decide +kernel, by decide +kernel⟩
theorem ok_laps {P : Program} {w : World} {p : Par} {mg : Str → Option Value} {base : Heap} {f : Addr} {fd : FuncData} (F : Fun p.K "laps" "laps" (topS 2) f fd) (m_zip : mg "zip" = none) (c_times : Callee P w p mg base "times" 1 S_times) :
    FnOk P w p.K mg base (L2.CX P w) 2 f fd ["notes", "kinds"] (spD p S_laps) :=
  fn_ok (k := 1) (O' := []) (b := B_laps) F sc_laps rfl rfl fun cdv A outer s H E hr =>
  (q_cons (O1 := []) (q_set (i := 2) sc_laps.nd rfl (.inl rfl) (r_callC c_times hr (by decide) rfl (by rfl) (L2.takes_of rfl rfl rfl rfl) (ra_cons (rv 0) (ra_cons (rv 1) ra_nil))))
    (q_one (q_ret (O1 := []) (r_f (r_lc (own := [("time", 3), ("later", 4)]) (is := [3, 4]) rfl sc_laps.nd (ri_zip (by rfl) m_zip (ra_cons (r_add rfl (r_b (r_f (r_lst (ra_cons r_int ra_nil)))) (rvB 2)) (ra_cons (rv 2) ra_nil))) (L2.blkOk_by (N := ["notes", "kinds", "rows", "time", "later"]) (sc := defScope (topS 2)) (own := [("time", 3), ("later", 4)]) (by decide +kernel)) (fun _ _ _ _ _ => (pg_tup (n := 2) rfl (pgs_cons (pg_name (i := 3) sc_laps.nd rfl (.inl rfl)) (pgs_cons (pg_name (i := 4) sc_laps.nd rfl (.inl rfl)) pgs_nil)))) (gt_tup (is := [3, 4]) (by rfl)) (by decide) (fun _ _ _ _ _ => pts_true) (fun _ _ _ _ _ => (r_sub (rvB 4) (rvB 3))))))))
theorem sc_fits : FnScope ["bounds", "notes", "kinds", "lap"] ["bounds", "notes", "kinds"] (defScope (topS 3)) := ⟨rfl, rfl, rfl, by decide +kernel, rfl, by decide +kernel, by decide +kernel⟩
theorem ok_fits {P : Program} {w : World} {p : Par} {mg : Str → Option Value} {base : Heap} {f : Addr} {fd : FuncData} (F : Fun p.K "fits" "fits" (topS 3) f fd) (m_all : mg "all" = none) (c_laps : Callee P w p mg base "laps" 2 S_laps) :
    FnOk P w p.K mg base (L2.CX P w) 3 f fd ["bounds", "notes", "kinds"] (spD p S_fits) :=
  fn_ok (k := 2) (O' := []) (b := B_fits) F sc_fits rfl rfl fun cdv A outer s H E hr =>
  (q_one (q_ret (O1 := []) (r_all rfl rfl (by rfl) m_all (rab_cons (r_b (r_f (r_lc (own := [("lap", 3)]) (is := [3]) rfl sc_fits.nd (ri_seq rfl (r_callC c_laps hr (by decide) rfl (by rfl) (L2.takes_of rfl rfl rfl rfl) (ra_cons (rv 1) (ra_cons (rv 2) ra_nil)))) (L2.blkOk_by (N := ["bounds", "notes", "kinds", "lap"]) (sc := defScope (topS 3)) (own := [("lap", 3)]) (by decide +kernel)) (fun _ _ _ _ _ => (pg_name (i := 3) sc_fits.nd rfl (.inl rfl))) gt_name (by decide) (fun _ _ _ _ _ => pts_true) (fun _ _ _ _ _ => (r_chnV op_le op_le ok_le ok_le (r_b (r_idx rfl hr.units (rvB 0) (r_b r_int))) (rvB 3) (r_b (r_idx rfl hr.units (rvB 0) (r_b r_int)))))))) rab_nil))))
theorem sc_steps : FnScope ["bounds", "time", "number", "is_first", "found"] ["bounds", "time", "number", "is_first"] (defScope (topS 4)) := ⟨rfl, rfl, rfl, by decide +kernel, rfl, by decide +kernel, by decide +kernel⟩
theorem ok_steps {P : Program} {w : World} {p : Par} {mg : Str → Option Value} {base : Heap} {f : Addr} {fd : FuncData} (F : Fun p.K "steps" "steps" (topS 4) f fd) :
    FnOk P w p.K mg base (L2.CX P w) 1 f fd ["bounds", "time", "number", "is_first"] (spD p S_steps) :=
  fn_ok (k := 0) (O' := []) (b := B_steps) F sc_steps rfl rfl fun cdv A outer s H E hr =>
  (q_cons (O1 := [4]) (q_setF (i := 4) sc_steps.nd rfl (.inl rfl) (r_lst ra_nil))
    (q_cons (O1 := [4]) (q_if (O1 := [4]) (r_chnT op_le op_le ok_le ok_le (r_b (r_idx rfl hr.units (rvB 0) (r_b r_int))) (rvB 2) (r_b (r_idx rfl hr.units (rvB 0) (r_b r_int)))) (q_cons (O1 := [4]) (qv_app (i := 4) (by decide) (pv 4) (r_tup (ra_cons (r_str (by rfl)) (ra_cons (r_add rfl (rvB 1) (rvB 2)) ra_nil))))
    (q_nilP (by decide))) (q_nilP (by decide)))
    (q_cons (O1 := [4]) (q_if (O1 := [4]) (L2.PW.pt (r_and (r_tnot (r_tst (rv 3))) (r_and1 (r_chnT op_le op_le ok_le ok_le (r_b (r_idx rfl hr.units (rvB 0) (r_b r_int))) (r_b (r_sub (rvB 2) (rvB 1))) (r_b (r_idx rfl hr.units (rvB 0) (r_b r_int))))))) (q_cons (O1 := [4]) (qv_app (i := 4) (by decide) (pv 4) (r_tup (ra_cons (r_str (by rfl)) (ra_cons (rv 2) ra_nil))))
    (q_nilP (by decide))) (q_nilP (by decide)))
    (q_frz 4 (q_one (q_ret (O1 := []) (rv 4)))))))
theorem sc_forward : FnScope ["bounds", "notes", "rows", "index", "number", "later", "time", "ways", "kind", "then"] ["bounds", "notes"] (defScope (topS 6)) := ⟨rfl, rfl, rfl, by decide +kernel, rfl, by decide +kernel, by decide +kernel⟩
theorem ok_forward {P : Program} {w : World} {p : Par} {mg : Str → Option Value} {base : Heap} {f : Addr} {fd : FuncData} (F : Fun p.K "forward" "forward" (topS 6) f fd) (m_enumerate : mg "enumerate" = none) (c_steps : Callee P w p mg base "steps" 1 S_steps) :
    FnOk P w p.K mg base (L2.CX P w) 2 f fd ["bounds", "notes"] (spD p S_forward) :=
  fn_ok (k := 1) (O' := []) (b := B_forward) F sc_forward rfl rfl fun cdv A outer s H E hr =>
  (q_cons (O1 := [2]) (q_setF (i := 2) sc_forward.nd rfl (.inl rfl) (r_lst (ra_cons (r_f (r_dct1 r_nint)) ra_nil)))
    (q_cons (O1 := [2]) (q_for (O := [2]) (L2.passes_of rfl) rfl (ri_enum (by rfl) m_enumerate (ra_cons (rv 1) ra_nil)) (pg_tup (n := 2) rfl (pgs_cons (pg_name (i := 3) sc_forward.nd rfl (.inl rfl)) (pgs_cons (pg_name (i := 4) sc_forward.nd rfl (.inl rfl)) pgs_nil))) (gt_tup (is := [3, 4]) (by rfl)) (q_cons (O1 := [5, 2]) (q_setF (i := 5) sc_forward.nd rfl (.inl rfl) r_dct0)
    (q_cons (O1 := [5, 2]) (q_for (O := [5, 2]) (L2.passes_of rfl) rfl (ri_items (r_idx rfl hr.units (rvB 2) (r_b (r_neg (r_b r_int))))) (pg_tup (n := 2) rfl (pgs_cons (pg_name (i := 6) sc_forward.nd rfl (.inl rfl)) (pgs_cons (pg_name (i := 7) sc_forward.nd rfl (.inl rfl)) pgs_nil))) (gt_tup (is := [6, 7]) (by rfl)) (q_cons (O1 := [5, 2]) (q_for (O := [5, 2]) (L2.passes_of rfl) rfl (ri_seq rfl (r_callC c_steps hr (by decide) rfl (by rfl) (L2.takes_of rfl rfl rfl rfl) (ra_cons (rv 0) (ra_cons (rv 6) (ra_cons (rv 4) (ra_cons (r_cmpV (op_eqK rfl hr.units) ok_eq (rvB 3) (r_b r_int) (nomark _)) ra_nil)))))) (pg_tup (n := 2) rfl (pgs_cons (pg_name (i := 8) sc_forward.nd rfl (.inl rfl)) (pgs_cons (pg_name (i := 9) sc_forward.nd rfl (.inl rfl)) pgs_nil))) (gt_tup (is := [8, 9]) (by rfl)) (q_cons (O1 := [5, 2]) (q_dset (i := 5) (by decide) hr.units (pv 5) (r_add rfl (r_b (r_get2 hr.units (rvB 5) (rv 9) r_int)) (rvB 7)) (rv 9))
    (q_nilP (by decide))))
    (q_nilP (by decide))))
    (q_frz 5 (q_cons (O1 := [2]) (qv_app (i := 2) (by decide) (pv 2) (rv 5))
    (q_nilP (by decide)))))))
    (q_frz 2 (q_one (q_ret (O1 := []) (rv 2))))))
theorem sc_backward : FnScope ["bounds", "notes", "rows", "last", "time", "found", "index", "row", "kind", "then"] ["bounds", "notes"] (defScope (topS 7)) := ⟨rfl, rfl, rfl, by decide +kernel, rfl, by decide +kernel, by decide +kernel⟩
theorem ok_backward {P : Program} {w : World} {p : Par} {mg : Str → Option Value} {base : Heap} {f : Addr} {fd : FuncData} (F : Fun p.K "backward" "backward" (topS 7) f fd) (m_len : mg "len" = none) (m_range : mg "range" = none) (c_forward : Callee P w p mg base "forward" 2 S_forward) (c_steps : Callee P w p mg base "steps" 1 S_steps) :
    FnOk P w p.K mg base (L2.CX P w) 3 f fd ["bounds", "notes"] (spD p S_backward) :=
  fn_ok (k := 2) (O' := []) (b := B_backward) F sc_backward rfl rfl fun cdv A outer s H E hr =>
  (q_cons (O1 := []) (q_set (i := 2) sc_backward.nd rfl (.inl rfl) (r_callC c_forward hr (by decide) rfl (by rfl) (L2.takes_of rfl rfl rfl rfl) (ra_cons (rv 0) (ra_cons (rv 1) ra_nil))))
    (q_cons (O1 := [3]) (q_setF (i := 3) sc_backward.nd rfl (.inl rfl) r_dct0)
    (q_cons (O1 := [3]) (q_for (O := [3]) (L2.passes_of rfl) rfl (ri_seq rfl (r_idx rfl hr.units (rvB 2) (r_b (r_neg (r_b r_int))))) (pg_name (i := 4) sc_backward.nd rfl (.inl rfl)) gt_name (q_cons (O1 := [3]) (q_dset (i := 3) (by decide) hr.units (pv 3) r_int (rv 4))
    (q_nilP (by decide))))
    (q_frz 3 (q_cons (O1 := []) (q_set (i := 5) sc_backward.nd rfl (.inl rfl) (r_f (r_lst (ra_cons (rv 3) ra_nil))))
    (q_cons (O1 := []) (q_for (O := []) (L2.passes_of rfl) rfl (ri_rng3 (pi_range3 (by rfl) m_range (ra_cons (r_sub (r_b (r_len rfl (by rfl) m_len (rab_cons (rvB 1) rab_nil))) (r_b r_int)) (ra_cons (r_neg (r_b r_int)) (ra_cons (r_neg (r_b r_int)) ra_nil))))) (pg_name (i := 6) sc_backward.nd rfl (.inl rfl)) gt_name (q_cons (O1 := [7]) (q_setF (i := 7) sc_backward.nd rfl (.inl rfl) r_dct0)
    (q_cons (O1 := [7]) (q_for (O := [7]) (L2.passes_of rfl) rfl (ri_seq rfl (r_idx rfl hr.units (rvB 2) (rvB 6))) (pg_name (i := 4) sc_backward.nd rfl (.inl rfl)) gt_name (q_cons (O1 := [7]) (q_dset (i := 7) (by decide) hr.units (pv 7) r_int (rv 4))
    (q_cons (O1 := [7]) (q_for (O := [7]) (L2.passes_of rfl) rfl (ri_seq rfl (r_callC c_steps hr (by decide) rfl (by rfl) (L2.takes_of rfl rfl rfl rfl) (ra_cons (rv 0) (ra_cons (rv 4) (ra_cons (r_idx rfl hr.units (rvB 1) (rvB 6)) (ra_cons (r_cmpV (op_eqK rfl hr.units) ok_eq (rvB 6) (r_b r_int) (nomark _)) ra_nil)))))) (pg_tup (n := 2) rfl (pgs_cons (pg_name (i := 8) sc_backward.nd rfl (.inl rfl)) (pgs_cons (pg_name (i := 9) sc_backward.nd rfl (.inl rfl)) pgs_nil))) (gt_tup (is := [8, 9]) (by rfl)) (q_cons (O1 := [7]) (q_daug (i := 7) (by decide) (ps_daug (hu_of hr) (pv 7) (rv 4) (r_idx rfl hr.units (r_b (r_idx rfl hr.units (rvB 5) (r_b r_int))) (rvB 9)) in_add (by intros; rfl)))
    (q_nilP (by decide))))
    (q_nilP (by decide)))))
    (q_frz 7 (q_cons (O1 := []) (q_set (i := 5) sc_backward.nd rfl (.inl rfl) (r_add rfl (r_b (r_f (r_lst (ra_cons (rv 7) ra_nil)))) (rvB 5)))
    (q_nilP (by decide)))))))
    (q_one (q_ret (O1 := []) (rv 5)))))))))
theorem sc_count_readings : FnScope ["bounds", "notes"] ["bounds", "notes"] (defScope (topS 8)) := ⟨rfl, rfl, rfl, by decide +kernel, rfl, by decide +kernel, by decide +kernel⟩
theorem ok_count_readings {P : Program} {w : World} {p : Par} {mg : Str → Option Value} {base : Heap} {f : Addr} {fd : FuncData} (F : Fun p.K "count_readings" "count_readings" (topS 8) f fd) (c_backward : Callee P w p mg base "backward" 3 S_backward) :
    FnOk P w p.K mg base (L2.CX P w) 4 f fd ["bounds", "notes"] (spD p S_count_readings) :=
  fn_ok (k := 3) (O' := []) (b := B_count_readings) F sc_count_readings rfl rfl fun cdv A outer s H E hr =>
  (q_one (q_ret (O1 := []) (r_idx rfl hr.units (r_b (r_idx rfl hr.units (r_b (r_callC c_backward hr (by decide) rfl (by rfl) (L2.takes_of rfl rfl rfl rfl) (ra_cons (rv 0) (ra_cons (rv 1) ra_nil)))) (r_b r_int))) (r_b r_int))))
theorem sc_reading_at : FnScope ["bounds", "notes", "number", "rows", "time", "found", "index", "note", "kind", "then"] ["bounds", "notes", "number"] (defScope (topS 9)) := ⟨rfl, rfl, rfl, by decide +kernel, rfl, by decide +kernel, by decide +kernel⟩
theorem ok_reading_at {P : Program} {w : World} {p : Par} {mg : Str → Option Value} {base : Heap} {f : Addr} {fd : FuncData} (F : Fun p.K "reading_at" "reading_at" (topS 9) f fd) (m_enumerate : mg "enumerate" = none) (m_len : mg "len" = none) (c_backward : Callee P w p mg base "backward" 3 S_backward) (c_steps : Callee P w p mg base "steps" 1 S_steps) :
    FnOk P w p.K mg base (L2.CX P w) 4 f fd ["bounds", "notes", "number"] (spD p S_reading_at) :=
  fn_ok (k := 3) (O' := []) (b := B_reading_at) F sc_reading_at rfl rfl fun cdv A outer s H E hr =>
  (q_cons (O1 := []) (q_set (i := 3) sc_reading_at.nd rfl (.inl rfl) (r_callC c_backward hr (by decide) rfl (by rfl) (L2.takes_of rfl rfl rfl rfl) (ra_cons (rv 0) (ra_cons (rv 1) ra_nil))))
    (q_cons (O1 := []) (q_if (O1 := []) (r_tnot (r_chnT op_le op_lt ok_le ok_lt (r_b r_int) (rvB 2) (r_b (r_idx rfl hr.units (r_b (r_idx rfl hr.units (rvB 3) (r_b r_int))) (r_b r_int))))) (q_one (q_ret (O1 := []) r_non)) (q_nilP (by decide)))
    (q_cons (O1 := []) (q_unp (ps_asg (r_tup (ra_cons r_int (ra_cons (r_str (by rfl)) ra_nil))) (pg_tup (n := 2) rfl (pgs_cons (pg_name (i := 4) sc_reading_at.nd rfl (.inl rfl)) (pgs_cons (pg_name (i := 5) sc_reading_at.nd rfl (.inl rfl)) pgs_nil)))) (gt_tup (is := [4, 5]) (by rfl)))
    (q_cons (O1 := []) (q_for (O := []) (L2.passes_of rfl) rfl (ri_enum (by rfl) m_enumerate (ra_cons (rv 1) ra_nil)) (pg_tup (n := 2) rfl (pgs_cons (pg_name (i := 6) sc_reading_at.nd rfl (.inl rfl)) (pgs_cons (pg_name (i := 7) sc_reading_at.nd rfl (.inl rfl)) pgs_nil))) (gt_tup (is := [6, 7]) (by rfl)) (q_cons (O1 := []) (q_for (O := []) (L2.passes_of rfl) rfl (ri_seq rfl (r_callC c_steps hr (by decide) rfl (by rfl) (L2.takes_of rfl rfl rfl rfl) (ra_cons (rv 0) (ra_cons (rv 4) (ra_cons (rv 7) (ra_cons (r_cmpV (op_eqK rfl hr.units) ok_eq (rvB 6) (r_b r_int) (nomark _)) ra_nil)))))) (pg_tup (n := 2) rfl (pgs_cons (pg_name (i := 8) sc_reading_at.nd rfl (.inl rfl)) (pgs_cons (pg_name (i := 9) sc_reading_at.nd rfl (.inl rfl)) pgs_nil))) (gt_tup (is := [8, 9]) (by rfl)) (q_one (q_if (O1 := []) (r_cmpT (op_eqK rfl hr.units) ok_eq (r_b (r_len rfl (by rfl) m_len (rab_cons (rvB 5) rab_nil))) (rvB 6) (nomark _)) (q_one (q_if (O1 := []) (r_cmpT op_lt ok_lt (rvB 2) (r_b (r_idx rfl hr.units (r_b (r_idx rfl hr.units (rvB 3) (r_b (r_add rfl (rvB 6) (r_b r_int))))) (rvB 9))) (nomark _)) (q_cons (O1 := []) (q_parEE (i := 5) (j := 4) (ps_par (by rfl) sc_reading_at.nd rfl rfl (by decide) rfl rfl (pa_cons (r_add rfl (rvB 5) (rvB 8)) (pa_cons (rv 9) pa_nil)) (by rfl)))
    (q_nilP (by decide))) (q_cons (O1 := []) (q_set (i := 2) sc_reading_at.nd rfl (.inl rfl) (r_sub (rvB 2) (r_b (r_idx rfl hr.units (r_b (r_idx rfl hr.units (rvB 3) (r_b (r_add rfl (rvB 6) (r_b r_int))))) (rvB 9)))))
    (q_nilP (by decide))))) (q_nilP (by decide)))))
    (q_nilP (by decide))))
    (q_one (q_ret (O1 := []) (rv 5)))))))
theorem sc_readings : GScope ["bounds", "notes", "number"] ["bounds", "notes"] (defScope (topS 10)) := ⟨rfl, rfl, rfl, by decide +kernel, rfl, by decide +kernel, by decide +kernel⟩
theorem ok_readings {P : Program} {w : World} {p : Par} {mg : Str → Option Value} {base : Heap} {f : Addr} {fd : FuncData} (F : Fun p.K "readings" "readings" (topS 10) f fd) (m_range : mg "range" = none) (c_count_readings : Callee P w p mg base "count_readings" 4 S_count_readings) (c_reading_at : Callee P w p mg base "reading_at" 4 S_reading_at) :
    GFn P w p.K mg base 5 f fd ["bounds", "notes"] (spG p S_readings) :=
  gfn_ok (k := 4) (O' := []) (b := B_readings) F sc_readings rfl rfl fun cdv A outer s H E pn hr =>
  (g_cons (O1 := []) (g_for (O := []) (L2.owns_gcx) rfl (ri_rng1 (by rfl) m_range (ra_cons (r_callC c_count_readings hr (by decide) rfl (by rfl) (L2.takes_gcx) (ra_cons (rv 0) (ra_cons (rv 1) ra_nil))) ra_nil)) (pg_name (i := 2) sc_readings.nd rfl (.inl rfl)) gt_name (g_cons (O1 := []) (g_yield (r_callC c_reading_at hr (by decide) rfl (by rfl) (L2.takes_gcx) (ra_cons (rv 0) (ra_cons (rv 1) (ra_cons (rv 2) ra_nil)))))
    g_nil))
    g_nil)
theorem sc_possible_times : FnScope ["bounds", "notes", "index", "row", "time"] ["bounds", "notes", "index"] (defScope (topS 11)) := ⟨rfl, rfl, rfl, by decide +kernel, rfl, by decide +kernel, by decide +kernel⟩
theorem ok_possible_times {P : Program} {w : World} {p : Par} {mg : Str → Option Value} {base : Heap} {f : Addr} {fd : FuncData} (F : Fun p.K "possible_times" "possible_times" (topS 11) f fd) (m_sorted : mg "sorted" = none) (c_backward : Callee P w p mg base "backward" 3 S_backward) :
    FnOk P w p.K mg base (L2.CX P w) 4 f fd ["bounds", "notes", "index"] (spD p S_possible_times) :=
  fn_ok (k := 3) (O' := []) (b := B_possible_times) F sc_possible_times rfl rfl fun cdv A outer s H E hr =>
  (q_cons (O1 := []) (q_set (i := 3) sc_possible_times.nd rfl (.inr rfl) (r_idx rfl hr.units (r_b (r_callC c_backward hr (by decide) rfl (by rfl) (L2.takes_of rfl rfl rfl rfl) (ra_cons (rv 0) (ra_cons (rv 1) ra_nil)))) (r_b (r_add rfl (rvB 2) (r_b r_int)))))
    (q_one (q_ret (O1 := []) (r_f (r_sorted rfl (by rfl) m_sorted (rab_cons (r_b (r_f (r_lc (own := [("time", 4)]) (is := [4]) rfl sc_possible_times.nd (ri_seq rfl (rv 3)) (L2.blkOk_by (N := ["bounds", "notes", "index", "row", "time"]) (sc := defScope (topS 11)) (own := [("time", 4)]) (by decide +kernel)) (fun _ _ _ _ _ => (pg_name (i := 4) sc_possible_times.nd rfl (.inl rfl))) gt_name (by decide) (fun _ _ _ _ _ => (pts_one (r_cmpT op_gtA ok_gt (r_b (r_idx rfl hr.units (rvB 3) (rvB 4))) (r_b r_int) (nomark _)))) (fun _ _ _ _ _ => (rv 4))))) rab_nil))))))
theorem sc_sure_kinds : FnScope ["bounds", "notes", "rows", "found", "index", "note", "some", "time", "kind", "then"] ["bounds", "notes"] (defScope (topS 12)) := ⟨rfl, rfl, rfl, by decide +kernel, rfl, by decide +kernel, by decide +kernel⟩
theorem ok_sure_kinds {P : Program} {w : World} {p : Par} {mg : Str → Option Value} {base : Heap} {f : Addr} {fd : FuncData} (F : Fun p.K "sure_kinds" "sure_kinds" (topS 12) f fd) (m_enumerate : mg "enumerate" = none) (c_backward : Callee P w p mg base "backward" 3 S_backward) (c_steps : Callee P w p mg base "steps" 1 S_steps) :
    FnOk P w p.K mg base (L2.CX P w) 4 f fd ["bounds", "notes"] (spD p S_sure_kinds) :=
  fn_ok (k := 3) (O' := []) (b := B_sure_kinds) F sc_sure_kinds rfl rfl fun cdv A outer s H E hr =>
  (q_cons (O1 := []) (q_set (i := 2) sc_sure_kinds.nd rfl (.inl rfl) (r_callC c_backward hr (by decide) rfl (by rfl) (L2.takes_of rfl rfl rfl rfl) (ra_cons (rv 0) (ra_cons (rv 1) ra_nil))))
    (q_cons (O1 := []) (q_if (O1 := []) (r_cmpT (op_eqK rfl hr.units) ok_eq (r_b (r_idx rfl hr.units (r_b (r_idx rfl hr.units (rvB 2) (r_b r_int))) (r_b r_int))) (r_b r_int) (nomark _)) (q_one (q_ret (O1 := []) r_non)) (q_nilP (by decide)))
    (q_cons (O1 := []) (q_set (i := 3) sc_sure_kinds.nd rfl (.inl rfl) (r_str (by rfl)))
    (q_cons (O1 := []) (q_for (O := []) (L2.passes_of rfl) rfl (ri_enum (by rfl) m_enumerate (ra_cons (rv 1) ra_nil)) (pg_tup (n := 2) rfl (pgs_cons (pg_name (i := 4) sc_sure_kinds.nd rfl (.inl rfl)) (pgs_cons (pg_name (i := 5) sc_sure_kinds.nd rfl (.inl rfl)) pgs_nil))) (gt_tup (is := [4, 5]) (by rfl)) (q_cons (O1 := []) (q_set (i := 6) sc_sure_kinds.nd rfl (.inl rfl) (r_str (by rfl)))
    (q_cons (O1 := []) (q_for (O := []) (L2.passes_of rfl) rfl (ri_seq rfl (r_idx rfl hr.units (rvB 2) (rvB 4))) (pg_name (i := 7) sc_sure_kinds.nd rfl (.inl rfl)) gt_name (q_one (q_if (O1 := []) (r_cmpT op_gtA ok_gt (r_b (r_idx rfl hr.units (r_b (r_idx rfl hr.units (rvB 2) (rvB 4))) (rvB 7))) (r_b r_int) (nomark _)) (q_cons (O1 := []) (q_for (O := []) (L2.passes_of rfl) rfl (ri_seq rfl (r_callC c_steps hr (by decide) rfl (by rfl) (L2.takes_of rfl rfl rfl rfl) (ra_cons (rv 0) (ra_cons (rv 7) (ra_cons (rv 5) (ra_cons (r_cmpV (op_eqK rfl hr.units) ok_eq (rvB 4) (r_b r_int) (nomark _)) ra_nil)))))) (pg_tup (n := 2) rfl (pgs_cons (pg_name (i := 8) sc_sure_kinds.nd rfl (.inl rfl)) (pgs_cons (pg_name (i := 9) sc_sure_kinds.nd rfl (.inl rfl)) pgs_nil))) (gt_tup (is := [8, 9]) (by rfl)) (q_cons (O1 := []) (q_set (i := 6) sc_sure_kinds.nd rfl (.inl rfl) (r_if (r_cmpT op_gtA ok_gt (r_b (r_idx rfl hr.units (r_b (r_idx rfl hr.units (rvB 2) (r_b (r_add rfl (rvB 4) (r_b r_int))))) (rvB 9))) (r_b r_int) (nomark _)) (r_add rfl (rvB 6) (rvB 8)) (rv 6)))
    (q_nilP (by decide))))
    (q_nilP (by decide))) (q_nilP (by decide)))))
    (q_cons (O1 := []) (q_set (i := 3) sc_sure_kinds.nd rfl (.inl rfl) (r_add rfl (rvB 3) (r_b (r_if (L2.PW.pt (r_and (r_cmpT (op_inK rfl hr.units) ok_in (r_b (r_str (by rfl))) (rvB 6) (by with_unfolding_all rfl)) (r_and1 (r_cmpT (op_inK rfl hr.units) ok_in (r_b (r_str (by rfl))) (rvB 6) (by with_unfolding_all rfl))))) (r_str (by rfl)) (r_idx rfl hr.units (rvB 6) (r_b r_int))))))
    (q_nilP (by decide))))))
    (q_one (q_ret (O1 := []) (rv 3)))))))
theorem sc__law_cell : FnScope ["script", "index"] ["script", "index"] (defScope (topS 14)) := ⟨rfl, rfl, rfl, by decide +kernel, rfl, by decide +kernel, by decide +kernel⟩
theorem ok__law_cell {P : Program} {w : World} {p : Par} {mg : Str → Option Value} {base : Heap} {f : Addr} {fd : FuncData} (F : Fun p.K "_law_cell" "_law_cell" (topS 14) f fd) (m_len : mg "len" = none) :
    FnOk P w p.K mg base (L2.CX P w) 1 f fd ["script", "index"] (spD p S__law_cell) :=
  fn_ok (k := 0) (O' := []) (b := B__law_cell) F sc__law_cell rfl rfl fun cdv A outer s H E hr =>
  (q_cons (O1 := []) (q_if (O1 := []) (r_cmpT op_lt ok_lt (rvB 1) (r_b (r_len rfl (by rfl) m_len (rab_cons (rvB 0) rab_nil))) (nomark _)) (q_one (q_ret (O1 := []) (r_idx rfl hr.units (rvB 0) (rvB 1)))) (q_nilP (by decide)))
    (q_cons (O1 := []) (q_if (O1 := []) (r_cmpT (op_eqK rfl hr.units) ok_eq (r_b (r_len rfl (by rfl) m_len (rab_cons (rvB 0) rab_nil))) (r_b r_int) (nomark _)) (q_one (q_ret (O1 := []) (r_add rfl (r_b (r_mul (r_b r_int) (rvB 1))) (r_b r_int)))) (q_nilP (by decide)))
    (q_one (q_ret (O1 := []) (r_add rfl (r_b (r_mod (r_b (r_idx rfl hr.units (rvB 0) (r_b (r_mod (rvB 1) (r_b (r_len rfl (by rfl) m_len (rab_cons (rvB 0) rab_nil))))))) (r_b r_int))) (r_b (r_mul (r_b r_int) (rvB 1))))))))
theorem sc__law_digits : FnScope ["script", "index", "count", "base", "primes", "cell", "rest", "digits", "k", "mixed"] ["script", "index", "count", "base"] (defScope (topS 15)) := ⟨rfl, rfl, rfl, by decide +kernel, rfl, by decide +kernel, by decide +kernel⟩
theorem ok__law_digits {P : Program} {w : World} {p : Par} {mg : Str → Option Value} {base : Heap} {f : Addr} {fd : FuncData} (F : Fun p.K "_law_digits" "_law_digits" (topS 15) f fd) (m_range : mg "range" = none) (c__law_cell : Callee P w p mg base "_law_cell" 1 S__law_cell) :
    FnOk P w p.K mg base (L2.CX P w) 2 f fd ["script", "index", "count", "base"] (spD p S__law_digits) :=
  fn_ok (k := 1) (O' := []) (b := B__law_digits) F sc__law_digits rfl rfl fun cdv A outer s H E hr =>
  (q_cons (O1 := []) (q_set (i := 4) sc__law_digits.nd rfl (.inl rfl) (r_tup (ra_cons r_int (ra_cons r_int (ra_cons r_int (ra_cons r_int (ra_cons r_int (ra_cons r_int (ra_cons r_int (ra_cons r_int ra_nil))))))))))
    (q_cons (O1 := []) (q_set (i := 5) sc__law_digits.nd rfl (.inl rfl) (r_callC c__law_cell hr (by decide) rfl (by rfl) (L2.takes_of rfl rfl rfl rfl) (ra_cons (rv 0) (ra_cons (rv 1) ra_nil))))
    (q_cons (O1 := []) (q_set (i := 6) sc__law_digits.nd rfl (.inl rfl) (r_if (r_cmpT op_ge ok_ge (rvB 5) (r_b (r_pow (r_b r_int) (r_b r_int))) (nomark _)) (rv 5) r_int))
    (q_cons (O1 := [7]) (q_setF (i := 7) sc__law_digits.nd rfl (.inl rfl) (r_lst ra_nil))
    (q_cons (O1 := [7]) (q_for (O := [7]) (L2.passes_of rfl) rfl (ri_rng1 (by rfl) m_range (ra_cons (rv 2) ra_nil)) (pg_name (i := 8) sc__law_digits.nd rfl (.inl rfl)) gt_name (q_cons (O1 := [7]) (q_set (i := 9) sc__law_digits.nd rfl (.inl rfl) (r_mul (r_b (r_mod (rvB 5) (r_b (r_idx rfl hr.units (rvB 4) (r_b (r_mod (rvB 8) (r_b r_int))))))) (r_b (r_add rfl (r_b r_int) (r_b (r_mul (r_b (r_mul (r_b r_int) (rvB 8))) (rvB 8)))))))
    (q_cons (O1 := [7]) (q_set (i := 9) sc__law_digits.nd rfl (.inl rfl) (r_add rfl (r_b (r_add rfl (rvB 9) (r_b (r_mul (r_b (r_mul (r_b r_int) (r_b (r_add rfl (rvB 8) (r_b r_int))))) (r_b (r_add rfl (rvB 8) (r_b r_int))))))) (r_b (r_mul (r_b r_int) (rvB 1)))))
    (q_cons (O1 := [7]) (q_set (i := 9) sc__law_digits.nd rfl (.inl rfl) (r_mod (rvB 9) (r_b (r_idx rfl hr.units (rvB 4) (r_b (r_mod (r_b (r_add rfl (r_b (r_mul (r_b r_int) (rvB 8))) (rvB 1))) (r_b r_int)))))))
    (q_cons (O1 := [7]) (q_set (i := 9) sc__law_digits.nd rfl (.inl rfl) (r_mod (r_b (r_mul (r_b (r_mul (rvB 9) (rvB 9))) (rvB 9))) (r_b (r_idx rfl hr.units (rvB 4) (r_b (r_mod (r_b (r_add rfl (rvB 8) (r_b r_int))) (r_b r_int)))))))
    (q_cons (O1 := [7]) (q_if (O1 := [7]) (r_cmpT op_gtA ok_gt (rvB 6) (r_b r_int) (nomark _)) (q_cons (O1 := [7]) (q_set (i := 9) sc__law_digits.nd rfl (.inl rfl) (rv 6))
    (q_nilP (by decide))) (q_nilP (by decide)))
    (q_cons (O1 := [7]) (qv_app (i := 7) (by decide) (pv 7) (r_mod (rvB 9) (rvB 3)))
    (q_cons (O1 := [7]) (q_set (i := 6) sc__law_digits.nd rfl (.inl rfl) (r_div (rvB 6) (rvB 3)))
    (q_nilP (by decide))))))))))
    (q_frz 7 (q_one (q_ret (O1 := []) (rv 7)))))))))
theorem sc__law_bounds : FnScope ["digits", "low"] ["digits"] (defScope (topS 16)) := ⟨rfl, rfl, rfl, by decide +kernel, rfl, by decide +kernel, by decide +kernel⟩
theorem ok__law_bounds {P : Program} {w : World} {p : Par} {mg : Str → Option Value} {base : Heap} {f : Addr} {fd : FuncData} (F : Fun p.K "_law_bounds" "_law_bounds" (topS 16) f fd) :
    FnOk P w p.K mg base (L2.CX P w) 1 f fd ["digits"] (spD p S__law_bounds) :=
  fn_ok (k := 0) (O' := []) (b := B__law_bounds) F sc__law_bounds rfl rfl fun cdv A outer s H E hr =>
  (q_cons (O1 := []) (q_set (i := 1) sc__law_bounds.nd rfl (.inl rfl) (r_add rfl (r_b r_int) (r_b (r_mod (r_b (r_idx rfl hr.units (rvB 0) (r_b r_int))) (r_b (r_idx rfl hr.units (r_b (r_f (r_lst (ra_cons r_int (ra_cons r_int ra_nil))))) (r_b (r_mod (r_b (r_idx rfl hr.units (rvB 0) (r_b r_int))) (r_b r_int)))))))))
    (q_one (q_ret (O1 := []) (r_tup (ra_cons (rv 1) (ra_cons (r_add rfl (rvB 1) (r_b (r_mod (r_b (r_idx rfl hr.units (rvB 0) (r_b r_int))) (r_b (r_idx rfl hr.units (r_b (r_f (r_lst (ra_cons r_int (ra_cons r_int (ra_cons r_int ra_nil)))))) (r_b (r_mod (r_b (r_idx rfl hr.units (rvB 0) (r_b r_int))) (r_b r_int)))))))) ra_nil))))))
theorem sc__law_lengths : FnScope ["digits", "bounds", "many", "wide", "found", "k"] ["digits", "bounds", "many"] (defScope (topS 17)) := ⟨rfl, rfl, rfl, by decide +kernel, rfl, by decide +kernel, by decide +kernel⟩
theorem ok__law_lengths {P : Program} {w : World} {p : Par} {mg : Str → Option Value} {base : Heap} {f : Addr} {fd : FuncData} (F : Fun p.K "_law_lengths" "_law_lengths" (topS 17) f fd) (m_range : mg "range" = none) (m_len : mg "len" = none) (m_tuple : mg "tuple" = none) :
    FnOk P w p.K mg base (L2.CX P w) 1 f fd ["digits", "bounds", "many"] (spD p S__law_lengths) :=
  fn_ok (k := 0) (O' := []) (b := B__law_lengths) F sc__law_lengths rfl rfl fun cdv A outer s H E hr =>
  (q_cons (O1 := [4]) (q_parEF (i := 3) (j := 4) (ps_par (by rfl) sc__law_lengths.nd rfl rfl (by decide) rfl rfl (pa_cons (r_add rfl (r_b (r_sub (r_b (r_idx rfl hr.units (rvB 1) (r_b r_int))) (r_b (r_idx rfl hr.units (rvB 1) (r_b r_int))))) (r_b r_int)) (pa_cons (r_lst ra_nil) pa_nil)) (by rfl)))
    (q_cons (O1 := [4]) (q_for (O := [4]) (L2.passes_of rfl) rfl (ri_rng1 (by rfl) m_range (ra_cons (rv 2) ra_nil)) (pg_name (i := 5) sc__law_lengths.nd rfl (.inl rfl)) gt_name (q_cons (O1 := [4]) (qv_app (i := 4) (by decide) (pv 4) (r_add rfl (r_b (r_idx rfl hr.units (rvB 1) (r_b r_int))) (r_b (r_mod (r_b (r_idx rfl hr.units (rvB 0) (r_b (r_mod (rvB 5) (r_b (r_len rfl (by rfl) m_len (rab_cons (rvB 0) rab_nil))))))) (rvB 3)))))
    (q_nilP (by decide))))
    (q_one (q_ret (O1 := []) (r_tuple rfl (by rfl) m_tuple (rab_cons (rvB 4) rab_nil))))))
theorem sc__law_kinds : FnScope ["digits", "many", "found", "k"] ["digits", "many"] (defScope (topS 18)) := ⟨rfl, rfl, rfl, by decide +kernel, rfl, by decide +kernel, by decide +kernel⟩
theorem ok__law_kinds {P : Program} {w : World} {p : Par} {mg : Str → Option Value} {base : Heap} {f : Addr} {fd : FuncData} (F : Fun p.K "_law_kinds" "_law_kinds" (topS 18) f fd) (m_range : mg "range" = none) (m_len : mg "len" = none) :
    FnOk P w p.K mg base (L2.CX P w) 1 f fd ["digits", "many"] (spD p S__law_kinds) :=
  fn_ok (k := 0) (O' := []) (b := B__law_kinds) F sc__law_kinds rfl rfl fun cdv A outer s H E hr =>
  (q_cons (O1 := []) (q_set (i := 2) sc__law_kinds.nd rfl (.inl rfl) (r_str (by rfl)))
    (q_cons (O1 := []) (q_for (O := []) (L2.passes_of rfl) rfl (ri_rng1 (by rfl) m_range (ra_cons (rv 1) ra_nil)) (pg_name (i := 3) sc__law_kinds.nd rfl (.inl rfl)) gt_name (q_cons (O1 := []) (q_set (i := 2) sc__law_kinds.nd rfl (.inl rfl) (r_add rfl (rvB 2) (r_b (r_if (L2.PW.pt (r_or (r_cmpT (op_eqK rfl hr.units) ok_eq (rvB 3) (r_b r_int) (nomark _)) (r_or1 (r_cmpT (op_eqK rfl hr.units) ok_eq (r_b (r_mod (r_b (r_div (r_b (r_idx rfl hr.units (rvB 0) (r_b (r_mod (rvB 3) (r_b (r_len rfl (by rfl) m_len (rab_cons (rvB 0) rab_nil))))))) (r_b r_int))) (r_b r_int))) (r_b r_int) (nomark _))))) (r_str (by rfl)) (r_str (by rfl))))))
    (q_nilP (by decide))))
    (q_one (q_ret (O1 := []) (rv 2)))))
theorem sc__law_noted : FnScope ["lengths", "kinds", "found", "time", "length", "kind"] ["lengths", "kinds"] (defScope (topS 19)) := ⟨rfl, rfl, rfl, by decide +kernel, rfl, by decide +kernel, by decide +kernel⟩
theorem ok__law_noted {P : Program} {w : World} {p : Par} {mg : Str → Option Value} {base : Heap} {f : Addr} {fd : FuncData} (F : Fun p.K "_law_noted" "_law_noted" (topS 19) f fd) (m_zip : mg "zip" = none) (m_tuple : mg "tuple" = none) :
    FnOk P w p.K mg base (L2.CX P w) 1 f fd ["lengths", "kinds"] (spD p S__law_noted) :=
  fn_ok (k := 0) (O' := []) (b := B__law_noted) F sc__law_noted rfl rfl fun cdv A outer s H E hr =>
  (q_cons (O1 := [2]) (q_parFE (i := 2) (j := 3) (ps_par (by rfl) sc__law_noted.nd rfl rfl (by decide) rfl rfl (pa_cons (r_lst ra_nil) (pa_cons r_int pa_nil)) (by rfl)))
    (q_cons (O1 := [2]) (q_for (O := [2]) (L2.passes_of rfl) rfl (ri_zip (by rfl) m_zip (ra_cons (rv 0) (ra_cons (rv 1) ra_nil))) (pg_tup (n := 2) rfl (pgs_cons (pg_name (i := 4) sc__law_noted.nd rfl (.inl rfl)) (pgs_cons (pg_name (i := 5) sc__law_noted.nd rfl (.inl rfl)) pgs_nil))) (gt_tup (is := [4, 5]) (by rfl)) (q_cons (O1 := [2]) (q_set (i := 3) sc__law_noted.nd rfl (.inl rfl) (r_add rfl (rvB 3) (rvB 4)))
    (q_cons (O1 := [2]) (qv_app (i := 2) (by decide) (pv 2) (r_if (r_cmpT (op_eqK rfl hr.units) ok_eq (rvB 5) (r_b (r_str (by rfl))) (nomark _)) (rv 4) (rv 3)))
    (q_nilP (by decide)))))
    (q_one (q_ret (O1 := []) (r_tuple rfl (by rfl) m_tuple (rab_cons (rvB 2) rab_nil))))))
theorem sc_law : FnScope ["script", "index", "digits", "bounds", "many", "notes", "wide", "number", "total", "one", "at", "few", "more", "time", "signs", "sign", "other", "times_so", "large", "longer", "note"] ["script"] (defScope (topS 20)) := ⟨rfl, rfl, rfl, by decide +kernel, rfl, by decide +kernel, by decide +kernel⟩
theorem ok_law {P : Program} {w : World} {p : Par} {mg : Str → Option Value} {base : Heap} {f : Addr} {fd : FuncData} (F : Fun p.K "law" "law" (topS 20) f fd) (m_range : mg "range" = none) (m_max : mg "max" = none) (m_zip : mg "zip" = none) (m_list : mg "list" = none) (m_tuple : mg "tuple" = none) (c__law_digits : Callee P w p mg base "_law_digits" 2 S__law_digits) (c__law_bounds : Callee P w p mg base "_law_bounds" 1 S__law_bounds) (c__law_noted : Callee P w p mg base "_law_noted" 1 S__law_noted) (c__law_kinds : Callee P w p mg base "_law_kinds" 1 S__law_kinds) (c__law_lengths : Callee P w p mg base "_law_lengths" 1 S__law_lengths) (c_count_readings : Callee P w p mg base "count_readings" 4 S_count_readings) (c_reading_at : Callee P w p mg base "reading_at" 4 S_reading_at) (c_fits : Callee P w p mg base "fits" 3 S_fits) (c_possible_times : Callee P w p mg base "possible_times" 4 S_possible_times) (c_sure_kinds : Callee P w p mg base "sure_kinds" 4 S_sure_kinds) (c_readings : CalleeG P w p mg base "readings" 5 S_readings) :
    FnOk P w p.K mg base (L2.CX P w) 9 f fd ["script"] (spD p S_law) :=
  fn_ok (k := 8) (O' := []) (b := B_law) F sc_law rfl rfl fun cdv A outer s H E hr =>
  (q_cons (O1 := []) (q_for (O := []) (L2.passes_of rfl) rfl (ri_rng1 (by rfl) m_range (ra_cons r_int ra_nil)) (pg_name (i := 1) sc_law.nd rfl (.inl rfl)) gt_name (q_cons (O1 := []) (q_set (i := 2) sc_law.nd rfl (.inl rfl) (r_callC c__law_digits hr (by decide) rfl (by rfl) (L2.takes_of rfl rfl rfl rfl) (ra_cons (rv 0) (ra_cons (rv 1) (ra_cons r_int (ra_cons r_int ra_nil))))))
    (q_cons (O1 := []) (q_unp (ps_asg (r_tup (ra_cons (r_callC c__law_bounds hr (by decide) rfl (by rfl) (L2.takes_of rfl rfl rfl rfl) (ra_cons (rv 2) ra_nil)) (ra_cons (r_add rfl (r_b r_int) (r_b (r_mod (r_b (r_idx rfl hr.units (rvB 2) (r_b r_int))) (r_b r_int)))) ra_nil))) (pg_tup (n := 2) rfl (pgs_cons (pg_name (i := 3) sc_law.nd rfl (.inr rfl)) (pgs_cons (pg_name (i := 4) sc_law.nd rfl (.inl rfl)) pgs_nil)))) (gt_tup (is := [3, 4]) (by rfl)))
    (q_cons (O1 := []) (q_set (i := 5) sc_law.nd rfl (.inr rfl) (r_callC c__law_noted hr (by decide) rfl (by rfl) (L2.takes_of rfl rfl rfl rfl) (ra_cons (r_callC c__law_lengths hr (by decide) rfl (by rfl) (L2.takes_of rfl rfl rfl rfl) (ra_cons (r_slice rfl (rvB 2) (ro_some r_int) ro_none) (ra_cons (rv 3) (ra_cons (rv 4) ra_nil)))) (ra_cons (r_callC c__law_kinds hr (by decide) rfl (by rfl) (L2.takes_of rfl rfl rfl rfl) (ra_cons (r_slice rfl (rvB 2) (ro_some r_int) ro_none) (ra_cons (rv 4) ra_nil))) ra_nil))))
    (q_cons (O1 := []) (q_set (i := 6) sc_law.nd rfl (.inl rfl) (r_tup (ra_cons (r_max rfl rfl (by rfl) m_max (rab_cons (r_b r_int) (rab_cons (r_b (r_sub (r_b (r_idx rfl hr.units (rvB 3) (r_b r_int))) (r_b (r_mod (r_b (r_idx rfl hr.units (rvB 2) (r_b r_int))) (r_b r_int))))) rab_nil))) (ra_cons (r_add rfl (r_b (r_idx rfl hr.units (rvB 3) (r_b r_int))) (r_b (r_mod (r_b (r_idx rfl hr.units (rvB 2) (r_b r_int))) (r_b r_int)))) ra_nil))))
    (q_cons (O1 := []) (q_set (i := 7) sc_law.nd rfl (.inl rfl) (r_mod (r_b (r_idx rfl hr.units (rvB 2) (r_b r_int))) (r_b (r_callC c_count_readings hr (by decide) rfl (by rfl) (L2.takes_of rfl rfl rfl rfl) (ra_cons (rv 3) (ra_cons (rv 5) ra_nil))))))
    (q_cons (O1 := []) (q_set (i := 8) sc_law.nd rfl (.inl rfl) (r_callC c_count_readings hr (by decide) rfl (by rfl) (L2.takes_of rfl rfl rfl rfl) (ra_cons (rv 6) (ra_cons (rv 5) ra_nil))))
    (q_cons (O1 := []) (q_set (i := 9) sc_law.nd rfl (.inl rfl) (r_callC c_reading_at hr (by decide) rfl (by rfl) (L2.takes_of rfl rfl rfl rfl) (ra_cons (rv 3) (ra_cons (rv 5) (ra_cons (rv 7) ra_nil)))))
    (q_cons (O1 := []) (q_if (O1 := []) (L2.PW.pt (r_or (r_cmpT op_lt ok_lt (rvB 8) (r_b (r_callC c_count_readings hr (by decide) rfl (by rfl) (L2.takes_of rfl rfl rfl rfl) (ra_cons (rv 3) (ra_cons (rv 5) ra_nil)))) (nomark _)) (r_or1 (r_tnot (r_tst (r_callC c_fits hr (by decide) rfl (by rfl) (L2.takes_of rfl rfl rfl rfl) (ra_cons (rv 6) (ra_cons (rv 5) (ra_cons (rv 9) ra_nil))))))))) (q_one (q_ret (O1 := []) r_bl)) (q_nilP (by decide)))
    (q_cons (O1 := []) (q_for (O := []) (L2.passes_of rfl) rfl (ri_rng1 (by rfl) m_range (ra_cons (rv 4) ra_nil)) (pg_name (i := 10) sc_law.nd rfl (.inr rfl)) gt_name (q_cons (O1 := []) (q_if (O1 := []) (L2.PW.pt (r_or (r_cmpT op_lt ok_lt (r_b (r_callC c_count_readings hr (by decide) rfl (by rfl) (L2.takes_of rfl rfl rfl rfl) (ra_cons (rv 3) (ra_cons (r_slice rfl (rvB 5) ro_none (ro_some (rv 10))) ra_nil)))) (r_b r_int) (nomark _)) (r_or1 (r_tnot (r_tst (r_callC c_fits hr (by decide) rfl (by rfl) (L2.takes_of rfl rfl rfl rfl) (ra_cons (rv 3) (ra_cons (r_slice rfl (rvB 5) ro_none (ro_some (rv 10))) (ra_cons (r_slice rfl (rvB 9) ro_none (ro_some (rv 10))) ra_nil))))))))) (q_one (q_ret (O1 := []) r_bl)) (q_nilP (by decide)))
    (q_cons (O1 := []) (q_set (i := 11) sc_law.nd rfl (.inl rfl) (r_callC c_possible_times hr (by decide) rfl (by rfl) (L2.takes_of rfl rfl rfl rfl) (ra_cons (rv 3) (ra_cons (rv 5) (ra_cons (rv 10) ra_nil)))))
    (q_cons (O1 := []) (q_set (i := 12) sc_law.nd rfl (.inr rfl) (r_callC c_possible_times hr (by decide) rfl (by rfl) (L2.takes_of rfl rfl rfl rfl) (ra_cons (rv 6) (ra_cons (rv 5) (ra_cons (rv 10) ra_nil)))))
    (q_cons (O1 := []) (q_if (O1 := []) (r_cmpT (op_neK rfl hr.units) ok_ne (r_b (r_f (r_lc (own := [("time", 13)]) (is := [13]) rfl sc_law.nd (ri_seq rfl (rv 11)) (L2.blkOk_by (N := ["script", "index", "digits", "bounds", "many", "notes", "wide", "number", "total", "one", "at", "few", "more", "time", "signs", "sign", "other", "times_so", "large", "longer", "note"]) (sc := defScope (topS 20)) (own := [("time", 13)]) (by decide +kernel)) (fun _ _ _ _ _ => (pg_name (i := 13) sc_law.nd rfl (.inl rfl))) gt_name (by decide) (fun _ _ _ _ _ => (pts_one (r_cmpT (op_notInK rfl hr.units) ok_notIn (rvB 13) (rvB 12) (by with_unfolding_all rfl)))) (fun _ _ _ _ _ => (rv 13))))) (r_b (r_f (r_lst ra_nil))) (nomark _)) (q_one (q_ret (O1 := []) r_bl)) (q_nilP (by decide)))
    (q_one (q_if (O1 := []) (r_cmpT (op_neK rfl hr.units) ok_ne (r_b (r_f (r_lc (own := [("time", 13)]) (is := [13]) rfl sc_law.nd (ri_seq rfl (rv 11)) (L2.blkOk_by (N := ["script", "index", "digits", "bounds", "many", "notes", "wide", "number", "total", "one", "at", "few", "more", "time", "signs", "sign", "other", "times_so", "large", "longer", "note"]) (sc := defScope (topS 20)) (own := [("time", 13)]) (by decide +kernel)) (fun _ _ _ _ _ => (pg_name (i := 13) sc_law.nd rfl (.inl rfl))) gt_name (by decide) (fun _ _ _ _ _ => (pts_one (r_cmpT (op_notInK rfl hr.units) ok_notIn (rvB 13) (r_b (r_callC c_possible_times hr (by decide) rfl (by rfl) (L2.takes0) (ra_cons (rv 3) (ra_cons (r_slice rfl (rvB 5) ro_none (ro_some (r_add rfl (rvB 10) (r_b r_int)))) (ra_cons (rv 10) ra_nil))))) (by with_unfolding_all rfl)))) (fun _ _ _ _ _ => (rv 13))))) (r_b (r_f (r_lst ra_nil))) (nomark _)) (q_one (q_ret (O1 := []) r_bl)) (q_nilP (by decide)))))))))
    (q_cons (O1 := []) (q_set (i := 14) sc_law.nd rfl (.inl rfl) (r_f (r_listZip hr.hd (by rfl) m_zip (by rfl) m_list (ra_cons (r_callC c_sure_kinds hr (by decide) rfl (by rfl) (L2.takes_of rfl rfl rfl rfl) (ra_cons (rv 3) (ra_cons (rv 5) ra_nil))) (ra_cons (r_callC c_sure_kinds hr (by decide) rfl (by rfl) (L2.takes_of rfl rfl rfl rfl) (ra_cons (rv 6) (ra_cons (rv 5) ra_nil))) ra_nil)))))
    (q_cons (O1 := []) (q_if (O1 := []) (r_cmpT (op_neK rfl hr.units) ok_ne (r_b (r_f (r_lc (own := [("sign", 15), ("other", 16)]) (is := [15, 16]) rfl sc_law.nd (ri_seq rfl (rv 14)) (L2.blkOk_by (N := ["script", "index", "digits", "bounds", "many", "notes", "wide", "number", "total", "one", "at", "few", "more", "time", "signs", "sign", "other", "times_so", "large", "longer", "note"]) (sc := defScope (topS 20)) (own := [("sign", 15), ("other", 16)]) (by decide +kernel)) (fun _ _ _ _ _ => (pg_tup (n := 2) rfl (pgs_cons (pg_name (i := 15) sc_law.nd rfl (.inl rfl)) (pgs_cons (pg_name (i := 16) sc_law.nd rfl (.inl rfl)) pgs_nil)))) (gt_tup (is := [15, 16]) (by rfl)) (by decide) (fun _ _ _ _ _ => (pts_one (r_cmpT (op_notInK rfl hr.units) ok_notIn (rvB 16) (r_b (r_tup (ra_cons (rv 15) (ra_cons (r_str (by rfl)) ra_nil)))) (by with_unfolding_all rfl)))) (fun _ _ _ _ _ => r_int)))) (r_b (r_f (r_lst ra_nil))) (nomark _)) (q_one (q_ret (O1 := []) r_bl)) (q_nilP (by decide)))
    (q_cons (O1 := []) (q_set (i := 17) sc_law.nd rfl (.inr rfl) (r_add rfl (r_b r_int) (r_b (r_mod (r_b (r_idx rfl hr.units (rvB 2) (r_b r_int))) (r_b r_int)))))
    (q_cons (O1 := []) (q_set (i := 18) sc_law.nd rfl (.inl rfl) (r_tup (ra_cons (r_mul (r_b (r_idx rfl hr.units (rvB 3) (r_b r_int))) (rvB 17)) (ra_cons (r_mul (r_b (r_idx rfl hr.units (rvB 3) (r_b r_int))) (rvB 17)) ra_nil))))
    (q_cons (O1 := []) (q_set (i := 19) sc_law.nd rfl (.inl rfl) (r_tuple rfl (by rfl) m_tuple (rab_cons (r_b (r_f (r_lc (own := [("note", 20)]) (is := [20]) rfl sc_law.nd (ri_seq rfl (rv 5)) (L2.blkOk_by (N := ["script", "index", "digits", "bounds", "many", "notes", "wide", "number", "total", "one", "at", "few", "more", "time", "signs", "sign", "other", "times_so", "large", "longer", "note"]) (sc := defScope (topS 20)) (own := [("note", 20)]) (by decide +kernel)) (fun _ _ _ _ _ => (pg_name (i := 20) sc_law.nd rfl (.inl rfl))) gt_name (by decide) (fun _ _ _ _ _ => pts_true) (fun _ _ _ _ _ => (r_mul (rvB 20) (rvB 17)))))) rab_nil)))
    (q_cons (O1 := []) (q_if (O1 := []) (L2.PW.pt (r_or (r_cmpT (op_neK rfl hr.units) ok_ne (r_b (r_callC c_count_readings hr (by decide) rfl (by rfl) (L2.takes_of rfl rfl rfl rfl) (ra_cons (rv 18) (ra_cons (rv 19) ra_nil)))) (r_b (r_callC c_count_readings hr (by decide) rfl (by rfl) (L2.takes_of rfl rfl rfl rfl) (ra_cons (rv 3) (ra_cons (rv 5) ra_nil)))) (nomark _)) (r_or1 (r_cmpT (op_neK rfl hr.units) ok_ne (r_b (r_callC c_reading_at hr (by decide) rfl (by rfl) (L2.takes_of rfl rfl rfl rfl) (ra_cons (rv 18) (ra_cons (rv 19) (ra_cons (rv 7) ra_nil))))) (rvB 9) (nomark _))))) (q_one (q_ret (O1 := []) r_bl)) (q_nilP (by decide)))
    (q_cons (O1 := []) (q_set (i := 10) sc_law.nd rfl (.inr rfl) (r_mod (r_b (r_idx rfl hr.units (rvB 2) (r_b r_int))) (rvB 4)))
    (q_one (q_if (O1 := []) (r_cmpT (op_neK rfl hr.units) ok_ne (r_b (r_callC c_possible_times hr (by decide) rfl (by rfl) (L2.takes_of rfl rfl rfl rfl) (ra_cons (rv 18) (ra_cons (rv 19) (ra_cons (rv 10) ra_nil))))) (r_b (r_f (r_lc (own := [("time", 13)]) (is := [13]) rfl sc_law.nd (ri_seq rfl (r_callC c_possible_times hr (by decide) rfl (by rfl) (L2.takes_of rfl rfl rfl rfl) (ra_cons (rv 3) (ra_cons (rv 5) (ra_cons (rv 10) ra_nil))))) (L2.blkOk_by (N := ["script", "index", "digits", "bounds", "many", "notes", "wide", "number", "total", "one", "at", "few", "more", "time", "signs", "sign", "other", "times_so", "large", "longer", "note"]) (sc := defScope (topS 20)) (own := [("time", 13)]) (by decide +kernel)) (fun _ _ _ _ _ => (pg_name (i := 13) sc_law.nd rfl (.inl rfl))) gt_name (by decide) (fun _ _ _ _ _ => pts_true) (fun _ _ _ _ _ => (r_mul (rvB 13) (rvB 17)))))) (nomark _)) (q_one (q_ret (O1 := []) r_bl)) (q_nilP (by decide)))))))))))))))))))))
    (q_cons (O1 := []) (q_if (O1 := []) (r_cmpT (op_neK rfl hr.units) ok_ne (r_b (r_f (r_listG c_readings hr (by decide) rfl (by rfl) (by rfl) m_list (ra_cons (r_tup (ra_cons r_int (ra_cons r_int ra_nil))) (ra_cons (r_tup (ra_cons r_int (ra_cons r_int (ra_cons r_int ra_nil)))) ra_nil))))) (r_b (r_f (r_lst (ra_cons (r_str (by rfl)) (ra_cons (r_str (by rfl)) ra_nil))))) (nomark _)) (q_one (q_ret (O1 := []) r_bl)) (q_nilP (by decide)))
    (q_one (q_ret (O1 := []) (r_cmpV (op_eqK rfl hr.units) ok_eq (r_b (r_f (r_listG c_readings hr (by decide) rfl (by rfl) (by rfl) m_list (ra_cons (r_tup (ra_cons r_int (ra_cons r_int ra_nil))) (ra_cons (r_tup (ra_cons r_int (ra_cons r_int (ra_cons r_int ra_nil)))) ra_nil))))) (r_b (r_f (r_lst (ra_cons (r_str (by rfl)) (ra_cons (r_str (by rfl)) ra_nil))))) (nomark _))))))
theorem all_mk {l : PySem.W.OpenLaw} {w : World} {K : PySem.W.Frag} {h : Heap} {mg : Str → Option Value} {fa : Addr} (X : K.In h) (G : h.Ns mainGlobals mg) (hfa : mg "law" = some (.ref fa))
    {f0 : Addr} {od0 an0 : Option Addr} {sl0 : Array (Option Value)} {oc0 kV0 dc0 pm0 cd0 ct0 : Value} {f1 : Addr} {od1 an1 : Option Addr} {sl1 : Array (Option Value)} {oc1 kV1 dc1 pm1 cd1 ct1 : Value} {f2 : Addr} {od2 an2 : Option Addr} {sl2 : Array (Option Value)} {oc2 kV2 dc2 pm2 cd2 ct2 : Value} {f3 : Addr} {od3 an3 : Option Addr} {sl3 : Array (Option Value)} {oc3 kV3 dc3 pm3 cd3 ct3 : Value} {f4 : Addr} {od4 an4 : Option Addr} {sl4 : Array (Option Value)} {oc4 kV4 dc4 pm4 cd4 ct4 : Value} {f5 : Addr} {od5 an5 : Option Addr} {sl5 : Array (Option Value)} {oc5 kV5 dc5 pm5 cd5 ct5 : Value} {f6 : Addr} {od6 an6 : Option Addr} {sl6 : Array (Option Value)} {oc6 kV6 dc6 pm6 cd6 ct6 : Value} {f7 : Addr} {od7 an7 : Option Addr} {sl7 : Array (Option Value)} {oc7 kV7 dc7 pm7 cd7 ct7 : Value} {f8 : Addr} {od8 an8 : Option Addr} {sl8 : Array (Option Value)} {oc8 kV8 dc8 pm8 cd8 ct8 : Value} {f9 : Addr} {od9 an9 : Option Addr} {sl9 : Array (Option Value)} {oc9 kV9 dc9 pm9 cd9 ct9 : Value} {f10 : Addr} {od10 an10 : Option Addr} {sl10 : Array (Option Value)} {oc10 kV10 dc10 pm10 cd10 ct10 : Value} {f11 : Addr} {od11 an11 : Option Addr} {sl11 : Array (Option Value)} {oc11 kV11 dc11 pm11 cd11 ct11 : Value} {f12 : Addr} {od12 an12 : Option Addr} {sl12 : Array (Option Value)} {oc12 kV12 dc12 pm12 cd12 ct12 : Value} {f13 : Addr} {od13 an13 : Option Addr} {sl13 : Array (Option Value)} {oc13 kV13 dc13 pm13 cd13 ct13 : Value} {f14 : Addr} {od14 an14 : Option Addr} {sl14 : Array (Option Value)} {oc14 kV14 dc14 pm14 cd14 ct14 : Value} {f15 : Addr} {od15 an15 : Option Addr} {sl15 : Array (Option Value)} {oc15 kV15 dc15 pm15 cd15 ct15 : Value} {f16 : Addr} {od16 an16 : Option Addr} {sl16 : Array (Option Value)} {oc16 kV16 dc16 pm16 cd16 ct16 : Value} {f17 : Addr} {od17 an17 : Option Addr} {sl17 : Array (Option Value)} {oc17 kV17 dc17 pm17 cd17 ct17 : Value}
    (a0 : PySem.W.nsIn K mainGlobals "times" = some (some (.ref f0))) (l0 : K.lookup f0 = some ⟨oc0, od0, .func (PySem.W.fnOf "times" "times" (defArgs (topS 1)) (defBody (topS 1)) (defScope (topS 1)) .none kV0 dc0 pm0 an0 cd0 ct0), sl0⟩) (c0 : PySem.W.codeIn K cd0 "times" = true) (k0 : PySem.W.keepIn K (.ref f0) = true)
    (a1 : PySem.W.nsIn K mainGlobals "laps" = some (some (.ref f1))) (l1 : K.lookup f1 = some ⟨oc1, od1, .func (PySem.W.fnOf "laps" "laps" (defArgs (topS 2)) (defBody (topS 2)) (defScope (topS 2)) .none kV1 dc1 pm1 an1 cd1 ct1), sl1⟩) (c1 : PySem.W.codeIn K cd1 "laps" = true) (k1 : PySem.W.keepIn K (.ref f1) = true)
    (a2 : PySem.W.nsIn K mainGlobals "fits" = some (some (.ref f2))) (l2 : K.lookup f2 = some ⟨oc2, od2, .func (PySem.W.fnOf "fits" "fits" (defArgs (topS 3)) (defBody (topS 3)) (defScope (topS 3)) .none kV2 dc2 pm2 an2 cd2 ct2), sl2⟩) (c2 : PySem.W.codeIn K cd2 "fits" = true) (k2 : PySem.W.keepIn K (.ref f2) = true)
    (a3 : PySem.W.nsIn K mainGlobals "steps" = some (some (.ref f3))) (l3 : K.lookup f3 = some ⟨oc3, od3, .func (PySem.W.fnOf "steps" "steps" (defArgs (topS 4)) (defBody (topS 4)) (defScope (topS 4)) .none kV3 dc3 pm3 an3 cd3 ct3), sl3⟩) (c3 : PySem.W.codeIn K cd3 "steps" = true) (k3 : PySem.W.keepIn K (.ref f3) = true)
    (a4 : PySem.W.nsIn K mainGlobals "forward" = some (some (.ref f4))) (l4 : K.lookup f4 = some ⟨oc4, od4, .func (PySem.W.fnOf "forward" "forward" (defArgs (topS 6)) (defBody (topS 6)) (defScope (topS 6)) .none kV4 dc4 pm4 an4 cd4 ct4), sl4⟩) (c4 : PySem.W.codeIn K cd4 "forward" = true) (k4 : PySem.W.keepIn K (.ref f4) = true)
    (a5 : PySem.W.nsIn K mainGlobals "backward" = some (some (.ref f5))) (l5 : K.lookup f5 = some ⟨oc5, od5, .func (PySem.W.fnOf "backward" "backward" (defArgs (topS 7)) (defBody (topS 7)) (defScope (topS 7)) .none kV5 dc5 pm5 an5 cd5 ct5), sl5⟩) (c5 : PySem.W.codeIn K cd5 "backward" = true) (k5 : PySem.W.keepIn K (.ref f5) = true)
    (a6 : PySem.W.nsIn K mainGlobals "count_readings" = some (some (.ref f6))) (l6 : K.lookup f6 = some ⟨oc6, od6, .func (PySem.W.fnOf "count_readings" "count_readings" (defArgs (topS 8)) (defBody (topS 8)) (defScope (topS 8)) .none kV6 dc6 pm6 an6 cd6 ct6), sl6⟩) (c6 : PySem.W.codeIn K cd6 "count_readings" = true) (k6 : PySem.W.keepIn K (.ref f6) = true)
    (a7 : PySem.W.nsIn K mainGlobals "reading_at" = some (some (.ref f7))) (l7 : K.lookup f7 = some ⟨oc7, od7, .func (PySem.W.fnOf "reading_at" "reading_at" (defArgs (topS 9)) (defBody (topS 9)) (defScope (topS 9)) .none kV7 dc7 pm7 an7 cd7 ct7), sl7⟩) (c7 : PySem.W.codeIn K cd7 "reading_at" = true) (k7 : PySem.W.keepIn K (.ref f7) = true)
    (a8 : PySem.W.nsIn K mainGlobals "readings" = some (some (.ref f8))) (l8 : K.lookup f8 = some ⟨oc8, od8, .func (PySem.W.fnOf "readings" "readings" (defArgs (topS 10)) (defBody (topS 10)) (defScope (topS 10)) .none kV8 dc8 pm8 an8 cd8 ct8), sl8⟩) (c8 : PySem.W.codeIn K cd8 "readings" = true) (k8 : PySem.W.keepIn K (.ref f8) = true)
    (a9 : PySem.W.nsIn K mainGlobals "possible_times" = some (some (.ref f9))) (l9 : K.lookup f9 = some ⟨oc9, od9, .func (PySem.W.fnOf "possible_times" "possible_times" (defArgs (topS 11)) (defBody (topS 11)) (defScope (topS 11)) .none kV9 dc9 pm9 an9 cd9 ct9), sl9⟩) (c9 : PySem.W.codeIn K cd9 "possible_times" = true) (k9 : PySem.W.keepIn K (.ref f9) = true)
    (a10 : PySem.W.nsIn K mainGlobals "sure_kinds" = some (some (.ref f10))) (l10 : K.lookup f10 = some ⟨oc10, od10, .func (PySem.W.fnOf "sure_kinds" "sure_kinds" (defArgs (topS 12)) (defBody (topS 12)) (defScope (topS 12)) .none kV10 dc10 pm10 an10 cd10 ct10), sl10⟩) (c10 : PySem.W.codeIn K cd10 "sure_kinds" = true) (k10 : PySem.W.keepIn K (.ref f10) = true)
    (a11 : PySem.W.nsIn K mainGlobals "_law_cell" = some (some (.ref f11))) (l11 : K.lookup f11 = some ⟨oc11, od11, .func (PySem.W.fnOf "_law_cell" "_law_cell" (defArgs (topS 14)) (defBody (topS 14)) (defScope (topS 14)) .none kV11 dc11 pm11 an11 cd11 ct11), sl11⟩) (c11 : PySem.W.codeIn K cd11 "_law_cell" = true) (k11 : PySem.W.keepIn K (.ref f11) = true)
    (a12 : PySem.W.nsIn K mainGlobals "_law_digits" = some (some (.ref f12))) (l12 : K.lookup f12 = some ⟨oc12, od12, .func (PySem.W.fnOf "_law_digits" "_law_digits" (defArgs (topS 15)) (defBody (topS 15)) (defScope (topS 15)) .none kV12 dc12 pm12 an12 cd12 ct12), sl12⟩) (c12 : PySem.W.codeIn K cd12 "_law_digits" = true) (k12 : PySem.W.keepIn K (.ref f12) = true)
    (a13 : PySem.W.nsIn K mainGlobals "_law_bounds" = some (some (.ref f13))) (l13 : K.lookup f13 = some ⟨oc13, od13, .func (PySem.W.fnOf "_law_bounds" "_law_bounds" (defArgs (topS 16)) (defBody (topS 16)) (defScope (topS 16)) .none kV13 dc13 pm13 an13 cd13 ct13), sl13⟩) (c13 : PySem.W.codeIn K cd13 "_law_bounds" = true) (k13 : PySem.W.keepIn K (.ref f13) = true)
    (a14 : PySem.W.nsIn K mainGlobals "_law_lengths" = some (some (.ref f14))) (l14 : K.lookup f14 = some ⟨oc14, od14, .func (PySem.W.fnOf "_law_lengths" "_law_lengths" (defArgs (topS 17)) (defBody (topS 17)) (defScope (topS 17)) .none kV14 dc14 pm14 an14 cd14 ct14), sl14⟩) (c14 : PySem.W.codeIn K cd14 "_law_lengths" = true) (k14 : PySem.W.keepIn K (.ref f14) = true)
    (a15 : PySem.W.nsIn K mainGlobals "_law_kinds" = some (some (.ref f15))) (l15 : K.lookup f15 = some ⟨oc15, od15, .func (PySem.W.fnOf "_law_kinds" "_law_kinds" (defArgs (topS 18)) (defBody (topS 18)) (defScope (topS 18)) .none kV15 dc15 pm15 an15 cd15 ct15), sl15⟩) (c15 : PySem.W.codeIn K cd15 "_law_kinds" = true) (k15 : PySem.W.keepIn K (.ref f15) = true)
    (a16 : PySem.W.nsIn K mainGlobals "_law_noted" = some (some (.ref f16))) (l16 : K.lookup f16 = some ⟨oc16, od16, .func (PySem.W.fnOf "_law_noted" "_law_noted" (defArgs (topS 19)) (defBody (topS 19)) (defScope (topS 19)) .none kV16 dc16 pm16 an16 cd16 ct16), sl16⟩) (c16 : PySem.W.codeIn K cd16 "_law_noted" = true) (k16 : PySem.W.keepIn K (.ref f16) = true)
    (a17 : PySem.W.nsIn K mainGlobals "law" = some (some (.ref f17))) (l17 : K.lookup f17 = some ⟨oc17, od17, .func (PySem.W.fnOf "law" "law" (defArgs (topS 20)) (defBody (topS 20)) (defScope (topS 20)) .none kV17 dc17 pm17 an17 cd17 ct17), sl17⟩) (c17 : PySem.W.codeIn K cd17 "law" = true) (k17 : PySem.W.keepIn K (.ref f17) = true)
    (z0 : PySem.W.nsIn K mainGlobals "zip" = some none) (z1 : PySem.W.nsIn K mainGlobals "all" = some none) (z2 : PySem.W.nsIn K mainGlobals "enumerate" = some none) (z3 : PySem.W.nsIn K mainGlobals "len" = some none) (z4 : PySem.W.nsIn K mainGlobals "range" = some none) (z5 : PySem.W.nsIn K mainGlobals "sorted" = some none) (z6 : PySem.W.nsIn K mainGlobals "tuple" = some none) (z7 : PySem.W.nsIn K mainGlobals "max" = some none) (z8 : PySem.W.nsIn K mainGlobals "list" = some none) :
    ∃ fd : FuncData, (∀ (s : Shared) (v : Value), BindsTo s fd ⟨[v], []⟩ [("script", v)]) ∧ ∀ base : Heap, K.In base → base.Ns mainGlobals mg → FnOk l.prog w K mg base (L2.CX l.prog w) 9 fa fd ["script"] (spD (parOf K) S_law) := by
  have e := hfa.symm.trans (PySem.W.mg_of X G a17)
  cases e
  have F0 := fun_mk (st := topS 1) l0 c0 k0
  have F1 := fun_mk (st := topS 2) l1 c1 k1
  have F2 := fun_mk (st := topS 3) l2 c2 k2
  have F3 := fun_mk (st := topS 4) l3 c3 k3
  have F4 := fun_mk (st := topS 6) l4 c4 k4
  have F5 := fun_mk (st := topS 7) l5 c5 k5
  have F6 := fun_mk (st := topS 8) l6 c6 k6
  have F7 := fun_mk (st := topS 9) l7 c7 k7
  have F8 := fun_mk (st := topS 10) l8 c8 k8
  have F9 := fun_mk (st := topS 11) l9 c9 k9
  have F10 := fun_mk (st := topS 12) l10 c10 k10
  have F11 := fun_mk (st := topS 14) l11 c11 k11
  have F12 := fun_mk (st := topS 15) l12 c12 k12
  have F13 := fun_mk (st := topS 16) l13 c13 k13
  have F14 := fun_mk (st := topS 17) l14 c14 k14
  have F15 := fun_mk (st := topS 18) l15 c15 k15
  have F16 := fun_mk (st := topS 19) l16 c16 k16
  have F17 := fun_mk (st := topS 20) l17 c17 k17
  refine ⟨PySem.W.fnOf "law" "law" (defArgs (topS 20)) (defBody (topS 20)) (defScope (topS 20)) .none kV17 dc17 pm17 an17 cd17 ct17, fun s v => .of_eq rfl, fun base _ _ => ?_⟩
  have m_zip := PySem.W.mg_none_of X G z0
  have m_all := PySem.W.mg_none_of X G z1
  have m_enumerate := PySem.W.mg_none_of X G z2
  have m_len := PySem.W.mg_none_of X G z3
  have m_range := PySem.W.mg_none_of X G z4
  have m_sorted := PySem.W.mg_none_of X G z5
  have m_tuple := PySem.W.mg_none_of X G z6
  have m_max := PySem.W.mg_none_of X G z7
  have m_list := PySem.W.mg_none_of X G z8
  have o__law_cell : FnOk l.prog w (parOf K).K mg base (L2.CX l.prog w) 1 f11 _ ["script", "index"] (spD (parOf K) S__law_cell) := ok__law_cell (p := parOf K) F11 m_len
  have c__law_cell : Callee l.prog w (parOf K) mg base "_law_cell" 1 S__law_cell := ⟨_, _, _, o__law_cell, PySem.W.mg_of X G a11, k11, F11.binds (ps := ["script", "index"]) fun _ _ _ _ _ _ us hl => match us, hl with | [_, _], _ => rfl⟩
  have o__law_digits : FnOk l.prog w (parOf K).K mg base (L2.CX l.prog w) 2 f12 _ ["script", "index", "count", "base"] (spD (parOf K) S__law_digits) := ok__law_digits (p := parOf K) F12 m_range c__law_cell
  have c__law_digits : Callee l.prog w (parOf K) mg base "_law_digits" 2 S__law_digits := ⟨_, _, _, o__law_digits, PySem.W.mg_of X G a12, k12, F12.binds (ps := ["script", "index", "count", "base"]) fun _ _ _ _ _ _ us hl => match us, hl with | [_, _, _, _], _ => rfl⟩
  have o__law_bounds : FnOk l.prog w (parOf K).K mg base (L2.CX l.prog w) 1 f13 _ ["digits"] (spD (parOf K) S__law_bounds) := ok__law_bounds (p := parOf K) F13 
  have c__law_bounds : Callee l.prog w (parOf K) mg base "_law_bounds" 1 S__law_bounds := ⟨_, _, _, o__law_bounds, PySem.W.mg_of X G a13, k13, F13.binds (ps := ["digits"]) fun _ _ _ _ _ _ us hl => match us, hl with | [_], _ => rfl⟩
  have o__law_noted : FnOk l.prog w (parOf K).K mg base (L2.CX l.prog w) 1 f16 _ ["lengths", "kinds"] (spD (parOf K) S__law_noted) := ok__law_noted (p := parOf K) F16 m_zip m_tuple
  have c__law_noted : Callee l.prog w (parOf K) mg base "_law_noted" 1 S__law_noted := ⟨_, _, _, o__law_noted, PySem.W.mg_of X G a16, k16, F16.binds (ps := ["lengths", "kinds"]) fun _ _ _ _ _ _ us hl => match us, hl with | [_, _], _ => rfl⟩
  have o__law_kinds : FnOk l.prog w (parOf K).K mg base (L2.CX l.prog w) 1 f15 _ ["digits", "many"] (spD (parOf K) S__law_kinds) := ok__law_kinds (p := parOf K) F15 m_range m_len
  have c__law_kinds : Callee l.prog w (parOf K) mg base "_law_kinds" 1 S__law_kinds := ⟨_, _, _, o__law_kinds, PySem.W.mg_of X G a15, k15, F15.binds (ps := ["digits", "many"]) fun _ _ _ _ _ _ us hl => match us, hl with | [_, _], _ => rfl⟩
  have o__law_lengths : FnOk l.prog w (parOf K).K mg base (L2.CX l.prog w) 1 f14 _ ["digits", "bounds", "many"] (spD (parOf K) S__law_lengths) := ok__law_lengths (p := parOf K) F14 m_range m_len m_tuple
  have c__law_lengths : Callee l.prog w (parOf K) mg base "_law_lengths" 1 S__law_lengths := ⟨_, _, _, o__law_lengths, PySem.W.mg_of X G a14, k14, F14.binds (ps := ["digits", "bounds", "many"]) fun _ _ _ _ _ _ us hl => match us, hl with | [_, _, _], _ => rfl⟩
  have o_steps : FnOk l.prog w (parOf K).K mg base (L2.CX l.prog w) 1 f3 _ ["bounds", "time", "number", "is_first"] (spD (parOf K) S_steps) := ok_steps (p := parOf K) F3 
  have c_steps : Callee l.prog w (parOf K) mg base "steps" 1 S_steps := ⟨_, _, _, o_steps, PySem.W.mg_of X G a3, k3, F3.binds (ps := ["bounds", "time", "number", "is_first"]) fun _ _ _ _ _ _ us hl => match us, hl with | [_, _, _, _], _ => rfl⟩
  have o_forward : FnOk l.prog w (parOf K).K mg base (L2.CX l.prog w) 2 f4 _ ["bounds", "notes"] (spD (parOf K) S_forward) := ok_forward (p := parOf K) F4 m_enumerate c_steps
  have c_forward : Callee l.prog w (parOf K) mg base "forward" 2 S_forward := ⟨_, _, _, o_forward, PySem.W.mg_of X G a4, k4, F4.binds (ps := ["bounds", "notes"]) fun _ _ _ _ _ _ us hl => match us, hl with | [_, _], _ => rfl⟩
  have o_backward : FnOk l.prog w (parOf K).K mg base (L2.CX l.prog w) 3 f5 _ ["bounds", "notes"] (spD (parOf K) S_backward) := ok_backward (p := parOf K) F5 m_len m_range c_forward c_steps
  have c_backward : Callee l.prog w (parOf K) mg base "backward" 3 S_backward := ⟨_, _, _, o_backward, PySem.W.mg_of X G a5, k5, F5.binds (ps := ["bounds", "notes"]) fun _ _ _ _ _ _ us hl => match us, hl with | [_, _], _ => rfl⟩
  have o_count_readings : FnOk l.prog w (parOf K).K mg base (L2.CX l.prog w) 4 f6 _ ["bounds", "notes"] (spD (parOf K) S_count_readings) := ok_count_readings (p := parOf K) F6 c_backward
  have c_count_readings : Callee l.prog w (parOf K) mg base "count_readings" 4 S_count_readings := ⟨_, _, _, o_count_readings, PySem.W.mg_of X G a6, k6, F6.binds (ps := ["bounds", "notes"]) fun _ _ _ _ _ _ us hl => match us, hl with | [_, _], _ => rfl⟩
  have o_reading_at : FnOk l.prog w (parOf K).K mg base (L2.CX l.prog w) 4 f7 _ ["bounds", "notes", "number"] (spD (parOf K) S_reading_at) := ok_reading_at (p := parOf K) F7 m_enumerate m_len c_backward c_steps
  have c_reading_at : Callee l.prog w (parOf K) mg base "reading_at" 4 S_reading_at := ⟨_, _, _, o_reading_at, PySem.W.mg_of X G a7, k7, F7.binds (ps := ["bounds", "notes", "number"]) fun _ _ _ _ _ _ us hl => match us, hl with | [_, _, _], _ => rfl⟩
  have o_times : FnOk l.prog w (parOf K).K mg base (L2.CX l.prog w) 1 f0 _ ["notes", "kinds"] (spD (parOf K) S_times) := ok_times (p := parOf K) F0 m_zip
  have c_times : Callee l.prog w (parOf K) mg base "times" 1 S_times := ⟨_, _, _, o_times, PySem.W.mg_of X G a0, k0, F0.binds (ps := ["notes", "kinds"]) fun _ _ _ _ _ _ us hl => match us, hl with | [_, _], _ => rfl⟩
  have o_laps : FnOk l.prog w (parOf K).K mg base (L2.CX l.prog w) 2 f1 _ ["notes", "kinds"] (spD (parOf K) S_laps) := ok_laps (p := parOf K) F1 m_zip c_times
  have c_laps : Callee l.prog w (parOf K) mg base "laps" 2 S_laps := ⟨_, _, _, o_laps, PySem.W.mg_of X G a1, k1, F1.binds (ps := ["notes", "kinds"]) fun _ _ _ _ _ _ us hl => match us, hl with | [_, _], _ => rfl⟩
  have o_fits : FnOk l.prog w (parOf K).K mg base (L2.CX l.prog w) 3 f2 _ ["bounds", "notes", "kinds"] (spD (parOf K) S_fits) := ok_fits (p := parOf K) F2 m_all c_laps
  have c_fits : Callee l.prog w (parOf K) mg base "fits" 3 S_fits := ⟨_, _, _, o_fits, PySem.W.mg_of X G a2, k2, F2.binds (ps := ["bounds", "notes", "kinds"]) fun _ _ _ _ _ _ us hl => match us, hl with | [_, _, _], _ => rfl⟩
  have o_possible_times : FnOk l.prog w (parOf K).K mg base (L2.CX l.prog w) 4 f9 _ ["bounds", "notes", "index"] (spD (parOf K) S_possible_times) := ok_possible_times (p := parOf K) F9 m_sorted c_backward
  have c_possible_times : Callee l.prog w (parOf K) mg base "possible_times" 4 S_possible_times := ⟨_, _, _, o_possible_times, PySem.W.mg_of X G a9, k9, F9.binds (ps := ["bounds", "notes", "index"]) fun _ _ _ _ _ _ us hl => match us, hl with | [_, _, _], _ => rfl⟩
  have o_sure_kinds : FnOk l.prog w (parOf K).K mg base (L2.CX l.prog w) 4 f10 _ ["bounds", "notes"] (spD (parOf K) S_sure_kinds) := ok_sure_kinds (p := parOf K) F10 m_enumerate c_backward c_steps
  have c_sure_kinds : Callee l.prog w (parOf K) mg base "sure_kinds" 4 S_sure_kinds := ⟨_, _, _, o_sure_kinds, PySem.W.mg_of X G a10, k10, F10.binds (ps := ["bounds", "notes"]) fun _ _ _ _ _ _ us hl => match us, hl with | [_, _], _ => rfl⟩
  have o_readings : GFn l.prog w (parOf K).K mg base 5 f8 _ ["bounds", "notes"] (spG (parOf K) S_readings) := ok_readings (p := parOf K) F8 m_range c_count_readings c_reading_at
  have c_readings : CalleeG l.prog w (parOf K) mg base "readings" 5 S_readings := ⟨_, _, _, o_readings, PySem.W.mg_of X G a8, k8, F8.binds (ps := ["bounds", "notes"]) fun _ _ _ _ _ _ us hl => match us, hl with | [_, _], _ => rfl⟩
  have o_law : FnOk l.prog w (parOf K).K mg base (L2.CX l.prog w) 9 fa _ ["script"] (spD (parOf K) S_law) := ok_law (p := parOf K) F17 m_range m_max m_zip m_list m_tuple c__law_digits c__law_bounds c__law_noted c__law_kinds c__law_lengths c_count_readings c_reading_at c_fits c_possible_times c_sure_kinds c_readings
  exact o_law
end PL
open PySem PySem.W PyProof.Rows
set_option maxHeartbeats 0 in
theorem PySem.Challenge.cw_lapsplits_k12_whole_wider_bounds_and_sho_holds : PySem.Challenge.rw_lapsplits_k12_whole_wider_bounds_and_sho.Holds := by
  w_on; o_law; k_head; (case hw => w_witness2)
  k_fill
  refine L2.walk_of (l := PySem.Challenge.rw_lapsplits_k12_whole_wider_bounds_and_sho) (n := 63) (k := 9) (x := "script") (CX := fun w => L2.CX PySem.Challenge.rw_lapsplits_k12_whole_wider_bounds_and_sho.prog w) (sp := fun w => PL.spD (PL.parOf _) PL.S_law) rfl (by decide) rfl ⟨rfl, by decide, by decide⟩ (fun w h Y => PySem.W.kIn_of Y) ?F (fun w H a ns hl _ hS => PL.law_sp hS (PL.law_true ns hl)) (fun _ _ _ _ _ h => PL.cx_no h)
  case F =>
    intro w mg fa h KX G hmg
    refine' PL.all_mk KX G hmg ?a0 ?l0 ?c0 ?k0 ?a1 ?l1 ?c1 ?k1 ?a2 ?l2 ?c2 ?k2 ?a3 ?l3 ?c3 ?k3 ?a4 ?l4 ?c4 ?k4 ?a5 ?l5 ?c5 ?k5 ?a6 ?l6 ?c6 ?k6 ?a7 ?l7 ?c7 ?k7 ?a8 ?l8 ?c8 ?k8 ?a9 ?l9 ?c9 ?k9 ?a10 ?l10 ?c10 ?k10 ?a11 ?l11 ?c11 ?k11 ?a12 ?l12 ?c12 ?k12 ?a13 ?l13 ?c13 ?k13 ?a14 ?l14 ?c14 ?k14 ?a15 ?l15 ?c15 ?k15 ?a16 ?l16 ?c16 ?k16 ?a17 ?l17 ?c17 ?k17 ?z0 ?z1 ?z2 ?z3 ?z4 ?z5 ?z6 ?z7 ?z8
    (case a0 => k_is); (case l0 => k_is); (case c0 => k_is); (case k0 => k_is); (case a1 => k_is); (case l1 => k_is); (case c1 => k_is); (case k1 => k_is); (case a2 => k_is); (case l2 => k_is); (case c2 => k_is); (case k2 => k_is); (case a3 => k_is); (case l3 => k_is); (case c3 => k_is); (case k3 => k_is); (case a4 => k_is); (case l4 => k_is); (case c4 => k_is); (case k4 => k_is); (case a5 => k_is); (case l5 => k_is); (case c5 => k_is); (case k5 => k_is); (case a6 => k_is); (case l6 => k_is); (case c6 => k_is); (case k6 => k_is); (case a7 => k_is); (case l7 => k_is); (case c7 => k_is); (case k7 => k_is); (case a8 => k_is); (case l8 => k_is); (case c8 => k_is); (case k8 => k_is); (case a9 => k_is); (case l9 => k_is); (case c9 => k_is); (case k9 => k_is); (case a10 => k_is); (case l10 => k_is); (case c10 => k_is); (case k10 => k_is); (case a11 => k_is); (case l11 => k_is); (case c11 => k_is); (case k11 => k_is); (case a12 => k_is); (case l12 => k_is); (case c12 => k_is); (case k12 => k_is); (case a13 => k_is); (case l13 => k_is); (case c13 => k_is); (case k13 => k_is); (case a14 => k_is); (case l14 => k_is); (case c14 => k_is); (case k14 => k_is); (case a15 => k_is); (case l15 => k_is); (case c15 => k_is); (case k15 => k_is); (case a16 => k_is); (case l16 => k_is); (case c16 => k_is); (case k16 => k_is); (case a17 => k_is); (case l17 => k_is); (case c17 => k_is); (case k17 => k_is); (case z0 => k_is); (case z1 => k_is); (case z2 => k_is); (case z3 => k_is); (case z4 => k_is); (case z5 => k_is); (case z6 => k_is); (case z7 => k_is); (case z8 => k_is)
