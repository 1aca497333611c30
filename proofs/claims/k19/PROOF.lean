import PyProof.Rows.All
import Wide.All
import OpenK.AllK
import Wide.FinOn
import HandS.ForMost
import HandS.Exc
import HandS.ExcOwn
import HandS.TryOnly
import HandS.WordsExc
import HandS.Flow
import HandS.IsInst
import HandS.TupAny
import HandS.StrMore
import HandS.Codes
import HandS.ExcIs
import HandS.TupMul
import HandS.WordsDict
import HandS.TryMany
import HandS.RaiseMore
import HandS.More
import PyProof.Rows.StrMeet
import KE.GoesEnum
import HandS.SetKeys
import HandS.Deep
import PySem.Challenge.RW_askwire_k19_whole_near_as_far
set_option Elab.async false
set_option linter.all false
set_option maxRecDepth 100000
set_option maxHeartbeats 4000000
namespace Q2
open PySem PySem.Spec L2 SX
inductive D where
  | non | bl (b : Bool) | int (i : Int) | str (s : List Nat) | tup (ds : List D) | ref (a : Addr)
mutual
inductive Im (K : PySem.W.Frag) (H : Hp) : V → D → Prop
  | non : Im K H .non .non
  | bl (b : Bool) : Im K H (.bl b) (.bl b)
  | int (i : Int) : Im K H (.int i) (.int i)
  | str (s : List Nat) (h : s.length ≤ sizeLine) : Im K H (.str (S s)) (.str s)
  | tup {a : Addr} {xs : List V} {ds : List D} (h : SqT K H a xs) (r : Ims K H xs ds) : Im K H (.ref a) (.tup ds)
  | ref (a : Addr) : Im K H (.ref a) (.ref a)
inductive Ims (K : PySem.W.Frag) (H : Hp) : List V → List D → Prop
  | nil : Ims K H [] []
  | cons {v : V} {vs : List V} {d : D} {ds : List D} (h : Im K H v d) (r : Ims K H vs ds) : Ims K H (v :: vs) (d :: ds)
end
def TK (K : PySem.W.Frag) (H H' : Hp) : Prop := ∀ a xs, SqT K H a xs → SqT K H' a xs
theorem TK.refl {K : PySem.W.Frag} (H : Hp) : TK K H H := fun _ _ h => h
theorem TK.trans {K : PySem.W.Frag} {H H1 H2 : Hp} (a : TK K H H1) (b : TK K H1 H2) : TK K H H2 := fun x xs h => b x xs (a x xs h)
mutual
theorem Im.mono {K : PySem.W.Frag} {H H' : Hp} (t : TK K H H') : ∀ (d : D) (v : V), Im K H v d → Im K H' v d
  | .non, _, .non => .non
  | .bl _, _, .bl b => .bl b
  | .int _, _, .int b => .int b
  | .str _, _, .str b h => .str b h
  | .ref _, _, .ref b => .ref b
  | .tup ds, _, .tup h r => .tup (t _ _ h) (Ims.mono t ds _ r)
theorem Ims.mono {K : PySem.W.Frag} {H H' : Hp} (t : TK K H H') : ∀ (ds : List D) (vs : List V), Ims K H vs ds → Ims K H' vs ds
  | [], _, .nil => .nil
  | d :: ds, _, .cons h r => .cons (Im.mono t d _ h) (Ims.mono t ds _ r)
end
theorem Ims.length {K : PySem.W.Frag} {H : Hp} : ∀ {vs : List V} {ds : List D}, Ims K H vs ds → vs.length = ds.length
  | _, _, .nil => rfl
  | _, _, .cons _ r => by rw [List.length_cons, List.length_cons, Ims.length r]
theorem Ims.get {K : PySem.W.Frag} {H : Hp} : ∀ {vs : List V} {ds : List D} {i : Nat} {d : D}, Ims K H vs ds → ds[i]? = some d → ∃ v, vs[i]? = some v ∧ Im K H v d
  | _, _, _, _, .nil, e => by simp at e
  | _, _, 0, _, .cons h _, e => by simp at e; subst e; exact ⟨_, rfl, h⟩
  | _, _, i + 1, _, .cons _ r, e => by
    obtain ⟨v, h1, h2⟩ := Ims.get (i := i) r (by simpa using e)
    exact ⟨v, by simpa using h1, h2⟩
theorem Ims.get' {K : PySem.W.Frag} {H : Hp} : ∀ {vs : List V} {ds : List D} {i : Nat} {v : V}, Ims K H vs ds → vs[i]? = some v → ∃ d, ds[i]? = some d ∧ Im K H v d
  | _, _, _, _, .nil, e => by simp at e
  | _, _, 0, _, .cons h _, e => by simp at e; subst e; exact ⟨_, rfl, h⟩
  | _, _, i + 1, _, .cons _ r, e => by
    obtain ⟨v, h1, h2⟩ := Ims.get' (i := i) r (by simpa using e)
    exact ⟨v, by simpa using h1, h2⟩
theorem Ims.append {K : PySem.W.Frag} {H : Hp} : ∀ {vs ws : List V} {ds es : List D}, Ims K H vs ds → Ims K H ws es → Ims K H (vs ++ ws) (ds ++ es)
  | _, _, _, _, .nil, s => s
  | _, _, _, _, .cons h r, s => .cons h (Ims.append r s)
theorem Ims.drop {K : PySem.W.Frag} {H : Hp} : ∀ {vs : List V} {ds : List D} (n : Nat), Ims K H vs ds → Ims K H (vs.drop n) (ds.drop n)
  | _, _, 0, r => r
  | _, _, _ + 1, .nil => .nil
  | _, _, n + 1, .cons _ r => Ims.drop n r
theorem Ims.take {K : PySem.W.Frag} {H : Hp} : ∀ {vs : List V} {ds : List D} (n : Nat), Ims K H vs ds → Ims K H (vs.take n) (ds.take n)
  | _, _, 0, _ => .nil
  | _, _, _ + 1, .nil => .nil
  | _, _, n + 1, .cons h r => .cons h (Ims.take n r)
theorem Ims.set {K : PySem.W.Frag} {H : Hp} {v : V} {d : D} (h : Im K H v d) : ∀ {vs : List V} {ds : List D} (n : Nat), Ims K H vs ds → Ims K H (vs.set n v) (ds.set n d)
  | _, _, _, .nil => .nil
  | _, _, 0, .cons _ r => .cons h r
  | _, _, n + 1, .cons g r => .cons g (Ims.set h n r)
theorem Ims.strs {K : PySem.W.Frag} {H : Hp} : ∀ {vs : List V} {ys : List (List Nat)}, Ims K H vs (ys.map D.str) → vs = (ys.map S).map V.str
  | _, [], .nil => rfl
  | _, _ :: _, .cons (.str _ _) r => by rw [List.map_cons, List.map_cons, Ims.strs r]
theorem Ims.ints {K : PySem.W.Frag} {H : Hp} : ∀ {vs : List V} {ys : List Int}, Ims K H vs (ys.map D.int) → vs = ys.map V.int
  | _, [], .nil => rfl
  | _, _ :: _, .cons (.int _) r => by rw [List.map_cons, Ims.ints r]
theorem Ims.of_ints {K : PySem.W.Frag} {H : Hp} : ∀ (ys : List Int), Ims K H (ys.map V.int) (ys.map D.int)
  | [] => .nil
  | i :: r => .cons (.int i) (Ims.of_ints r)
inductive MO where
  | lst (ds : List D) | rol (ds : List D) | dct (kvs : List (Key × D)) | ins (C dx : Addr) (fs : List (Str × D)) | xd (fs : List (Str × D))
abbrev Om := Addr → Option MO
def put (ω : Om) (a : Addr) (m : MO) : Om := fun b => if b = a then some m else ω b
theorem put_same {ω : Om} {a : Addr} {m : MO} : put ω a m a = some m := by unfold put; rw [if_pos rfl]
theorem put_ne {ω : Om} {a b : Addr} {m : MO} (h : b ≠ a) : put ω a m b = ω b := by unfold put; rw [if_neg h]
theorem put_put {ω : Om} {a : Addr} {m n : MO} : put (put ω a m) a n = put ω a n := by
  funext b; unfold put; split <;> rfl
abbrev Rho := List (Option D)
def KD {κ : Type} (K : PySem.W.Frag) (H : Hp) : List (κ × V) → List (κ × D) → Prop := Paired fun (p : κ × V) (q : κ × D) => p.1 = q.1 ∧ Im K H p.2 q.2
theorem KD.mono {κ : Type} {K : PySem.W.Frag} {H H' : Hp} (t : TK K H H') {ks : List (κ × V)} {kd : List (κ × D)} (r : KD K H ks kd) : KD K H' ks kd := Paired.mapP r fun _ _ z => ⟨z.1, z.2.mono t⟩
theorem KD.length {κ : Type} {K : PySem.W.Frag} {H : Hp} {ks : List (κ × V)} {kd : List (κ × D)} (r : KD K H ks kd) : ks.length = kd.length := Paired.length r
def MoR (K : PySem.W.Frag) (H : Hp) (a : Addr) : MO → Prop
  | .lst ds => ∃ xs, H a = some (.lst xs) ∧ Ims K H xs ds
  | .rol ds => ∃ xs, Rd H a (.lst xs) ∧ Ims K H xs ds
  | .dct kvs => ∃ ks, H a = some (.dK ks) ∧ KD K H ks kvs
  | .ins C dx fs => ∃ gs, H a = some (.ins C dx gs) ∧ KD K H gs fs
  | .xd fs => ∃ gs, H a = some (.xd gs) ∧ KD K H gs fs
def HRel (K : PySem.W.Frag) (H : Hp) (ω : Om) : Prop := ∀ a m, ω a = some m → MoR K H a m
def Ext (ω ω' : Om) : Prop := ∀ a m, ω a = some m → ω' a = some m
theorem Ext.refl (ω : Om) : Ext ω ω := fun _ _ h => h
theorem Ext.trans {ω ω1 ω2 : Om} (a : Ext ω ω1) (b : Ext ω1 ω2) : Ext ω ω2 := fun x m h => b x m (a x m h)
theorem Ext.new {ω : Om} {p : Addr} {m : MO} (h : ω p = none) : Ext ω (put ω p m) := fun a u e => by
  rw [put_ne (fun z => by subst z; rw [h] at e; cases e)]; exact e
theorem Ext.mut {ω ω' : Om} {p : Addr} {m : MO} (e : Ext ω ω') (h : ω p = none) : Ext ω (put ω' p m) := fun a u ha => by
  rw [put_ne (fun z => by subst z; rw [h] at ha; cases ha)]; exact e a u ha
theorem HRel.less {K : PySem.W.Frag} {H : Hp} {ω ω' : Om} (e : Ext ω ω') (h : HRel K H ω') : HRel K H ω := fun a m q => h a m (e a m q)
theorem tk_same {K : PySem.W.Frag} {H H' : Hp} (e : Same H H') : TK K H H' := fun a xs h => by
  rcases h with (h | ⟨o, h⟩) | h
  · exact .inl (.inl (e _ _ h))
  · exact .inl (.inr ⟨o, e _ _ h⟩)
  · exact .inr h
theorem same_new {H : Hp} {p : Addr} {o : HO} (h : H p = none) : Same H (upd H p o) := fun a u e => by
  rw [upd_ne (ne_of_none e h)]; exact e
theorem MoR.same {K : PySem.W.Frag} {H H' : Hp} (e : Same H H') {a : Addr} : ∀ {m : MO}, MoR K H a m → MoR K H' a m
  | .lst _, ⟨xs, h, r⟩ => ⟨xs, e _ _ h, r.mono (tk_same e)⟩
  | .rol _, ⟨xs, h, r⟩ => ⟨xs, (by
      rcases h with h | ⟨u, h⟩
      · exact .inl (e _ _ h)
      · exact .inr ⟨u, e _ _ h⟩), r.mono (tk_same e)⟩
  | .dct _, ⟨xs, h, r⟩ => ⟨xs, e _ _ h, r.mono (tk_same e)⟩
  | .ins _ _ _, ⟨xs, h, r⟩ => ⟨xs, e _ _ h, r.mono (tk_same e)⟩
  | .xd _, ⟨xs, h, r⟩ => ⟨xs, e _ _ h, r.mono (tk_same e)⟩
theorem HRel.same {K : PySem.W.Frag} {H H' : Hp} {ω : Om} (e : Same H H') (h : HRel K H ω) : HRel K H' ω := fun a m q => (h a m q).same e
def NoTup : HO → Prop
  | .lst _ => True | .dK _ => True | .ins _ _ _ => True | .xd _ => True | _ => False
theorem tk_upd {K : PySem.W.Frag} {H : Hp} {p : Addr} {o o' : HO} (h : H p = some o) (n : NoTup o) : TK K H (upd H p o') := fun a xs q => by
  rcases q with (q | ⟨u, q⟩) | q
  · by_cases e : a = p
    · subst e; rw [h] at q; cases q; exact n.elim
    · exact .inl (.inl (by rw [upd_ne e]; exact q))
  · by_cases e : a = p
    · subst e; rw [h] at q; cases q; exact n.elim
    · exact .inl (.inr ⟨u, by rw [upd_ne e]; exact q⟩)
  · exact .inr q
theorem MoR.upd_ne {K : PySem.W.Frag} {H : Hp} {p : Addr} {o o' : HO} (h : H p = some o) (n : NoTup o) {a : Addr} (ha : a ≠ p) : ∀ {m : MO}, MoR K H a m → MoR K (upd H p o') a m
  | .lst _, ⟨xs, q, r⟩ => ⟨xs, by rw [L2.upd_ne ha]; exact q, r.mono (tk_upd h n)⟩
  | .rol _, ⟨xs, q, r⟩ => ⟨xs, (by
      rcases q with q | ⟨u, q⟩
      · exact .inl (by rw [L2.upd_ne ha]; exact q)
      · exact .inr ⟨u, by rw [L2.upd_ne ha]; exact q⟩), r.mono (tk_upd h n)⟩
  | .dct _, ⟨xs, q, r⟩ => ⟨xs, by rw [L2.upd_ne ha]; exact q, r.mono (tk_upd h n)⟩
  | .ins _ _ _, ⟨xs, q, r⟩ => ⟨xs, by rw [L2.upd_ne ha]; exact q, r.mono (tk_upd h n)⟩
  | .xd _, ⟨xs, q, r⟩ => ⟨xs, by rw [L2.upd_ne ha]; exact q, r.mono (tk_upd h n)⟩
theorem HRel.put {K : PySem.W.Frag} {H : Hp} {ω : Om} {p : Addr} {o o' : HO} {m : MO} (r : HRel K H ω) (h : H p = some o) (n : NoTup o) (q : MoR K (upd H p o') p m) : HRel K (upd H p o') (put ω p m) := fun a u e => by
  by_cases ha : a = p
  · subst ha
    rw [put_same] at e
    cases e; exact q
  · rw [put_ne ha] at e
    exact (r a u e).upd_ne h n ha
theorem HRel.new {K : PySem.W.Frag} {H : Hp} {ω : Om} {p : Addr} {o' : HO} {m : MO} (r : HRel K H ω) (h : H p = none) (q : MoR K (upd H p o') p m) : HRel K (upd H p o') (Q2.put ω p m) := fun a u e => by
  by_cases ha : a = p
  · subst ha
    rw [put_same] at e
    cases e; exact q
  · rw [put_ne ha] at e
    exact (r a u e).same (same_new h)
theorem HRel.free {K : PySem.W.Frag} {H : Hp} {ω : Om} {p : Addr} (r : HRel K H ω) (h : H p = none) : ω p = none := by
  cases e : ω p with
  | none => rfl
  | some m =>
    have q := r p m e
    cases m with
    | lst ds => obtain ⟨xs, z, _⟩ := q; rw [h] at z; cases z
    | rol ds =>
      obtain ⟨xs, z | ⟨u, z⟩, _⟩ := q
      · rw [h] at z; cases z
      · rw [h] at z; cases z
    | dct ds => obtain ⟨xs, z, _⟩ := q; rw [h] at z; cases z
    | ins C dx fs => obtain ⟨xs, z, _⟩ := q; rw [h] at z; cases z
    | xd fs => obtain ⟨xs, z, _⟩ := q; rw [h] at z; cases z
end Q2
namespace Q2
open PySem PySem.Spec L2 SX
structure Rel (K : PySem.W.Frag) (H0 : Hp) (σ : St) (H : Hp) (ρ : Rho) (ω : Om) : Prop where
  tk : TK K H0 H
  len : σ.length = ρ.length
  sl : ∀ (i : Nat) (d : D), ρ[i]? = some (some d) → ∃ v, σ[i]? = some (some v) ∧ Im K H v d
  hr : HRel K H ω
section
variable {K : PySem.W.Frag} {H0 H H' : Hp} {σ : St} {ρ : Rho} {ω ω' : Om}
theorem Rel.move (R : Rel K H0 σ H ρ ω) (t : TK K H H') (h : HRel K H' ω') : Rel K H0 σ H' ρ ω' :=
  ⟨R.tk.trans t, R.len, fun i d e => let ⟨v, a, b⟩ := R.sl i d e; ⟨v, a, b.mono t⟩, h⟩
theorem Rel.same (R : Rel K H0 σ H ρ ω) (e : Same H H') : Rel K H0 σ H' ρ ω := R.move (tk_same e) (R.hr.same e)
theorem Rel.less (R : Rel K H0 σ H ρ ω) (e : Ext ω' ω) : Rel K H0 σ H ρ ω' := ⟨R.tk, R.len, R.sl, R.hr.less e⟩
theorem Rel.set (R : Rel K H0 σ H ρ ω) {i : Nat} {v : V} {d : D} (h : Im K H v d) : Rel K H0 (σ.set i (some v)) H (ρ.set i (some d)) ω := by
  refine ⟨R.tk, by rw [List.length_set, List.length_set]; exact R.len, fun j e q => ?_, R.hr⟩
  by_cases hj : i = j
  · subst hj
    by_cases hl : i < ρ.length
    · rw [List.getElem?_set_self hl] at q
      cases q
      exact ⟨v, List.getElem?_set_self (by rw [R.len]; exact hl), h⟩
    · rw [List.getElem?_eq_none (by rw [List.length_set]; omega)] at q; cases q
  · rw [List.getElem?_set_ne hj] at q
    obtain ⟨u, a, b⟩ := R.sl j e q
    exact ⟨u, by rw [List.getElem?_set_ne hj]; exact a, b⟩
theorem Rel.gone (R : Rel K H0 σ H ρ ω) {i : Nat} : Rel K H0 (σ.set i none) H (ρ.set i none) ω := by
  refine ⟨R.tk, by rw [List.length_set, List.length_set]; exact R.len, fun j e q => ?_, R.hr⟩
  by_cases hj : i = j
  · subst hj
    by_cases hl : i < ρ.length
    · rw [List.getElem?_set_self hl] at q; cases q
    · rw [List.getElem?_eq_none (by rw [List.length_set]; omega)] at q; cases q
  · rw [List.getElem?_set_ne hj] at q
    obtain ⟨u, a, b⟩ := R.sl j e q
    exact ⟨u, by rw [List.getElem?_set_ne hj]; exact a, b⟩
end
structure WE (X : Cx) (e : Expr)  (σ : St) (H : Hp) (Q : VK) : Prop where
  go : ∀ (pins : List (Addr × Obj)) (s : Shared), Inv X pins σ H s → wpAny (model X.prog X.w) X.A (eval e X.env) (EP X pins σ Q) X.xe s
instance (X : Cx) (e : Expr)  (σ : St) (H : Hp) (Q : VK) : CoeFun (WE X e σ H Q) fun _ => ∀ (pins : List (Addr × Obj)) (s : Shared), Inv X pins σ H s → wpAny (model X.prog X.w) X.A (eval e X.env) (EP X pins σ Q) X.xe s := ⟨WE.go⟩
theorem pe_we {X : Cx} {e : Expr} : PE X e (WE X e) := ⟨fun pins s _ _ _ I h => h pins s I⟩
theorem we_of {X : Cx} {e : Expr} {t : TE} (h : PE X e t) {σ : St} {H : Hp} {Q : VK} (q : t σ H Q) : WE X e σ H Q := ⟨fun pins s I => h.run pins s σ H Q I q⟩
structure WT (X : Cx) (e : Expr)  (σ : St) (H : Hp) (Q : Bool → Hp → Prop) : Prop where
  go : ∀ (pins : List (Addr × Obj)) (s : Shared), Inv X pins σ H s → wpAny (model X.prog X.w) X.A (isTrue e X.env (eval e X.env)) (TP X pins σ Q) X.xe s
instance (X : Cx) (e : Expr)  (σ : St) (H : Hp) (Q : Bool → Hp → Prop) : CoeFun (WT X e σ H Q) fun _ => ∀ (pins : List (Addr × Obj)) (s : Shared), Inv X pins σ H s → wpAny (model X.prog X.w) X.A (isTrue e X.env (eval e X.env)) (TP X pins σ Q) X.xe s := ⟨WT.go⟩
theorem pt_wt {X : Cx} {e : Expr} : PT X e (WT X e) := ⟨fun pins s _ _ _ I h => h pins s I⟩
theorem wt_of {X : Cx} {e : Expr} {t : TT} (h : PT X e t) {σ : St} {H : Hp} {Q : Bool → Hp → Prop} (q : t σ H Q) : WT X e σ H Q := ⟨fun pins s I => h.run pins s σ H Q I q⟩
structure WW (X : Cx) (e : Expr)  (σ : St) (H : Hp) (Q : Bool → Hp → Prop) : Prop where
  go : ∀ (wh : Sem Value) (pins : List (Addr × Obj)) (s : Shared), Inv X pins σ H s → wpAny (model X.prog X.w) X.A (isTrue e X.env wh) (TP X pins σ Q) X.xe s
instance (X : Cx) (e : Expr)  (σ : St) (H : Hp) (Q : Bool → Hp → Prop) : CoeFun (WW X e σ H Q) fun _ => ∀ (wh : Sem Value) (pins : List (Addr × Obj)) (s : Shared), Inv X pins σ H s → wpAny (model X.prog X.w) X.A (isTrue e X.env wh) (TP X pins σ Q) X.xe s := ⟨WW.go⟩
theorem pw_ww {X : Cx} {e : Expr} : PW X e (WW X e) := ⟨fun wh pins s _ _ _ I h => h wh pins s I⟩
theorem ww_of {X : Cx} {e : Expr} {t : TT} (h : PW X e t) {σ : St} {H : Hp} {Q : Bool → Hp → Prop} (q : t σ H Q) : WW X e σ H Q := ⟨fun wh pins s I => h.run wh pins s σ H Q I q⟩
structure WA (X : Cx) (es : List Expr)  (σ : St) (H : Hp) (Q : List V → Hp → Prop) : Prop where
  go : ∀ (pos : Pos) (pins : List (Addr × Obj)) (s : Shared), Inv X pins σ H s → wpAny (model X.prog X.w) X.A (spliced (backTo pos (starEach es X.env))) (AP X pins σ Q) X.xe s
instance (X : Cx) (es : List Expr)  (σ : St) (H : Hp) (Q : List V → Hp → Prop) : CoeFun (WA X es σ H Q) fun _ => ∀ (pos : Pos) (pins : List (Addr × Obj)) (s : Shared), Inv X pins σ H s → wpAny (model X.prog X.w) X.A (spliced (backTo pos (starEach es X.env))) (AP X pins σ Q) X.xe s := ⟨WA.go⟩
theorem pa_wa {X : Cx} {es : List Expr} : PA X es (WA X es) := ⟨fun pos pins s _ _ _ I h => h pos pins s I⟩
theorem wa_of {X : Cx} {es : List Expr} {t : TA} (h : PA X es t) {σ : St} {H : Hp} {Q : List V → Hp → Prop} (q : t σ H Q) : WA X es σ H Q := ⟨fun pos pins s I => h.run pos pins s σ H Q I q⟩
structure WS (X : Cx) (st : Stmt)  (D : Ends) (σ : St) (H : Hp) : Prop where
  go : ∀ (pins : List (Addr × Obj)) (s : Shared), Inv X pins σ H s → wpAny (model X.prog X.w) X.A (exec st X.env) (SP X pins D) X.xe s
instance (X : Cx) (st : Stmt)  (D : Ends) (σ : St) (H : Hp) : CoeFun (WS X st D σ H) fun _ => ∀ (pins : List (Addr × Obj)) (s : Shared), Inv X pins σ H s → wpAny (model X.prog X.w) X.A (exec st X.env) (SP X pins D) X.xe s := ⟨WS.go⟩
theorem ps_ws {X : Cx} {st : Stmt} : PS X st (WS X st) := ⟨fun pins s _ _ _ I h => h pins s I⟩
theorem ws_of {X : Cx} {st : Stmt} {t : TS} (h : PS X st t) {σ : St} {H : Hp} {D : Ends} (q : t D σ H) : WS X st D σ H := ⟨fun pins s I => h.run pins s σ H D I q⟩
structure WSs (X : Cx) (st : List Stmt)  (D : Ends) (σ : St) (H : Hp) : Prop where
  go : ∀ (pins : List (Addr × Obj)) (s : Shared), Inv X pins σ H s → wpAny (model X.prog X.w) X.A (execs st X.env) (SP X pins D) X.xe s
instance (X : Cx) (st : List Stmt)  (D : Ends) (σ : St) (H : Hp) : CoeFun (WSs X st D σ H) fun _ => ∀ (pins : List (Addr × Obj)) (s : Shared), Inv X pins σ H s → wpAny (model X.prog X.w) X.A (execs st X.env) (SP X pins D) X.xe s := ⟨WSs.go⟩
theorem pss_ws {X : Cx} {st : List Stmt} : PSs X st (WSs X st) := ⟨fun pins s _ _ _ I h => h pins s I⟩
theorem wss_of {X : Cx} {st : List Stmt} {t : TS} (h : PSs X st t) {σ : St} {H : Hp} {D : Ends} (q : t D σ H) : WSs X st D σ H := ⟨fun pins s I => h.run pins s σ H D I q⟩
structure WO (X : Cx) (o : Option Expr)  (σ : St) (H : Hp) (Q : Option Int → Hp → Prop) : Prop where
  go : ∀ (pins : List (Addr × Obj)) (s : Shared), Inv X pins σ H s → wpAny (model X.prog X.w) X.A (evalPart o X.env) (fun u s' => ∃ o H', Inv X pins σ H' s' ∧ IsPart u o ∧ Q o H') X.xe s
instance (X : Cx) (o : Option Expr)  (σ : St) (H : Hp) (Q : Option Int → Hp → Prop) : CoeFun (WO X o σ H Q) fun _ => ∀ (pins : List (Addr × Obj)) (s : Shared), Inv X pins σ H s → wpAny (model X.prog X.w) X.A (evalPart o X.env) (fun u s' => ∃ o H', Inv X pins σ H' s' ∧ IsPart u o ∧ Q o H') X.xe s := ⟨WO.go⟩
theorem po_wo {X : Cx} {o : Option Expr} : PO X o (WO X o) := ⟨fun pins s _ _ _ I h => h pins s I⟩
theorem wo_of {X : Cx} {o : Option Expr} {t : TO} (h : PO X o t) {σ : St} {H : Hp} {Q : Option Int → Hp → Prop} (q : t σ H Q) : WO X o σ H Q := ⟨fun pins s I => h.run pins s σ H Q I q⟩
abbrev QE := D → Om → Prop
abbrev QT := Bool → Om → Prop
abbrev QA := List D → Om → Prop
def VP (X : Cx) (H0 : Hp) (σ : St) (H : Hp) (ρ : Rho) (Q : QE) : VK := fun v H' => TK X.K H H' ∧ ∃ d ω', Rel X.K H0 σ H' ρ ω' ∧ Im X.K H' v d ∧ Q d ω'
def BP (X : Cx) (H0 : Hp) (σ : St) (H : Hp) (ρ : Rho) (Q : QT) : Bool → Hp → Prop := fun b H' => TK X.K H H' ∧ ∃ ω', Rel X.K H0 σ H' ρ ω' ∧ Q b ω'
def LP (X : Cx) (H0 : Hp) (σ : St) (H : Hp) (ρ : Rho) (Q : QA) : List V → Hp → Prop := fun vs H' => TK X.K H H' ∧ ∃ ds ω', Rel X.K H0 σ H' ρ ω' ∧ Ims X.K H' vs ds ∧ Q ds ω'
def GE (X : Cx) (H0 : Hp) (e : Expr) (ρ : Rho) (ω : Om) (Q : QE) : Prop := ∀ σ H, Rel X.K H0 σ H ρ ω → WE X e σ H (VP X H0 σ H ρ Q)
def GT (X : Cx) (H0 : Hp) (e : Expr) (ρ : Rho) (ω : Om) (Q : QT) : Prop := ∀ σ H, Rel X.K H0 σ H ρ ω → WT X e σ H (BP X H0 σ H ρ Q)
def GW (X : Cx) (H0 : Hp) (e : Expr) (ρ : Rho) (ω : Om) (Q : QT) : Prop := ∀ σ H, Rel X.K H0 σ H ρ ω → WW X e σ H (BP X H0 σ H ρ Q)
def GA (X : Cx) (H0 : Hp) (es : List Expr) (ρ : Rho) (ω : Om) (Q : QA) : Prop := ∀ σ H, Rel X.K H0 σ H ρ ω → WA X es σ H (LP X H0 σ H ρ Q)
def GO (X : Cx) (H0 : Hp) (o : Option Expr) (ρ : Rho) (ω : Om) (Q : Option Int → Om → Prop) : Prop :=
  ∀ σ H, Rel X.K H0 σ H ρ ω → WO X o σ H (fun o H' => TK X.K H H' ∧ ∃ ω', Rel X.K H0 σ H' ρ ω' ∧ Q o ω')
structure GP where
  nx : Rho → Om → Prop
  rt : QE
  bk : Rho → Om → Prop := fun _ _ => False
  ct : Rho → Om → Prop := fun _ _ => False
def EN (X : Cx) (H0 : Hp) (H : Hp) (P : GP) : Ends where
  nx := fun σ' H' => TK X.K H H' ∧ ∃ ρ' ω', Rel X.K H0 σ' H' ρ' ω' ∧ P.nx ρ' ω'
  rt := fun v H' => TK X.K H H' ∧ TK X.K H0 H' ∧ ∃ d ω', HRel X.K H' ω' ∧ Im X.K H' v d ∧ P.rt d ω'
  bk := fun σ' H' => TK X.K H H' ∧ ∃ ρ' ω', Rel X.K H0 σ' H' ρ' ω' ∧ P.bk ρ' ω'
  ct := fun σ' H' => TK X.K H H' ∧ ∃ ρ' ω', Rel X.K H0 σ' H' ρ' ω' ∧ P.ct ρ' ω'
def GS (X : Cx) (H0 : Hp) (st : Stmt) (ρ : Rho) (ω : Om) (P : GP) : Prop := ∀ σ H, Rel X.K H0 σ H ρ ω → WS X st (EN X H0 H P) σ H
def GSs (X : Cx) (H0 : Hp) (st : List Stmt) (ρ : Rho) (ω : Om) (P : GP) : Prop := ∀ σ H, Rel X.K H0 σ H ρ ω → WSs X st (EN X H0 H P) σ H
theorem thnE {X : Cx} {e : Expr} {σ : St} {H : Hp} {Q Q' : VK} (h : WE X e σ H Q) (k : ∀ v H', Q v H' → Q' v H') : WE X e σ H Q' := ⟨fun pins s I =>
  thn (h pins s I) fun _ _ ⟨v, H', J, r, q⟩ => ⟨v, H', J, r, k v H' q⟩⟩
theorem ends_mono {X : Cx} {pins : List (Addr × Obj)} {D D' : Ends} (h1 : ∀ σ H, D.nx σ H → D'.nx σ H) (h2 : ∀ v H, D.rt v H → D'.rt v H) (h3 : ∀ σ H, D.bk σ H → D'.bk σ H) (h4 : ∀ σ H, D.ct σ H → D'.ct σ H) :
    ∀ f s, SP X pins D f s → SP X pins D' f s := fun f s q => by
  cases f with
  | next => obtain ⟨σ, H, I, q⟩ := q; exact ⟨σ, H, I, h1 _ _ q⟩
  | brk => obtain ⟨σ, H, I, q⟩ := q; exact ⟨σ, H, I, h3 _ _ q⟩
  | cont => obtain ⟨σ, H, I, q⟩ := q; exact ⟨σ, H, I, h4 _ _ q⟩
  | ret u => obtain ⟨v, σ, H, I, r, q⟩ := q; exact ⟨v, σ, H, I, r, h2 _ _ q⟩
theorem en_back {X : Cx} {H0 H H1 : Hp} {P : GP} {pins : List (Addr × Obj)} (t : TK X.K H H1) : ∀ f s, SP X pins (EN X H0 H1 P) f s → SP X pins (EN X H0 H P) f s :=
  ends_mono (fun _ _ ⟨a, b⟩ => ⟨t.trans a, b⟩) (fun _ _ ⟨a, b⟩ => ⟨t.trans a, b⟩) (fun _ _ ⟨a, b⟩ => ⟨t.trans a, b⟩) (fun _ _ ⟨a, b⟩ => ⟨t.trans a, b⟩)
section
variable {X : Cx} {H0 : Hp} {ρ : Rho} {ω ω' : Om}
theorem GE.imp {e : Expr} {Q Q' : QE} (h : GE X H0 e ρ ω Q) (k : ∀ d ω', Q d ω' → Q' d ω') : GE X H0 e ρ ω Q' := fun σ H R => thnE (h σ H R) fun _ _ ⟨t, d, w, R', i, q⟩ => ⟨t, d, w, R', i, k _ _ q⟩
theorem GE.less {e : Expr} {Q : QE} (x : Ext ω ω') (h : GE X H0 e ρ ω Q) : GE X H0 e ρ ω' Q := fun σ H R => h σ H (R.less x)
theorem GSs.less {e : List Stmt} {P : GP} (x : Ext ω ω') (h : GSs X H0 e ρ ω P) : GSs X H0 e ρ ω' P := fun σ H R => h σ H (R.less x)
theorem ge_var (i : Nat) {x : Str} {pos : Pos} {d : D} {Q : QE} (hN : X.N[i]? = some x) (hv : Vis X.env.scope x) (hd : ρ[i]? = some (some d)) (q : Q d ω)
    (hg : (x == ("__debug__" : Str)) = false := by decide) (hc : (x == ("__classdict__" : Str)) = false := by decide) : GE X H0 (.Name x pos) ρ ω Q := fun σ H R =>
  let ⟨v, e, r⟩ := R.sl i d hd
  we_of (pe_var hN hv hg hc) ⟨v, e, TK.refl H, d, ω, R, r, q⟩
theorem ge_int {i : Int} {j : Nat} {pos : Pos} {Q : QE} (q : Q (.int i) ω) : GE X H0 (.Constant (.int i) j pos) ρ ω Q := fun σ H R => we_of pe_int ⟨TK.refl H, _, ω, R, .int i, q⟩
theorem ge_bl {b : Bool} {j : Nat} {pos : Pos} {Q : QE} (q : Q (.bl b) ω) : GE X H0 (.Constant (.bool b) j pos) ρ ω Q := fun σ H R => we_of pe_bl ⟨TK.refl H, _, ω, R, .bl b, q⟩
theorem ge_non {j : Nat} {pos : Pos} {Q : QE} (q : Q .non ω) : GE X H0 (.Constant .none j pos) ρ ω Q := fun σ H R => we_of pe_non ⟨TK.refl H, _, ω, R, .non, q⟩
theorem ge_str {x : Str} (l : List Nat) (e : x.cps.toList = l) {j : Nat} {pos : Pos} {Q : QE} (q : Q (.str l) ω) (hl : l.length ≤ sizeLine := by decide) : GE X H0 (.Constant (.str x) j pos) ρ ω Q := fun σ H R => by
  obtain rfl : x = S l := by rw [← e, S_tl]
  exact we_of pe_str ⟨TK.refl H, _, ω, R, .str l hl, q⟩
structure Glob (K : PySem.W.Frag) (mg : Str → Option Value) (x : Str) (d : D) : Prop where
  ex : ∃ u v, mg x = some u ∧ RelV v u ∧ ∀ H, Im K H v d
theorem ge_glob {x : Str} {d : D} {pos : Pos} {Q : QE} (g : Glob X.K X.mg x d) (hg : Gl X x) (q : Q d ω) (hd : (x == ("__debug__" : Str)) = false := by decide) : GE X H0 (.Name x pos) ρ ω Q := fun σ H R => by
  obtain ⟨u, v, h1, h2, h3⟩ := g.ex
  exact we_of (pe_glob hg h1 h2 hd) ⟨TK.refl H, d, ω, R, h3 H, q⟩
def RO (X : Cx) (f : Value → Value → Sem Value) : R2 := fun x y H Q => ∀ (pins : List (Addr × Obj)) (s : Shared) (σ : St) (v u : Value), Inv X pins σ H s → RelV x v → RelV y u → wpAny (model X.prog X.w) X.A (f v u) (EP X pins σ Q) X.xe s
theorem op_ro (X : Cx) (f : Value → Value → Sem Value) : OpR X f (RO X f) := fun pins s σ _ _ _ v u _ I rx ry h => h pins s σ v u I rx ry
theorem ro_of {f : Value → Value → Sem Value} {r : R2} (h : OpR X f r) {x y : V} {H : Hp} {Q : VK} (q : r x y H Q) : RO X f x y H Q := fun pins s σ v u I rx ry => h pins s σ H x y v u Q I rx ry q
def GB (X : Cx) (H0 : Hp) (ρ : Rho) (f : Value → Value → Sem Value) (a b : D) (ω : Om) (Q : QE) : Prop :=
  ∀ σ H x y, Rel X.K H0 σ H ρ ω → Im X.K H x a → Im X.K H y b → RO X f x y H (VP X H0 σ H ρ Q)
theorem vp_back {σ : St} {H H1 : Hp} {Q : QE} (t : TK X.K H H1) : ∀ v H', VP X H0 σ H1 ρ Q v H' → VP X H0 σ H ρ Q v H' := fun _ _ ⟨a, b⟩ => ⟨t.trans a, b⟩
theorem ro_mono {f : Value → Value → Sem Value} {x y : V} {H : Hp} {Q Q' : VK} (h : RO X f x y H Q) (k : ∀ v H', Q v H' → Q' v H') : RO X f x y H Q' := fun pins s σ v u I rx ry =>
  thn (h pins s σ v u I rx ry) fun _ _ ⟨v, H', J, r, q⟩ => ⟨v, H', J, r, k v H' q⟩
theorem two_of {a b : Expr} {Q : QE} {f : Value → Value → Sem Value} (h : GE X H0 a ρ ω fun da ω1 => GE X H0 b ρ ω1 fun db ω2 => GB X H0 ρ f da db ω2 Q) {σ : St} {H : Hp} (R : Rel X.K H0 σ H ρ ω) :
    WE X a σ H fun x H1 => WE X b σ H1 fun y H2 => RO X f x y H2 (VP X H0 σ H ρ Q) :=
  thnE (h σ H R) fun x H1 ⟨t1, da, ω1, R1, i1, h1⟩ => thnE (h1 σ H1 R1) fun y H2 ⟨t2, db, ω2, R2, i2, h2⟩ => ro_mono (h2 σ H2 x y R2 (i1.mono t2) i2) (vp_back (t1.trans t2))
theorem ge_bin {a b : Expr} {op : Operator} {pos : Pos} {Q : QE} (h : GE X H0 a ρ ω fun da ω1 => GE X H0 b ρ ω1 fun db ω2 => GB X H0 ρ (binaryOp op) da db ω2 Q) : GE X H0 (.BinOp a op b pos) ρ ω Q := fun σ H R =>
  we_of (pe_op (op_ro X _) pe_we pe_we) (two_of h R)
theorem ge_cmp {a b : Expr} {op : CmpOp} {pos : Pos} {Q : QE} (hm : behindInMarks op b = false) (h : GE X H0 a ρ ω fun da ω1 => GE X H0 b ρ ω1 fun db ω2 => GB X H0 ρ (compareOp op) da db ω2 Q) : GE X H0 (.Compare a [op] [b] pos) ρ ω Q := fun σ H R =>
  we_of (pe_cmpR (op_ro X _) pe_we pe_we hm) (two_of h R)
theorem tb_of {e : Expr} {Q : QT} {te : TE} {σ : St} {H : Hp} (h : te σ H (VP X H0 σ H ρ fun d ω' => ∃ b, d = .bl b ∧ Q b ω')) (mono : ∀ Q Q' : VK, (∀ v H, Q v H → Q' v H) → te σ H Q → te σ H Q') : tTest te σ H (BP X H0 σ H ρ Q) :=
  mono _ _ (fun v H' ⟨t, d, w, R, i, b, e, q⟩ => by subst e; cases i; exact ⟨b, rfl, t, w, R, q⟩) h
theorem gt_cmp {a b : Expr} {op : CmpOp} {pos : Pos} {Q : QT} (hm : behindInMarks op b = false) (h : GE X H0 a ρ ω fun da ω1 => GE X H0 b ρ ω1 fun db ω2 => GB X H0 ρ (compareOp op) da db ω2 fun d ω' => ∃ c, d = .bl c ∧ Q c ω') : GT X H0 (.Compare a [op] [b] pos) ρ ω Q := fun σ H R =>
  wt_of (pt_cmpR (op_ro X _) pe_we pe_we hm) (tb_of (e := a) (two_of h R) fun Q1 Q2 k z => thnE z fun _ _ z => thnE z fun _ _ z => ro_mono z k)
def tb2_aux : True := trivial
theorem gt_chain {a b c : Expr} {op op' : CmpOp} {pos : Pos} {Q : QT} (hm : lastMarks [op, op'] [b, c] = false)
    (h : GE X H0 a ρ ω fun da ω1 => GE X H0 b ρ ω1 fun db ω2 => GB X H0 ρ (compareOp op) da db ω2 fun d ω3 => ∃ k, d = .bl k ∧ (k = true → GE X H0 c ρ ω3 fun dc ω4 => GB X H0 ρ (compareOp op') db dc ω4 fun d' ω5 => ∃ k', d' = .bl k' ∧ Q k' ω5) ∧ (k = false → Q false ω3)) :
    GT X H0 (.Compare a [op, op'] [b, c] pos) ρ ω Q := fun σ H R => by
  refine wt_of (pt_chain (op_ro X _) (op_ro X _) pe_we pe_we pe_we hm) ?_
  refine thnE (h σ H R) fun x H1 ⟨t1, da, ω1, R1, i1, h1⟩ => thnE (h1 σ H1 R1) fun y H2 ⟨t2, db, ω2, R2, i2, h2⟩ => ?_
  refine ro_mono (h2 σ H2 x y R2 (i1.mono t2) i2) fun z H3 ⟨t3, d, ω3, R3, i3, k, e, hy, hn⟩ => ?_
  subst e; cases i3
  refine ⟨k, rfl, ?_⟩
  cases k with
  | true =>
    refine iteT (thnE (hy rfl σ H3 R3) fun u H4 ⟨t4, dc, ω4, R4, i4, h4⟩ => ?_)
    refine ro_mono (h4 σ H4 y u R4 ((i2.mono t3).mono t4) i4) fun z H5 ⟨t5, d, ω5, R5, i5, k', e, q⟩ => ?_
    subst e; cases i5
    exact ⟨k', rfl, (((t1.trans t2).trans t3).trans t4).trans t5, ω5, R5, q⟩
  | false => exact iteF ⟨false, rfl, (t1.trans t2).trans t3, ω3, R3, hn rfl⟩
theorem ge_chain {a b c : Expr} {op op' : CmpOp} {pos : Pos} {Q : QE} (hm : lastMarks [op, op'] [b, c] = false)
    (h : GE X H0 a ρ ω fun da ω1 => GE X H0 b ρ ω1 fun db ω2 => GB X H0 ρ (compareOp op) da db ω2 fun d ω3 => ∃ k, d = .bl k ∧ (k = true → GE X H0 c ρ ω3 fun dc ω4 => GB X H0 ρ (compareOp op') db dc ω4 Q) ∧ (k = false → Q (.bl false) ω3)) :
    GE X H0 (.Compare a [op, op'] [b, c] pos) ρ ω Q := fun σ H R => by
  refine we_of (pe_chain (op_ro X _) (op_ro X _) pe_we pe_we pe_we hm) ?_
  refine thnE (h σ H R) fun x H1 ⟨t1, da, ω1, R1, i1, h1⟩ => thnE (h1 σ H1 R1) fun y H2 ⟨t2, db, ω2, R2, i2, h2⟩ => ?_
  refine ro_mono (h2 σ H2 x y R2 (i1.mono t2) i2) fun z H3 ⟨t3, d, ω3, R3, i3, k, e, hy, hn⟩ => ?_
  subst e; cases i3
  refine ⟨k, rfl, ?_⟩
  cases k with
  | true =>
    refine iteT (thnE (hy rfl σ H3 R3) fun u H4 ⟨t4, dc, ω4, R4, i4, h4⟩ => ?_)
    exact ro_mono (h4 σ H4 y u R4 ((i2.mono t3).mono t4) i4) (vp_back (((t1.trans t2).trans t3).trans t4))
  | false => exact iteF ⟨(t1.trans t2).trans t3, .bl false, ω3, R3, .bl false, hn rfl⟩
def isRf : D → Bool
  | .ref _ => true
  | _ => false
def tru (ω : Om) : D → Option Bool
  | .non => some false
  | .bl b => some b
  | .int i => some (i != 0)
  | .str s => some (!s.isEmpty)
  | .tup ds => some (!ds.isEmpty)
  | .ref a => match ω a with
    | some (.lst ds) => some (!ds.isEmpty)
    | some (.rol ds) => some (!ds.isEmpty)
    | some (.dct kvs) => some (!kvs.isEmpty)
    | _ => none
theorem isEmpty_len {α β : Type} {xs : List α} {ys : List β} (h : xs.length = ys.length) : xs.isEmpty = ys.isEmpty := by
  cases xs <;> cases ys <;> first | rfl | cases h
theorem tru_of {σ : St} {H : Hp} {d : D} {v : V} {b : Bool} (R : Rel X.K H0 σ H ρ ω) (i : Im X.K H v d) (h : tru ω d = some b) : TruV X.K v H b := by
  cases i with
  | non => exact (Option.some.inj h).symm
  | bl c => exact (Option.some.inj h).symm
  | int c => exact (Option.some.inj h).symm
  | str c hl =>
    refine ⟨by rw [S_len]; exact hl, ?_⟩
    rw [← Option.some.inj h, S_len]
    cases c <;> rfl
  | tup q r =>
    refine .inr (.inl ⟨_, q, ?_⟩)
    rw [← Option.some.inj h, isEmpty_len r.length]
  | ref a =>
    have h' : (match ω a with
      | some (.lst ds) => some (!ds.isEmpty)
      | some (.rol ds) => some (!ds.isEmpty)
      | some (.dct kvs) => some (!kvs.isEmpty)
      | _ => none) = some b := h
    split at h'
    · rename_i ds e
      obtain ⟨xs, q, r⟩ := R.hr _ _ e
      refine .inl ⟨xs, SqL.of q, ?_⟩
      rw [← Option.some.inj h', isEmpty_len r.length]
    · rename_i ds e
      obtain ⟨xs, q, r⟩ := R.hr _ _ e
      refine .inl ⟨xs, .inl q, ?_⟩
      rw [← Option.some.inj h', isEmpty_len r.length]
    · rename_i ds e
      obtain ⟨xs, q, r⟩ := R.hr _ _ e
      refine .inr (.inr ⟨xs, q, ?_⟩)
      rw [← Option.some.inj h', isEmpty_len r.length]
    · cases h'
theorem gt_truth {e : Expr} {Q : QT} (he : ∀ whole, isTrue e X.env whole = (do let v ← whole; standAt e.pos; holding [v] (truthy v))) (h : GE X H0 e ρ ω fun d ω' => ∃ b, tru ω' d = some b ∧ Q b ω') : GT X H0 e ρ ω Q := fun σ H R =>
  wt_of (pt_truth pe_we he) (thnE (h σ H R) fun v H1 ⟨t, d, w, R1, i, b, e1, q⟩ => ⟨b, tru_of R1 i e1, t, w, R1, q⟩)
theorem gt_not {e : Expr} {pos : Pos} {Q : QT} (h : GT X H0 e ρ ω fun b ω' => Q (!b) ω') : GT X H0 (.UnaryOp .Not e pos) ρ ω Q := fun σ H R => wt_of (pt_not pt_wt) (h σ H R)
theorem thnT {e : Expr} {σ : St} {H : Hp} {Q Q' : Bool → Hp → Prop} (h : WT X e σ H Q) (k : ∀ v H', Q v H' → Q' v H') : WT X e σ H Q' := ⟨fun pins s I =>
  thn (h pins s I) fun _ _ ⟨H', J, q⟩ => ⟨H', J, k _ H' q⟩⟩
theorem thnW {e : Expr} {σ : St} {H : Hp} {Q Q' : Bool → Hp → Prop} (h : WW X e σ H Q) (k : ∀ v H', Q v H' → Q' v H') : WW X e σ H Q' := ⟨fun wh pins s I =>
  thn (h wh pins s I) fun _ _ ⟨H', J, q⟩ => ⟨H', J, k _ H' q⟩⟩
theorem bp_back {σ : St} {H H1 : Hp} {Q : QT} (t : TK X.K H H1) : ∀ v H', BP X H0 σ H1 ρ Q v H' → BP X H0 σ H ρ Q v H' := fun _ _ ⟨a, b⟩ => ⟨t.trans a, b⟩
theorem gt_bool {op : BoolOp} {es : List Expr} {pos : Pos} {Q : QT} (h : GW X H0 (.BoolOp op es pos) ρ ω Q) : GT X H0 (.BoolOp op es pos) ρ ω Q := fun σ H R => wt_of pw_ww.pt (h σ H R)
theorem gw_and1 {a : Expr} {pos : Pos} {Q : QT} (h : GT X H0 a ρ ω Q) : GW X H0 (.BoolOp .And [a] pos) ρ ω Q := fun σ H R => ww_of (pw_and1 pt_wt) (h σ H R)
theorem gw_or1 {a : Expr} {pos : Pos} {Q : QT} (h : GT X H0 a ρ ω Q) : GW X H0 (.BoolOp .Or [a] pos) ρ ω Q := fun σ H R => ww_of (pw_or1 pt_wt) (h σ H R)
theorem gw_and {a b : Expr} {rest : List Expr} {pos : Pos} {Q : QT} (h : GT X H0 a ρ ω fun k ω1 => (k = true → GW X H0 (.BoolOp .And (b :: rest) pos) ρ ω1 Q) ∧ (k = false → Q false ω1)) : GW X H0 (.BoolOp .And (a :: b :: rest) pos) ρ ω Q := fun σ H R =>
  ww_of (pw_and pt_wt pw_ww) (thnT (h σ H R) fun k H1 ⟨t, w, R1, hy, hn⟩ => by
    cases k with
    | true => exact iteT (thnW (hy rfl σ H1 R1) (bp_back t))
    | false => exact iteF ⟨t, w, R1, hn rfl⟩)
theorem gw_or {a b : Expr} {rest : List Expr} {pos : Pos} {Q : QT} (h : GT X H0 a ρ ω fun k ω1 => (k = true → Q true ω1) ∧ (k = false → GW X H0 (.BoolOp .Or (b :: rest) pos) ρ ω1 Q)) : GW X H0 (.BoolOp .Or (a :: b :: rest) pos) ρ ω Q := fun σ H R =>
  ww_of (pw_or pt_wt pw_ww) (thnT (h σ H R) fun k H1 ⟨t, w, R1, hy, hn⟩ => by
    cases k with
    | false => exact iteF (thnW (hn rfl σ H1 R1) (bp_back t))
    | true => exact iteT ⟨t, w, R1, hy rfl⟩)
theorem ge_one {op : BoolOp} {a : Expr} {pos : Pos} {Q : QE} (h : GE X H0 a ρ ω Q) : GE X H0 (.BoolOp op [a] pos) ρ ω Q := fun σ H R => we_of (pe_one pe_we) (h σ H R)
theorem ge_or {a b : Expr} {rest : List Expr} {pos : Pos} {Q : QE} (h : GE X H0 a ρ ω fun d ω1 => ∃ k, tru ω1 d = some k ∧ (k = true → Q d ω1) ∧ (k = false → GE X H0 (.BoolOp .Or (b :: rest) pos) ρ ω1 Q)) : GE X H0 (.BoolOp .Or (a :: b :: rest) pos) ρ ω Q := fun σ H R =>
  we_of (pe_orT pe_we pe_we) (thnE (h σ H R) fun v H1 ⟨t, d, w, R1, i, k, e, hy, hn⟩ => ⟨k, tru_of R1 i e, by
    cases k with
    | true => exact iteT ⟨t, d, w, R1, i, hy rfl⟩
    | false => exact iteF (thnE (hn rfl σ H1 R1) (vp_back t))⟩)
theorem ge_and {a b : Expr} {rest : List Expr} {pos : Pos} {Q : QE} (h : GE X H0 a ρ ω fun d ω1 => ∃ k, tru ω1 d = some k ∧ (k = true → GE X H0 (.BoolOp .And (b :: rest) pos) ρ ω1 Q) ∧ (k = false → Q d ω1)) : GE X H0 (.BoolOp .And (a :: b :: rest) pos) ρ ω Q := fun σ H R =>
  we_of (pe_andT pe_we pe_we) (thnE (h σ H R) fun v H1 ⟨t, d, w, R1, i, k, e, hy, hn⟩ => ⟨k, tru_of R1 i e, by
    cases k with
    | true => exact iteT (thnE (hy rfl σ H1 R1) (vp_back t))
    | false => exact iteF ⟨t, d, w, R1, i, hn rfl⟩⟩)
theorem ge_not {a : Expr} {pos : Pos} {Q : QE} (h : GE X H0 a ρ ω fun d ω1 => ∃ k, tru ω1 d = some k ∧ Q (.bl (!k)) ω1) : GE X H0 (.UnaryOp .Not a pos) ρ ω Q := fun σ H R =>
  we_of (pe_notT pe_we) (thnE (h σ H R) fun v H1 ⟨t, d, w, R1, i, k, e, q⟩ => ⟨k, tru_of R1 i e, t, _, w, R1, .bl _, q⟩)
theorem ge_if {c a b : Expr} {pos : Pos} {Q : QE} (h : GT X H0 c ρ ω fun k ω1 => (k = true → GE X H0 a ρ ω1 Q) ∧ (k = false → GE X H0 b ρ ω1 Q)) : GE X H0 (.IfExp c a b pos) ρ ω Q := fun σ H R =>
  we_of (pe_ifExp pt_wt pe_we pe_we) (thnT (h σ H R) fun k H1 ⟨t, w, R1, hy, hn⟩ => by
    cases k with
    | true => exact iteT (thnE (hy rfl σ H1 R1) (vp_back t))
    | false => exact iteF (thnE (hn rfl σ H1 R1) (vp_back t)))
theorem thnA {es : List Expr} {σ : St} {H : Hp} {Q Q' : List V → Hp → Prop} (h : WA X es σ H Q) (k : ∀ v H', Q v H' → Q' v H') : WA X es σ H Q' := ⟨fun pos pins s I =>
  thn (h pos pins s I) fun _ _ ⟨v, H', J, r, q⟩ => ⟨v, H', J, r, k v H' q⟩⟩
theorem ga_nil {Q : QA} (q : Q [] ω) : GA X H0 [] ρ ω Q := fun σ H R => wa_of pa_nil ⟨TK.refl H, [], ω, R, .nil, q⟩
theorem ga_cons {e : Expr} {es : List Expr} {Q : QA} (h : GE X H0 e ρ ω fun d ω1 => GA X H0 es ρ ω1 fun ds ω2 => Q (d :: ds) ω2) (hs : starEach (e :: es) X.env = (false, eval e X.env) :: starEach es X.env := by rfl) : GA X H0 (e :: es) ρ ω Q := fun σ H R =>
  wa_of (pa_cons pe_we pa_wa hs) (thnE (h σ H R) fun v H1 ⟨t, d, w, R1, i, q⟩ => thnA (q σ H1 R1) fun vs H2 ⟨t2, ds, w2, R2, is, q2⟩ => ⟨t.trans t2, _, w2, R2, .cons (i.mono t2) is, q2⟩)
theorem ge_tup {es : List Expr} {x1 : _} {pos : Pos} {Q : QE} (h : GA X H0 es ρ ω fun ds ω1 => ds.length ≤ sizeLine ∧ Q (.tup ds) ω1) : GE X H0 (.Tuple es x1 pos) ρ ω Q := fun σ H R =>
  we_of (pe_tup pa_wa) (thnA (h σ H R) fun vs H1 ⟨t, ds, w, R1, is, hl, q⟩ => ⟨by rw [is.length]; exact hl, fun p hp =>
    have e := same_new (o := .tup vs) hp
    ⟨t.trans (tk_same e), .tup ds, w, R1.same e, .tup (SqT.of upd_same) (is.mono (tk_same e)), q⟩⟩)
theorem ge_lst {es : List Expr} {pos : Pos} {Q : QE} (h : GA X H0 es ρ ω fun ds ω1 => ds.length ≤ sizeLine ∧ ∀ p, ω1 p = none → Q (.ref p) (put ω1 p (.lst ds))) : GE X H0 (.List es pos) ρ ω Q := fun σ H R =>
  we_of (pe_lst pa_wa) (thnA (h σ H R) fun vs H1 ⟨t, ds, w, R1, is, hl, q⟩ => ⟨by rw [is.length]; exact hl, fun p hp =>
    have e := same_new (o := .lst vs) hp
    ⟨t.trans (tk_same e), .ref p, _, R1.move (tk_same e) (R1.hr.new (m := .lst ds) hp ⟨vs, upd_same, is.mono (tk_same e)⟩), .ref p, q p (R1.hr.free hp)⟩⟩)
end
end Q2
namespace Q2
open PySem PySem.Spec L2 SX
def partL (b a : List Nat) : List Nat × List Nat × List Nat := match TL.par b [] a with
  | some (p, q) => (p, b, q)
  | none => (a, [], [])
theorem partition_S {a b : List Nat} (hb : b ≠ []) : Txt.partition (S a) (S b) = (S (partL b a).1, S (partL b a).2.1, S (partL b a).2.2) := by
  unfold partL
  cases h : TL.par b [] a with
  | none => exact SX.partition_none hb h
  | some pq => obtain ⟨p, q⟩ := pq; exact SX.partition_some hb h
def splL (b a : List Nat) : List (List Nat) := TL.spl b 0 [] a
def joinL (a : List Nat) (ys : List (List Nat)) : List Nat := TL.joinL a ys
theorem joinL_len (a : List Nat) : ∀ ys : List (List Nat), (joinL a ys).length ≤ (ys.map (·.length)).sum + ys.length * a.length
  | [] => by simp [joinL, TL.joinL]
  | [p] => by show p.length ≤ _; simp
  | p :: q :: r => by
    have ih := joinL_len a (q :: r)
    show (p ++ (a ++ joinL a (q :: r))).length ≤ _
    rw [List.length_append, List.length_append]
    simp only [List.map_cons, List.sum_cons, List.length_cons, Nat.add_mul, Nat.one_mul] at ih ⊢
    omega
theorem joinL_nil : ∀ ys : List (List Nat), joinL [] ys = ys.flatten
  | [] => rfl
  | [p] => by show p = _; simp
  | p :: q :: r => by
    have ih := joinL_nil (q :: r)
    show p ++ ([] ++ joinL [] (q :: r)) = _
    rw [ih]; simp
theorem spl_len (b : List Nat) : ∀ (k : Nat) (acc a : List Nat), ∀ y ∈ TL.spl b k acc a, y.length ≤ acc.length + a.length
  | k, acc, [], y, h => by
    rw [TL.spl_nil] at h
    rw [List.mem_singleton.mp h]
    exact Nat.le_add_right _ _
  | 0, acc, c :: r, y, h => by
    have h : y ∈ (if TL.pre b (c :: r) = true then acc :: TL.spl b (b.length - 1) [] r else TL.spl b 0 (acc ++ [c]) r) := h
    split at h
    · rcases List.mem_cons.mp h with h | h
      · rw [h]; exact Nat.le_add_right _ _
      · have := spl_len b _ _ r y h
        simp only [List.length_nil, List.length_cons] at this ⊢
        omega
    · have := spl_len b _ _ r y h
      simp only [List.length_append, List.length_cons, List.length_nil] at this ⊢
      omega
  | k + 1, acc, c :: r, y, h => by
    have := spl_len b k acc r y h
    simp only [List.length_cons]
    omega
theorem splL_len {b a y : List Nat} (h : y ∈ splL b a) : y.length ≤ a.length := by
  have := spl_len b 0 [] a y h
  simpa using this
theorem spl_num (b : List Nat) : ∀ (k : Nat) (acc a : List Nat), (TL.spl b k acc a).length ≤ a.length + 1
  | k, acc, [] => by rw [TL.spl_nil]; exact Nat.le_refl 1
  | 0, acc, c :: r => by
    show (if TL.pre b (c :: r) = true then acc :: TL.spl b (b.length - 1) [] r else TL.spl b 0 (acc ++ [c]) r).length ≤ _
    split
    · have := spl_num b (b.length - 1) [] r
      simp only [List.length_cons]
      omega
    · have := spl_num b 0 (acc ++ [c]) r
      simp only [List.length_cons]
      omega
  | k + 1, acc, c :: r => by
    have := spl_num b k acc r
    show (TL.spl b k acc r).length ≤ _
    simp only [List.length_cons]
    omega
theorem par_len (b : List Nat) : ∀ (acc a : List Nat) {p q : List Nat}, TL.par b acc a = some (p, q) → p.length ≤ acc.length + a.length ∧ q.length ≤ a.length
  | acc, [], p, q, h => by cases h
  | acc, c :: r, p, q, h => by
    have h : (if TL.pre b (c :: r) = true then some (acc, (c :: r).drop b.length) else TL.par b (acc ++ [c]) r) = some (p, q) := h
    split at h
    · cases h
      rw [List.length_drop]
      omega
    · have := par_len b _ r h
      simp only [List.length_append, List.length_cons, List.length_nil] at this ⊢
      omega
theorem partL_len (b a : List Nat) : (partL b a).1.length ≤ a.length ∧ (partL b a).2.1.length ≤ b.length ∧ (partL b a).2.2.length ≤ a.length := by
  unfold partL
  cases h : TL.par b [] a with
  | none => exact ⟨Nat.le_refl _, Nat.zero_le _, Nat.zero_le _⟩
  | some pq =>
    obtain ⟨p, q⟩ := pq
    have := par_len b [] a h
    simp only [List.length_nil] at this
    refine ⟨?_, Nat.le_refl _, this.2⟩
    show p.length ≤ a.length
    omega
theorem occ_run (l : List Nat) (c k : Nat) : ∀ (n a free : Nat) (arr : Array Nat), free ≤ a →
    (forIn (List.range' a n) (arr, free) (StrLaws.occBody (S l) (S [c]) l.length k)).run.fst.toList = arr.toList ++ (((List.range' a n).filter fun i => decide (l[i]? = some c)).take (k - arr.size))
  | 0, a, free, arr, hf => by simp [List.range']
  | n + 1, a, free, arr, hf => by
    have hs := StrLaws.subAt_one (S l) c a
    have e1 : (S l).cps.toList = l := rfl
    have e2 : (S l).length = l.length := S_len l
    rw [e1, e2] at hs
    rw [List.range'_succ, List.forIn_cons]
    unfold StrLaws.occBody
    by_cases h : l[a]? = some c
    · obtain ⟨h1, h2⟩ := hs.mpr h
      by_cases hk : arr.size < k
      · rw [if_pos ⟨⟨⟨hk, hf⟩, h1⟩, h2⟩]
        have ih := occ_run l c k n (a + 1) (a + (S [c]).length) (arr.push a) (Nat.le_refl _)
        refine Eq.trans ih ?_
        rw [List.filter_cons, if_pos (decide_eq_true h), Array.size_push, Array.toList_push]
        obtain ⟨m, hm⟩ : ∃ m, k - arr.size = m + 1 := ⟨k - arr.size - 1, by omega⟩
        have hm2 : k - (arr.size + 1) = m := by omega
        rw [hm, hm2, List.take_succ_cons, List.append_assoc]
        rfl
      · rw [if_neg fun z => hk z.1.1.1]
        have ih := occ_run l c k n (a + 1) free arr (Nat.le_succ_of_le hf)
        refine Eq.trans ih ?_
        have hz : k - arr.size = 0 := by omega
        rw [hz, List.take_zero, List.take_zero]
    · rw [if_neg fun z => h (hs.mp ⟨z.1.2, z.2⟩)]
      have ih := occ_run l c k n (a + 1) free arr (Nat.le_succ_of_le hf)
      refine Eq.trans ih ?_
      rw [List.filter_cons, if_neg (by simpa using h)]
theorem occ1 (l : List Nat) (c lo k : Nat) : Builtin.Str.occurrences (S l) (S [c]) lo l.length k = ((List.range' lo (l.length + 1 - lo)).filter fun i => decide (l[i]? = some c)).take k := by
  rw [StrLaws.occ_eq]
  have := occ_run l c k (l.length + 1 - lo) lo lo #[] (Nat.le_refl _)
  simpa using this
theorem first_at (c : Nat) : ∀ (l : List Nat) (a n : Nat), l.length ≤ n → ((List.range' a n).filter fun i => decide ((l)[i - a]? = some c)).head? = (l.findIdx? (· == c)).map (a + ·)
  | [], a, n, h => by
    have : ((List.range' a n).filter fun i => decide (([] : List Nat)[i - a]? = some c)) = [] := by
      rw [List.filter_eq_nil_iff]; simp
    rw [this]; rfl
  | x :: r, a, 0, h => by simp at h
  | x :: r, a, n + 1, h => by
    rw [List.range'_succ, List.filter_cons, List.findIdx?_cons]
    by_cases hx : x = c
    · subst hx
      simp
    · have e0 : decide (((x :: r) : List Nat)[a - a]? = some c) = false := by simp [hx]
      rw [e0, if_neg Bool.false_ne_true]
      have ex : (x == c) = false := by simpa using hx
      rw [ex]
      simp only [Bool.false_eq_true, if_false]
      have ih := first_at c r (a + 1) n (by simpa using h)
      have e : ((List.range' (a + 1) n).filter fun i => decide (((x :: r) : List Nat)[i - a]? = some c)) = ((List.range' (a + 1) n).filter fun i => decide ((r : List Nat)[i - (a + 1)]? = some c)) := by
        refine List.filter_congr fun i hi => ?_
        have : a + 1 ≤ i := by
          have := List.mem_range'.mp hi
          omega
        have e2 : i - a = (i - (a + 1)) + 1 := by omega
        rw [e2]
        simp
      rw [e, ih]
      cases (r.findIdx? (· == c)) with
      | none => rfl
      | some k => simp; omega
theorem occ_from (l : List Nat) (c lo : Nat) (h : lo ≤ l.length) : (Builtin.Str.occurrences (S l) (S [c]) lo l.length 1).head? = ((l.drop lo).findIdx? (· == c)).map (lo + ·) := by
  rw [occ1, List.head?_take, if_neg (by decide)]
  have := first_at c (l.drop lo) lo (l.length + 1 - lo) (by rw [List.length_drop]; omega)
  rw [← this]
  congr 1
  refine List.filter_congr fun i hi => ?_
  have : lo ≤ i := by
    have := List.mem_range'.mp hi
    omega
  have e : lo + (i - lo) = i := by omega
  rw [List.getElem?_drop, e]
theorem index_S (l : List Nat) (c : Nat) : Txt.index0 (S l) (S [c]) = l.findIdx? (· == c) := by
  unfold Txt.index0
  have := occ_from l c 0 (Nat.zero_le _)
  rw [S_len, this]
  simp
def findL (l : List Nat) (c lo : Nat) : Int := match (l.drop lo).findIdx? (· == c) with
  | some k => ((lo + k : Nat) : Int)
  | none => -1
theorem find_S (l : List Nat) (c lo : Nat) (h : lo ≤ l.length) : Txt.find3 (S l) (S [c]) (lo : Int) = findL l c lo := by
  unfold Txt.find3 findL
  have ef : fromIndex (S l).length (lo : Int) = lo := by
    rw [S_len]
    unfold fromIndex
    rw [if_neg (by omega)]
    simp
    try omega
  have e := occ_from l c lo h
  rw [ef, S_len]
  cases q : Builtin.Str.occurrences (S l) (S [c]) lo l.length 1 with
  | nil =>
    rw [q] at e
    cases q2 : (l.drop lo).findIdx? (· == c) with
    | none => rfl
    | some k => rw [q2] at e; cases e
  | cons k r =>
    rw [q] at e
    cases q2 : (l.drop lo).findIdx? (· == c) with
    | none => rw [q2] at e; cases e
    | some j => rw [q2] at e; cases e; rfl
theorem cnt_count (c : Nat) : ∀ l : List Nat, PyProof.Rows.cnt c l = (l.count c : Int)
  | [] => rfl
  | x :: r => by
    rw [PyProof.Rows.cnt_cons, cnt_count c r, List.count_cons]
    by_cases h : x = c
    · subst h; simp; omega
    · simp [h]
theorem count_S (l : List Nat) (c : Nat) : Txt.count (S l) (S [c]) = (l.count c : Int) := (PyProof.Rows.count_cnt (S l) c).trans (cnt_count c l)
theorem startswith_S (a b : List Nat) : Txt.startswith (S a) (S b) = (a.take b.length == b) := by
  unfold Txt.startswith
  rw [StrLaws.subAt_eq]
  have e1 : (S a).cps.toList = a := rfl
  have e2 : (S b).cps.toList = b := rfl
  rw [S_len, S_len, e1, e2]
  simp
  intro h
  by_cases hl : b.length ≤ a.length
  · exact hl
  · have := congrArg List.length h
    rw [List.length_take] at this
    omega
theorem strSub_S (l : List Nat) (i j : Nat) : Builtin.Str.strSub (S l) i j = S ((l.take j).drop i) := by
  refine TL.ext_tl ?_
  show ((S l).cps.extract i j).toList = _
  rw [Array.toList_extract, List.extract_eq_take_drop]
  show ((l.drop i).take (j - i)) = (l.take j).drop i
  rw [List.drop_take]
theorem drop_takeWhile (p : Nat → Bool) (l : List Nat) : l.drop (l.takeWhile p).length = l.dropWhile p := by
  induction l with
  | nil => rfl
  | cons a r ih =>
    rw [List.takeWhile_cons, List.dropWhile_cons]
    by_cases h : p a = true
    · rw [if_pos h, if_pos h]; simpa using ih
    · rw [if_neg h, if_neg h]; rfl
def stripL (y l : List Nat) : List Nat := ((l.dropWhile y.contains).reverse.dropWhile y.contains).reverse
def lstripL (y l : List Nat) : List Nat := l.dropWhile y.contains
theorem contains_S (y : List Nat) : (S y).cps.contains = y.contains := by
  funext c
  show y.toArray.contains c = _
  simp
theorem lstrip_S (l y : List Nat) : Txt.lstripChars (S l) (S y) = S (lstripL y l) := by
  unfold Txt.lstripChars lstripL
  rw [PyProof.Rows.stripBy_eq, contains_S]
  show Builtin.Str.strSub (S l) (l.takeWhile y.contains).length (S l).length = _
  rw [strSub_S, S_len, List.take_length, drop_takeWhile]
theorem strip_S (l y : List Nat) : Txt.stripChars (S l) (S y) = S (stripL y l) := by
  unfold Txt.stripChars stripL
  rw [PyProof.Rows.stripBy_eq, contains_S]
  show Builtin.Str.strSub (S l) (l.takeWhile y.contains).length ((S l).length - ((l.drop (l.takeWhile y.contains).length).reverse.takeWhile y.contains).length) = _
  rw [strSub_S, S_len, drop_takeWhile]
  congr 1
  generalize hd : l.dropWhile y.contains = d
  have hl : l = l.takeWhile y.contains ++ d := by rw [← hd]; exact (List.takeWhile_append_dropWhile).symm
  have e1 : (l.take (l.length - (d.reverse.takeWhile y.contains).length)).drop (l.takeWhile y.contains).length = (l.drop (l.takeWhile y.contains).length).take (l.length - (d.reverse.takeWhile y.contains).length - (l.takeWhile y.contains).length) := by
    rw [List.drop_take]
  rw [e1, drop_takeWhile, hd]
  have hlen : l.length = (l.takeWhile y.contains).length + d.length := by
    have := congrArg List.length hl
    rwa [List.length_append] at this
  have e2 : l.length - (d.reverse.takeWhile y.contains).length - (l.takeWhile y.contains).length = d.length - (d.reverse.takeWhile y.contains).length := by omega
  rw [e2]
  have e3 : d = (d.reverse.dropWhile y.contains).reverse ++ (d.reverse.takeWhile y.contains).reverse := by
    rw [← List.reverse_append, List.takeWhile_append_dropWhile, List.reverse_reverse]
  have e4 : d.length - (d.reverse.takeWhile y.contains).length = (d.reverse.dropWhile y.contains).reverse.length := by
    have := congrArg List.length e3
    rw [List.length_append, List.length_reverse, List.length_reverse] at this
    rw [List.length_reverse]
    omega
  obtain ⟨A, hA⟩ : ∃ A, A = (d.reverse.dropWhile y.contains).reverse := ⟨_, rfl⟩
  rw [← hA] at e3 e4 ⊢
  rw [e4]
  have e5 : d.take A.length = A := by
    rw [e3]
    exact List.take_left
  exact e5
theorem stripL_len (y l : List Nat) : (stripL y l).length ≤ l.length := by
  unfold stripL
  rw [List.length_reverse]
  refine Nat.le_trans (List.dropWhile_sublist _).length_le ?_
  rw [List.length_reverse]
  exact (List.dropWhile_sublist _).length_le
theorem lstripL_len (y l : List Nat) : (lstripL y l).length ≤ l.length := (List.dropWhile_sublist _).length_le
theorem mul_S (x : List Nat) (n : Int) : Txt.mul (S x) n = S (List.replicate n.toNat x).flatten := by
  unfold Txt.mul
  by_cases h : n < 1
  · rw [if_pos h]
    have : n.toNat = 0 := by omega
    rw [this]; rfl
  · rw [if_neg h]
    split
    · rename_i h2
      rw [Bool.or_eq_true] at h2
      rcases h2 with h2 | h2
      · have : n = 1 := by simpa using h2
        subst this
        simp
      · have hx : x = [] := by
          rw [S_len] at h2
          simpa using h2
        subst hx
        simp
    · refine TL.ext_tl ?_
      have go : ∀ (k : Nat) (a : Array Nat), ((List.replicate k x.toArray).foldl (· ++ ·) a).toList = a.toList ++ (List.replicate k x).flatten := by
        intro k
        induction k with
        | zero => intro a; simp
        | succ k ih =>
          intro a
          rw [List.replicate_succ, List.foldl_cons, ih, List.replicate_succ, List.flatten_cons]
          simp
      show (List.foldl (fun x1 x2 => x1 ++ x2) #[] (List.replicate n.toNat x.toArray)).toList = (List.replicate n.toNat x).flatten
      rw [go]
      rfl
theorem mulOk_S {x : List Nat} {n : Int} (hn : n ≤ 100000) (hx : x.length ≤ 100) (hlo : -100000 ≤ n) : MulOk (S x) n := by
  refine ⟨?_, fun h1 h2 => ?_, fun h1 h2 => ?_⟩
  · rw [Bool.or_eq_false_iff]
    exact ⟨decide_eq_false (by omega), decide_eq_false (by omega)⟩
  · rw [S_len]
    have : (92233720368547 : Int) ≤ 9223372036854775807 / n := by
      refine Int.le_ediv_of_mul_le (by omega) ?_
      omega
    show ¬ ((x.length : Int) > 9223372036854775807 / n)
    omega
  · rw [S_len]
    have hb : x.length * n.toNat ≤ 100 * 100000 := Nat.mul_le_mul hx (by omega)
    unfold Builtin.Str.tooLong
    refine decide_eq_false ?_
    rw [sizeLine_eq]
    omega
end Q2
namespace Q2
open PySem PySem.Spec L2 SX
section
variable {X : Cx} {H0 : Hp} {ρ : Rho} {ω ω' : Om}
theorem im_int {K : PySem.W.Frag} {H : Hp} {v : V} {i : Int} (h : Im K H v (.int i)) : v = .int i := by cases h; rfl
theorem im_str {K : PySem.W.Frag} {H : Hp} {v : V} {i : List Nat} (h : Im K H v (.str i)) : v = .str (S i) ∧ i.length ≤ sizeLine := by cases h; exact ⟨rfl, by assumption⟩
theorem im_bl {K : PySem.W.Frag} {H : Hp} {v : V} {i : Bool} (h : Im K H v (.bl i)) : v = .bl i := by cases h; rfl
theorem im_non {K : PySem.W.Frag} {H : Hp} {v : V} (h : Im K H v .non) : v = .non := by cases h; rfl
theorem im_ref {K : PySem.W.Frag} {H : Hp} {v : V} {a : Addr} (h : Im K H v (.ref a)) : v = .ref a := by cases h; rfl
theorem im_tup {K : PySem.W.Frag} {H : Hp} {v : V} {ds : List D} (h : Im K H v (.tup ds)) : ∃ a xs, v = .ref a ∧ SqT K H a xs ∧ Ims K H xs ds := by cases h; exact ⟨_, _, rfl, by assumption, by assumption⟩
theorem vp0 {σ : St} {H : Hp} {d : D} {v : V} {Q : QE} (R : Rel X.K H0 σ H ρ ω) (i : Im X.K H v d) (q : Q d ω) : VP X H0 σ H ρ Q v H := ⟨TK.refl H, d, ω, R, i, q⟩
theorem gb_ii {f : Value → Value → Sem Value} {g : Int → Int → V} {k : Int → Int → D} {C : Int → Int → Prop} (ho : OpR X f (rI C g)) (hk : ∀ H i j, Im X.K H (g i j) (k i j)) {i j : Int} {Q : QE} (hc : C i j) (q : Q (k i j) ω) : GB X H0 ρ f (.int i) (.int j) ω Q := fun σ H x y R hx hy => by
  cases hx; cases hy
  exact ro_of ho ⟨i, j, rfl, rfl, hc, vp0 R (hk H i j) q⟩
theorem gb_i0 {f : Value → Value → Sem Value} {g : Int → Int → V} {k : Int → Int → D} (ho : OpR X f (rI0 g)) (hk : ∀ H i j, Im X.K H (g i j) (k i j)) {i j : Int} {Q : QE} (q : Q (k i j) ω) : GB X H0 ρ f (.int i) (.int j) ω Q := fun σ H x y R hx hy => by
  cases hx; cases hy
  exact ro_of ho ⟨i, j, rfl, rfl, vp0 R (hk H i j) q⟩
theorem gb_add {i j : Int} {Q : QE} (q : Q (.int (i + j)) ω) : GB X H0 ρ (binaryOp .Add) (.int i) (.int j) ω Q := gb_i0 (k := fun i j => .int (i + j)) op_add (fun _ _ _ => .int _) q
theorem gb_sub {i j : Int} {Q : QE} (q : Q (.int (i - j)) ω) : GB X H0 ρ (binaryOp .Sub) (.int i) (.int j) ω Q := gb_i0 (k := fun i j => .int (i - j)) op_sub (fun _ _ _ => .int _) q
theorem gb_mul {i j : Int} {Q : QE} (h : CMul i j) (q : Q (.int (i * j)) ω) : GB X H0 ρ (binaryOp .Mult) (.int i) (.int j) ω Q := gb_ii (k := fun i j => .int (i * j)) op_mul (fun _ _ _ => .int _) h q
theorem gb_div {i j : Int} {Q : QE} (h : CDiv i j) (q : Q (.int (i / j)) ω) : GB X H0 ρ (binaryOp .FloorDiv) (.int i) (.int j) ω Q := gb_ii (k := fun i j => .int (i / j)) op_fdiv (fun _ _ _ => .int _) h q
theorem gb_mod {i j : Int} {Q : QE} (h : 0 < j) (q : Q (.int (i % j)) ω) : GB X H0 ρ (binaryOp .Mod) (.int i) (.int j) ω Q := gb_ii (k := fun i j => .int (i % j)) op_mod (fun _ _ _ => .int _) h q
theorem gb_pow {i j : Int} {Q : QE} (h : CPow i j) (q : Q (.int (i ^ j.toNat)) ω) : GB X H0 ρ (binaryOp .Pow) (.int i) (.int j) ω Q := gb_ii (k := fun i j => .int (i ^ j.toNat)) op_pow (fun _ _ _ => .int _) h q
theorem gb_adds {i j : List Nat} {Q : QE} (h : i.length + j.length ≤ sizeLine) (q : Q (.str (i ++ j)) ω) : GB X H0 ρ (binaryOp .Add) (.str i) (.str j) ω Q := fun σ H x y R hx hy => by
  obtain ⟨rfl, _⟩ := im_str hx
  obtain ⟨rfl, _⟩ := im_str hy
  refine ro_of op_add_str ⟨S i, S j, rfl, rfl, by rw [S_len, S_len]; exact h, ?_⟩
  rw [S_cat]
  exact vp0 R (.str _ (by rw [List.length_append]; exact h)) q
theorem gb_muls {x : List Nat} {n : Int} {Q : QE} (h : MulOk (S x) n) (hz : (List.replicate n.toNat x).flatten.length ≤ sizeLine) (q : Q (.str (List.replicate n.toNat x).flatten) ω) : GB X H0 ρ (binaryOp .Mult) (.str x) (.int n) ω Q := fun σ H x' y R hx hy => by
  obtain ⟨rfl, _⟩ := im_str hx
  cases hy
  intro pins s σ' v u I rx ry
  obtain ⟨t, rfl⟩ := rx
  obtain ⟨t', rfl⟩ := ry
  refine PySem.SB.mul h fun t2 k => ?_
  rw [mul_S]
  exact ⟨.str _, H, I.tok _, ⟨_, rfl⟩, vp0 R (.str _ hz) q⟩
theorem gb_addt {ds es : List D} {Q : QE} (h : ds.length + es.length ≤ sizeLine) (q : Q (.tup (ds ++ es)) ω) : GB X H0 ρ (binaryOp .Add) (.tup ds) (.tup es) ω Q := fun σ H x y R hx hy => by
  obtain ⟨a, xs, rfl, h1, r1⟩ := im_tup hx
  obtain ⟨b, ys, rfl, h2, r2⟩ := im_tup hy
  refine ro_of op_catA ⟨a, b, xs, ys, rfl, rfl, h1, h2, by rw [r1.length, r2.length]; exact h, fun e => ?_, fun e1 e2 => ?_, fun e1 e2 p hp => ?_⟩
  · subst e
    cases r1
    exact vp0 R (.tup h2 r2) q
  · subst e2
    cases r2
    rw [List.append_nil] at q
    exact vp0 R (.tup h1 r1) q
  · have e := same_new (o := .tup (xs ++ ys)) hp
    exact ⟨tk_same e, _, ω, R.same e, .tup (SqT.of upd_same) ((r1.append r2).mono (tk_same e)), q⟩
theorem gb_addl {a b : Addr} {ds es : List D} {Q : QE} (ha : ω a = some (.lst ds)) (hb : ω b = some (.lst es)) (h : ds.length + es.length ≤ sizeLine) (q : ∀ p, ω p = none → Q (.ref p) (put ω p (.lst (ds ++ es)))) : GB X H0 ρ (binaryOp .Add) (.ref a) (.ref b) ω Q := fun σ H x y R hx hy => by
  cases hx; cases hy
  obtain ⟨xs, h1, r1⟩ := R.hr _ _ ha
  obtain ⟨ys, h2, r2⟩ := R.hr _ _ hb
  refine ro_of op_cat ⟨a, b, xs, ys, rfl, rfl, h1, h2, by rw [r1.length, r2.length]; exact h, fun p hp => ?_⟩
  have e := same_new (o := .lst (xs ++ ys)) hp
  exact ⟨tk_same e, _, _, R.move (tk_same e) (R.hr.new (m := .lst (ds ++ es)) hp ⟨_, upd_same, (r1.append r2).mono (tk_same e)⟩), .ref p, q p (R.hr.free hp)⟩
theorem gb_lt {i j : Int} {Q : QE} (q : Q (.bl (decide (i < j))) ω) : GB X H0 ρ (compareOp .Lt) (.int i) (.int j) ω Q := gb_i0 (k := fun i j => .bl (decide (i < j))) op_lt (fun _ _ _ => .bl _) q
theorem gb_le {i j : Int} {Q : QE} (q : Q (.bl (decide (i ≤ j))) ω) : GB X H0 ρ (compareOp .LtE) (.int i) (.int j) ω Q := gb_i0 (k := fun i j => .bl (decide (i ≤ j))) op_le (fun _ _ _ => .bl _) q
theorem gb_gt {i j : Int} {Q : QE} (q : Q (.bl (decide (j < i))) ω) : GB X H0 ρ (compareOp .Gt) (.int i) (.int j) ω Q := gb_i0 (k := fun i j => .bl (decide (j < i))) op_gt (fun _ _ _ => .bl _) q
theorem gb_ge {i j : Int} {Q : QE} (q : Q (.bl (decide (j ≤ i))) ω) : GB X H0 ρ (compareOp .GtE) (.int i) (.int j) ω Q := gb_i0 (k := fun i j => .bl (decide (j ≤ i))) op_ge (fun _ _ _ => .bl _) q
def toV : D → Option V
  | .non => some .non | .bl b => some (.bl b) | .int i => some (.int i) | .str s => some (.str (S s)) | _ => none
theorem im_toV {K : PySem.W.Frag} {H : Hp} {v u : V} {d : D} (h : Im K H v d) (e : toV d = some u) : v = u := by
  cases h <;> first | exact Option.some.inj e | cases e
def scalD (a b : D) : Bool := match toV a, toV b with
  | some x, some y => scal x y
  | _, _ => false
theorem gb_eqV {a b : D} {x y : V} {Q : QE} (ha : toV a = some x) (hb : toV b = some y) (hs : scal x y = true) (q : Q (.bl (decide (x = y))) ω) : GB X H0 ρ (compareOp .Eq) a b ω Q := fun σ H u w R hx hy => by
  rw [im_toV hx ha, im_toV hy hb]
  exact ro_of op_eq ⟨hs, vp0 R (.bl _) q⟩
theorem gb_neV {a b : D} {x y : V} {Q : QE} (ha : toV a = some x) (hb : toV b = some y) (hs : scal x y = true) (q : Q (.bl (!decide (x = y))) ω) : GB X H0 ρ (compareOp .NotEq) a b ω Q := fun σ H u w R hx hy => by
  rw [im_toV hx ha, im_toV hy hb]
  exact ro_of op_ne ⟨hs, vp0 R (.bl _) q⟩
theorem dec_iff {p q : Prop} [Decidable p] [Decidable q] (h : p ↔ q) : decide p = decide q := decide_eq_decide.mpr h
theorem strV_iff {i j : List Nat} : V.str (S i) = V.str (S j) ↔ i = j := ⟨fun e => S_inj (V.str.inj e), fun e => e ▸ rfl⟩
theorem gb_eqS {i j : List Nat} {Q : QE} (q : Q (.bl (decide (i = j))) ω) : GB X H0 ρ (compareOp .Eq) (.str i) (.str j) ω Q := gb_eqV rfl rfl rfl (by
  rw [dec_iff strV_iff]; exact q)
theorem gb_neS {i j : List Nat} {Q : QE} (q : Q (.bl (!decide (i = j))) ω) : GB X H0 ρ (compareOp .NotEq) (.str i) (.str j) ω Q := gb_neV rfl rfl rfl (by
  rw [dec_iff strV_iff]; exact q)
theorem gb_eqI {i j : Int} {Q : QE} (q : Q (.bl (decide (i = j))) ω) : GB X H0 ρ (compareOp .Eq) (.int i) (.int j) ω Q := gb_eqV rfl rfl rfl (by
  rw [dec_iff (show V.int i = V.int j ↔ i = j from ⟨fun e => V.int.inj e, fun e => e ▸ rfl⟩)]; exact q)
theorem gb_neI {i j : Int} {Q : QE} (q : Q (.bl (!decide (i = j))) ω) : GB X H0 ρ (compareOp .NotEq) (.int i) (.int j) ω Q := gb_neV rfl rfl rfl (by
  rw [dec_iff (show V.int i = V.int j ↔ i = j from ⟨fun e => V.int.inj e, fun e => e ▸ rfl⟩)]; exact q)
def isNonD : D → Bool
  | .non => true
  | _ => false
theorem im_isN {K : PySem.W.Frag} {H : Hp} {v : V} {d : D} (h : Im K H v d) : decide (v = .non) = isNonD d := by
  cases h <;> first | rfl | (simp [isNonD])
theorem gb_is {d : D} {Q : QE} (q : Q (.bl (isNonD d)) ω) : GB X H0 ρ (compareOp .Is) d .non ω Q := fun σ H x y R hx hy => by
  cases hy
  exact ro_of op_isN ⟨rfl, by rw [im_isN hx]; exact vp0 R (.bl _) q⟩
theorem gb_isnot {d : D} {Q : QE} (q : Q (.bl (!isNonD d)) ω) : GB X H0 ρ (compareOp .IsNot) d .non ω Q := fun σ H x y R hx hy => by
  cases hy
  exact ro_of op_notN ⟨rfl, by rw [im_isN hx]; exact vp0 R (.bl _) q⟩
theorem gb_inC {c : Nat} {j : List Nat} {Q : QE} (q : Q (.bl (decide (c ∈ j))) ω) : GB X H0 ρ (compareOp .In) (.str [c]) (.str j) ω Q := fun σ H x y R hx hy => by
  obtain ⟨rfl, _⟩ := im_str hx
  obtain ⟨rfl, _⟩ := im_str hy
  exact ro_of op_in_sign ⟨c, S j, rfl, rfl, vp0 R (.bl _) q⟩
theorem gb_notInC {c : Nat} {j : List Nat} {Q : QE} (q : Q (.bl (!decide (c ∈ j))) ω) : GB X H0 ρ (compareOp .NotIn) (.str [c]) (.str j) ω Q := fun σ H x y R hx hy => by
  obtain ⟨rfl, _⟩ := im_str hx
  obtain ⟨rfl, _⟩ := im_str hy
  exact ro_of op_notIn_sign ⟨c, S j, rfl, rfl, vp0 R (.bl _) q⟩
theorem inV_strs (x : List Nat) : ∀ ys : List (List Nat), inV (.str (S x)) ((ys.map S).map V.str) = decide (x ∈ ys)
  | [] => by simp [inV]
  | y :: r => by
    have ih := inV_strs x r
    have e : inV (.str (S x)) (((y :: r).map S).map V.str) = (eqV (.str (S y)) (.str (S x)) || inV (.str (S x)) ((r.map S).map V.str)) := rfl
    rw [e, ih]
    have e2 : eqV (.str (S y)) (.str (S x)) = decide (S y = S x) := rfl
    rw [e2]
    by_cases h : y = x
    · subst h; simp
    · have h' : ¬ x = y := fun z => h z.symm
      have h2 : ¬ S y = S x := fun z => h (S_inj z)
      rw [decide_eq_false h2]
      simp [h']
theorem flat_strs : ∀ ys : List Str, (ys.map V.str).all flatV = true
  | [] => rfl
  | y :: r => by
    show (flatV (.str y) && (r.map V.str).all flatV) = true
    rw [flat_strs r]; rfl
theorem gb_inT {x : List Nat} {ys : List (List Nat)} {Q : QE} (q : Q (.bl (decide (x ∈ ys))) ω) : GB X H0 ρ (compareOp .In) (.str x) (.tup (ys.map D.str)) ω Q := fun σ H u w R hx hy => by
  obtain ⟨rfl, _⟩ := im_str hx
  obtain ⟨a, xs, rfl, h1, r1⟩ := im_tup hy
  rw [r1.strs] at h1
  refine ro_of op_in_seq ⟨a, _, rfl, .inr h1, rfl, flat_strs _, ?_⟩
  rw [if_neg Bool.false_ne_true, inV_strs]
  exact vp0 R (.bl _) q
theorem gb_notInT {x : List Nat} {ys : List (List Nat)} {Q : QE} (q : Q (.bl (!decide (x ∈ ys))) ω) : GB X H0 ρ (compareOp .NotIn) (.str x) (.tup (ys.map D.str)) ω Q := fun σ H u w R hx hy => by
  obtain ⟨rfl, _⟩ := im_str hx
  obtain ⟨a, xs, rfl, h1, r1⟩ := im_tup hy
  rw [r1.strs] at h1
  refine ro_of op_notIn_seq ⟨a, _, rfl, .inr h1, rfl, flat_strs _, ?_⟩
  rw [if_pos rfl, inV_strs]
  exact vp0 R (.bl _) q
theorem gb_inL {x : List Nat} {a : Addr} {ys : List (List Nat)} {Q : QE} (ha : ω a = some (.lst (ys.map D.str))) (q : Q (.bl (decide (x ∈ ys))) ω) : GB X H0 ρ (compareOp .In) (.str x) (.ref a) ω Q := fun σ H u w R hx hy => by
  obtain ⟨rfl, _⟩ := im_str hx
  cases hy
  obtain ⟨xs, h1, r1⟩ := R.hr _ _ ha
  rw [r1.strs] at h1
  refine ro_of op_in_seq ⟨a, _, rfl, .inl (SqL.of h1), rfl, flat_strs _, ?_⟩
  rw [if_neg Bool.false_ne_true, inV_strs]
  exact vp0 R (.bl _) q
theorem gb_notInL {x : List Nat} {a : Addr} {ys : List (List Nat)} {Q : QE} (ha : ω a = some (.lst (ys.map D.str))) (q : Q (.bl (!decide (x ∈ ys))) ω) : GB X H0 ρ (compareOp .NotIn) (.str x) (.ref a) ω Q := fun σ H u w R hx hy => by
  obtain ⟨rfl, _⟩ := im_str hx
  cases hy
  obtain ⟨xs, h1, r1⟩ := R.hr _ _ ha
  rw [r1.strs] at h1
  refine ro_of op_notIn_seq ⟨a, _, rfl, .inl (SqL.of h1), rfl, flat_strs _, ?_⟩
  rw [if_pos rfl, inV_strs]
  exact vp0 R (.bl _) q
mutual
def py : D → Option PyData
  | .non => some .none
  | .bl b => some (.bool b)
  | .int i => some (.int i)
  | .str s => some (.str (S s))
  | .tup ds => (pys ds).map .tuple
  | .ref _ => none
def pys : List D → Option (List PyData)
  | [] => some []
  | d :: ds => (py d).bind fun p => (pys ds).map fun ps => p :: ps
end
mutual
theorem im_dp {K : PySem.W.Frag} {H : Hp} : ∀ (d : D) (v : V) (p : PyData), Im K H v d → py d = some p → Dp K H v p
  | .non, _, p, .non, e => by cases e; exact .non
  | .bl _, _, p, .bl b, e => by cases e; exact .bl b
  | .int _, _, p, .int b, e => by cases e; exact .int b
  | .str _, _, p, .str b _, e => by cases e; exact .str (S b)
  | .ref _, _, p, .ref b, e => by cases e
  | .tup ds, _, p, .tup h r, e => by
    have e : (pys ds).map PyData.tuple = some p := e
    cases q : pys ds with
    | none => rw [q] at e; cases e
    | some ps => rw [q] at e; cases e; exact .tup h (ims_dp ds _ ps r q)
theorem ims_dp {K : PySem.W.Frag} {H : Hp} : ∀ (ds : List D) (vs : List V) (ps : List PyData), Ims K H vs ds → pys ds = some ps → DpAll K H vs ps
  | [], _, ps, .nil, e => by cases e; exact .nil
  | d :: ds, _, ps, .cons h r, e => by
    have e : (py d).bind (fun p => (pys ds).map fun ps => p :: ps) = some ps := e
    cases q : py d with
    | none => rw [q] at e; cases e
    | some p =>
      rw [q] at e
      have e : (pys ds).map (fun ps => p :: ps) = some ps := e
      cases q2 : pys ds with
      | none => rw [q2] at e; cases e
      | some pr => rw [q2] at e; cases e; exact .cons (im_dp d _ p h q) (ims_dp ds _ pr r q2)
end
theorem gb_eqD {a b : D} {p q : PyData} {Q : QE} (hu : X.A.units + 64 < cLine) (ha : py a = some p) (hb : py b = some q) (s1 : SeqAt.shaped p = true) (s2 : SeqAt.shaped q = true) (k : Q (.bl (PyData.eqv p q)) ω) : GB X H0 ρ (compareOp .Eq) a b ω Q := fun σ H x y R hx hy =>
  ro_of (op_eqD hu) ⟨p, q, im_dp _ _ _ hx ha, im_dp _ _ _ hy hb, s1, s2, vp0 R (.bl _) k⟩
theorem gb_neD {a b : D} {p q : PyData} {Q : QE} (hu : X.A.units + 64 < cLine) (ha : py a = some p) (hb : py b = some q) (s1 : SeqAt.shaped p = true) (s2 : SeqAt.shaped q = true) (k : Q (.bl (!PyData.eqv p q)) ω) : GB X H0 ρ (compareOp .NotEq) a b ω Q := fun σ H x y R hx hy =>
  ro_of (op_neD hu) ⟨p, q, im_dp _ _ _ hx ha, im_dp _ _ _ hy hb, s1, s2, vp0 R (.bl _) k⟩
end
def pl : Nat → D → Bool
  | _, .non => true
  | _, .int _ => true
  | _, .str s => s.all (· < 0x110000)
  | n + 1, .tup ds => ds.all (pl n)
  | _, _ => false
mutual
def eqD : D → D → Bool
  | .non, .non => true
  | .bl a, .bl b => a == b
  | .int a, .int b => a == b
  | .str a, .str b => decide (a = b)
  | .tup a, .tup b => eqDs a b
  | .ref a, .ref b => decide (a = b)
  | _, _ => false
def eqDs : List D → List D → Bool
  | [], [] => true
  | a :: as, b :: bs => eqD a b && eqDs as bs
  | _, _ => false
end
mutual
theorem eqD_iff : ∀ a b : D, eqD a b = true ↔ a = b
  | .non, b => by cases b <;> simp [eqD]
  | .bl a, b => by cases b <;> simp [eqD]
  | .int a, b => by cases b <;> simp [eqD]
  | .str a, b => by cases b <;> simp [eqD]
  | .ref a, b => by cases b <;> simp [eqD]
  | .tup a, b => by
    cases b with
    | tup c => simp only [eqD, D.tup.injEq]; exact eqDs_iff a c
    | _ => simp [eqD]
theorem eqDs_iff : ∀ a b : List D, eqDs a b = true ↔ a = b
  | [], b => by cases b <;> simp [eqDs]
  | a :: as, b => by
    cases b with
    | nil => simp [eqDs]
    | cons c cs => simp only [eqDs, Bool.and_eq_true, List.cons.injEq]; rw [eqD_iff a c, eqDs_iff as cs]
end
theorem pl_py : ∀ (n : Nat) (d : D), pl n d = true → ∃ p, py d = some p ∧ p.canLay0 = true ∧ p.depth ≤ n
  | n, .non, _ => ⟨_, rfl, rfl, Nat.zero_le _⟩
  | n, .int i, _ => ⟨_, rfl, rfl, Nat.zero_le _⟩
  | n, .str s, h => ⟨.str (S s), rfl, (by
      have h : s.all (· < 0x110000) = true := by cases n <;> exact h
      show (S s).cps.all (· < 0x110000) = true
      rw [List.all_toArray]
      exact h), Nat.zero_le _⟩
  | n, .bl _, h => by cases n <;> cases h
  | n, .ref _, h => by cases n <;> cases h
  | 0, .tup ds, h => by cases h
  | n + 1, .tup ds, h => by
    have h : ds.all (pl n) = true := h
    have go : ∀ es : List D, es.all (pl n) = true → ∃ ps, pys es = some ps ∧ PyData.canLayAll0 ps = true ∧ PyData.depthAll ps ≤ n := by
      intro es
      induction es with
      | nil => exact fun _ => ⟨[], rfl, rfl, Nat.zero_le _⟩
      | cons e es ih =>
        intro h
        rw [List.all_cons, Bool.and_eq_true] at h
        obtain ⟨p, e1, e2, e3⟩ := pl_py n e h.1
        obtain ⟨ps, f1, f2, f3⟩ := ih h.2
        refine ⟨p :: ps, ?_, ?_, ?_⟩
        · show (py e).bind (fun p => (pys es).map fun ps => p :: ps) = some (p :: ps)
          rw [e1, f1] <;> rfl
        · show (p.canLay0 && PyData.canLayAll0 ps) = true
          rw [e2, f2] <;> rfl
        · show max p.depth (PyData.depthAll ps) ≤ n
          omega
    obtain ⟨ps, f1, f2, f3⟩ := go ds h
    refine ⟨.tuple ps, ?_, f2, ?_⟩
    · show (pys ds).map PyData.tuple = some (.tuple ps)
      rw [f1] <;> rfl
    · show PyData.depthAll ps + 1 ≤ n + 1
      omega
mutual
theorem eqv_eqD : ∀ (a b : D) (p q : PyData) (n m : Nat), pl n a = true → pl m b = true → py a = some p → py b = some q → PyData.eqv p q = eqD a b
  | .non, b, p, q, n, m, ha, hb, h1, h2 => by
    cases h1
    cases b with
    | tup ds =>
      have h2 : (pys ds).map PyData.tuple = some q := h2
      cases e : pys ds <;> rw [e] at h2 <;> cases h2
      simp [PyData.eqv, eqD]
    | ref a => cases h2
    | bl c => cases m <;> cases hb
    | _ => cases h2 <;> simp [PyData.eqv, eqD]
  | .int a, b, p, q, n, m, ha, hb, h1, h2 => by
    cases h1
    cases b with
    | tup ds =>
      have h2 : (pys ds).map PyData.tuple = some q := h2
      cases e : pys ds <;> rw [e] at h2 <;> cases h2
      simp [PyData.eqv, eqD]
    | ref a => cases h2
    | bl c => cases m <;> cases hb
    | _ => cases h2 <;> simp [PyData.eqv, eqD]
  | .str a, b, p, q, n, m, ha, hb, h1, h2 => by
    cases h1
    cases b with
    | tup ds =>
      have h2 : (pys ds).map PyData.tuple = some q := h2
      cases e : pys ds <;> rw [e] at h2 <;> cases h2
      simp [PyData.eqv, eqD]
    | ref a => cases h2
    | bl c => cases m <;> cases hb
    | str c =>
      cases h2
      simp only [PyData.eqv, eqD]
      rw [S_beq]
      by_cases h : a = c
      · subst h; simp
      · simp [h]
    | _ => cases h2 <;> simp [PyData.eqv, eqD]
  | .bl a, b, p, q, n, m, ha, hb, h1, h2 => by cases n <;> cases ha
  | .ref a, b, p, q, n, m, ha, hb, h1, h2 => by cases h1
  | .tup as, b, p, q, n, m, ha, hb, h1, h2 => by
    have h1 : (pys as).map PyData.tuple = some p := h1
    cases e : pys as with
    | none => rw [e] at h1; cases h1
    | some ps =>
      rw [e] at h1
      cases h1
      cases n with
      | zero => cases ha
      | succ n =>
        cases b with
        | tup bs =>
          have h2 : (pys bs).map PyData.tuple = some q := h2
          cases e2 : pys bs with
          | none => rw [e2] at h2; cases h2
          | some qs =>
            rw [e2] at h2
            cases h2
            cases m with
            | zero => cases hb
            | succ m =>
              simp only [PyData.eqv, eqD]
              exact eqv_eqDs as bs ps qs n m ha hb e e2
        | ref a => cases h2
        | bl c => cases m <;> cases hb
        | _ => cases h2 <;> simp [PyData.eqv, eqD]
theorem eqv_eqDs : ∀ (a b : List D) (p q : List PyData) (n m : Nat), a.all (pl n) = true → b.all (pl m) = true → pys a = some p → pys b = some q → PyData.eqvAll p q = eqDs a b
  | [], b, p, q, n, m, ha, hb, h1, h2 => by
    cases h1
    cases b with
    | nil => cases h2; simp [PyData.eqvAll, eqDs]
    | cons c cs =>
      have h2 : (py c).bind (fun p => (pys cs).map fun ps => p :: ps) = some q := h2
      cases e : py c <;> rw [e] at h2
      · cases h2
      · have h2 : (pys cs).map (fun ps => _ :: ps) = some q := h2
        cases e2 : pys cs <;> rw [e2] at h2 <;> cases h2
        simp [PyData.eqvAll, eqDs]
  | a :: as, b, p, q, n, m, ha, hb, h1, h2 => by
    have h1 : (py a).bind (fun p => (pys as).map fun ps => p :: ps) = some p := h1
    rw [List.all_cons, Bool.and_eq_true] at ha
    cases e : py a with
    | none => rw [e] at h1; cases h1
    | some pa =>
      rw [e] at h1
      have h1 : (pys as).map (fun ps => pa :: ps) = some p := h1
      cases e2 : pys as with
      | none => rw [e2] at h1; cases h1
      | some ps =>
        rw [e2] at h1
        cases h1
        cases b with
        | nil => cases h2; simp [PyData.eqvAll, eqDs]
        | cons c cs =>
          rw [List.all_cons, Bool.and_eq_true] at hb
          have h2 : (py c).bind (fun p => (pys cs).map fun ps => p :: ps) = some q := h2
          cases f : py c with
          | none => rw [f] at h2; cases h2
          | some pc =>
            rw [f] at h2
            have h2 : (pys cs).map (fun ps => pc :: ps) = some q := h2
            cases f2 : pys cs with
            | none => rw [f2] at h2; cases h2
            | some qs =>
              rw [f2] at h2
              cases h2
              simp only [PyData.eqvAll, eqDs]
              rw [eqv_eqD a c pa pc n m ha.1 hb.1 e f, eqv_eqDs as cs ps qs n m ha.2 hb.2 e2 f2]
end
section
variable {X : Cx} {H0 : Hp} {ρ : Rho} {ω ω' : Om}
theorem pl_shaped {n : Nat} {p : PyData} (hn : n ≤ 64) (h1 : p.canLay0 = true) (h2 : p.depth ≤ n) : SeqAt.shaped p = true := by
  unfold SeqAt.shaped
  rw [h1, decide_eq_true (Nat.le_trans h2 hn)] <;> rfl
theorem gb_eqP {a b : D} {Q : QE} (hu : X.A.units + 64 < cLine) (ha : pl 12 a = true) (hb : pl 12 b = true) (k : Q (.bl (eqD a b)) ω) : GB X H0 ρ (compareOp .Eq) a b ω Q := by
  obtain ⟨p, e1, e2, e3⟩ := pl_py 12 a ha
  obtain ⟨q, f1, f2, f3⟩ := pl_py 12 b hb
  refine gb_eqD hu e1 f1 (pl_shaped (by decide) e2 e3) (pl_shaped (by decide) f2 f3) ?_
  rw [eqv_eqD a b p q 12 12 ha hb e1 f1]
  exact k
theorem gb_neP {a b : D} {Q : QE} (hu : X.A.units + 64 < cLine) (ha : pl 12 a = true) (hb : pl 12 b = true) (k : Q (.bl (!eqD a b)) ω) : GB X H0 ρ (compareOp .NotEq) a b ω Q := by
  obtain ⟨p, e1, e2, e3⟩ := pl_py 12 a ha
  obtain ⟨q, f1, f2, f3⟩ := pl_py 12 b hb
  refine gb_neD hu e1 f1 (pl_shaped (by decide) e2 e3) (pl_shaped (by decide) f2 f3) ?_
  rw [eqv_eqD a b p q 12 12 ha hb e1 f1]
  exact k
theorem gb_eqL {a b : Addr} {as bs : List D} {Q : QE} (hu : X.A.units + 64 < cLine) (wa : ω a = some (.lst as)) (wb : ω b = some (.lst bs)) (ha : as.all (pl 12) = true) (hb : bs.all (pl 12) = true) (k : Q (.bl (eqDs as bs)) ω) : GB X H0 ρ (compareOp .Eq) (.ref a) (.ref b) ω Q := fun σ H x y R hx hy => by
  cases hx; cases hy
  obtain ⟨xs, h1, r1⟩ := R.hr _ _ wa
  obtain ⟨ys, h2, r2⟩ := R.hr _ _ wb
  obtain ⟨p, e1, e2, e3⟩ := pl_py 13 (.tup as) ha
  obtain ⟨q, f1, f2, f3⟩ := pl_py 13 (.tup bs) hb
  have e1 : (pys as).map PyData.tuple = some p := e1
  have f1 : (pys bs).map PyData.tuple = some q := f1
  cases g1 : pys as with
  | none => rw [g1] at e1; cases e1
  | some ps =>
    cases g2 : pys bs with
    | none => rw [g2] at f1; cases f1
    | some qs =>
      rw [g1] at e1; rw [g2] at f1
      cases e1; cases f1
      refine ro_of (op_eqD hu) ⟨.list ps, .list qs, .lst (SqL.of h1) (ims_dp _ _ _ r1 g1), .lst (SqL.of h2) (ims_dp _ _ _ r2 g2), pl_shaped (n := 13) (by decide) e2 e3, pl_shaped (n := 13) (by decide) f2 f3, ?_⟩
      refine vp0 R (.bl _) ?_
      have e : PyData.eqv (.list ps) (.list qs) = eqDs as bs := by
        show PyData.eqvAll ps qs = _
        exact eqv_eqDs as bs ps qs 12 12 ha hb g1 g2
      rw [e]; exact k
theorem gb_neL {a b : Addr} {as bs : List D} {Q : QE} (hu : X.A.units + 64 < cLine) (wa : ω a = some (.lst as)) (wb : ω b = some (.lst bs)) (ha : as.all (pl 12) = true) (hb : bs.all (pl 12) = true) (k : Q (.bl (!eqDs as bs)) ω) : GB X H0 ρ (compareOp .NotEq) (.ref a) (.ref b) ω Q := fun σ H x y R hx hy => by
  cases hx; cases hy
  obtain ⟨xs, h1, r1⟩ := R.hr _ _ wa
  obtain ⟨ys, h2, r2⟩ := R.hr _ _ wb
  obtain ⟨p, e1, e2, e3⟩ := pl_py 13 (.tup as) ha
  obtain ⟨q, f1, f2, f3⟩ := pl_py 13 (.tup bs) hb
  have e1 : (pys as).map PyData.tuple = some p := e1
  have f1 : (pys bs).map PyData.tuple = some q := f1
  cases g1 : pys as with
  | none => rw [g1] at e1; cases e1
  | some ps =>
    cases g2 : pys bs with
    | none => rw [g2] at f1; cases f1
    | some qs =>
      rw [g1] at e1; rw [g2] at f1
      cases e1; cases f1
      refine ro_of (op_neD hu) ⟨.list ps, .list qs, .lst (SqL.of h1) (ims_dp _ _ _ r1 g1), .lst (SqL.of h2) (ims_dp _ _ _ r2 g2), pl_shaped (n := 13) (by decide) e2 e3, pl_shaped (n := 13) (by decide) f2 f3, ?_⟩
      refine vp0 R (.bl _) ?_
      have e : PyData.eqv (.list ps) (.list qs) = eqDs as bs := by
        show PyData.eqvAll ps qs = _
        exact eqv_eqDs as bs ps qs 12 12 ha hb g1 g2
      rw [e]; exact k
end
end Q2
namespace Q2
open PySem PySem.Spec L2 SX
section
variable {X : Cx} {H0 : Hp} {ρ : Rho} {ω ω' : Om}
def RCl (X : Cx) (f : Value) : List V → Hp → VK → Prop := fun vs H Q => ∀ (pins : List (Addr × Obj)) (s : Shared) (σ : St) (us : List Value), Inv X pins σ H s → Vals vs us → wpAny (model X.prog X.w) X.A (call f us) (EP X pins σ Q) X.xe s
theorem call_rcl (X : Cx) (f : Value) : CallR X f (RCl X f) := fun pins s σ _ _ us _ I r h => h pins s σ us I r
theorem rcl_of {f : Value} {r : List V → Hp → VK → Prop} (h : CallR X f r) {vs : List V} {H : Hp} {Q : VK} (q : r vs H Q) : RCl X f vs H Q := fun pins s σ us I rv => h pins s σ H vs us Q I rv q
theorem rcl_mono {f : Value} {vs : List V} {H : Hp} {Q Q' : VK} (h : RCl X f vs H Q) (k : ∀ v H', Q v H' → Q' v H') : RCl X f vs H Q' := fun pins s σ us I r =>
  thn (h pins s σ us I r) fun _ _ ⟨v, H', J, r, q⟩ => ⟨v, H', J, r, k v H' q⟩
def GC (X : Cx) (H0 : Hp) (ρ : Rho) (f : Value) (ds : List D) (ω : Om) (Q : QE) : Prop := ∀ σ H vs, Rel X.K H0 σ H ρ ω → Ims X.K H vs ds → RCl X f vs H (VP X H0 σ H ρ Q)
theorem ge_callB {x : Str} {id : String} {e : Expr} {es : List Expr} {p pos : Pos} {Q : QE} (hm : X.mg x = none) (hg : Gl X x) (hv : bootBuiltins x = some (.builtin id)) (h : GA X H0 (e :: es) ρ ω fun ds ω1 => GC X H0 ρ (.builtin id) ds ω1 Q) (hn : x ≠ "__name__" := by decide) (hdb : (x == ("__debug__" : Str)) = false := by decide)
    (he : starEach (e :: es) X.env = (false, eval e X.env) :: starEach es X.env := by rfl) (hpl : (backTo pos (starEach es X.env)).any (·.1) = false := by rfl) : GE X H0 (.Call (.Name x p) (e :: es) [] pos) ρ ω Q := fun σ H R =>
  we_of (pe_callB (call_rcl X _) hg hm hv pa_wa hn hdb he hpl) (thnA (h σ H R) fun vs H1 ⟨t, ds, w, R1, is, q⟩ => rcl_mono (q σ H1 vs R1 is) (vp_back t))
theorem ge_callTy {x : Str} {T : String} {e : Expr} {es : List Expr} {p pos : Pos} {Q : QE} (hm : X.mg x = none) (hg : Gl X x) (hv : bootBuiltins x = some (.type T)) (h : GA X H0 (e :: es) ρ ω fun ds ω1 => GC X H0 ρ (.type T) ds ω1 Q) (hn : x ≠ "__name__" := by decide) (hdb : (x == ("__debug__" : Str)) = false := by decide)
    (he : starEach (e :: es) X.env = (false, eval e X.env) :: starEach es X.env := by rfl) (hpl : (backTo pos (starEach es X.env)).any (·.1) = false := by rfl) : GE X H0 (.Call (.Name x p) (e :: es) [] pos) ρ ω Q := fun σ H R =>
  we_of (pe_callTy (call_rcl X _) hg hm hv pa_wa hn hdb he hpl) (thnA (h σ H R) fun vs H1 ⟨t, ds, w, R1, is, q⟩ => rcl_mono (q σ H1 vs R1 is) (vp_back t))
theorem ims1 {K : PySem.W.Frag} {H : Hp} {vs : List V} {d : D} (h : Ims K H vs [d]) : ∃ v, vs = [v] ∧ Im K H v d := by
  cases h with
  | cons a r => cases r; exact ⟨_, rfl, a⟩
theorem ims2 {K : PySem.W.Frag} {H : Hp} {vs : List V} {d e : D} (h : Ims K H vs [d, e]) : ∃ v u, vs = [v, u] ∧ Im K H v d ∧ Im K H u e := by
  cases h with
  | cons a r =>
    obtain ⟨u, e, b⟩ := ims1 r
    subst e
    exact ⟨_, _, rfl, a, b⟩
def lenD (ω : Om) : D → Option Nat
  | .str s => some s.length
  | .tup ds => some ds.length
  | .ref a => match ω a with
    | some (.lst ds) => some ds.length
    | some (.rol ds) => some ds.length
    | some (.dct kvs) => some kvs.length
    | _ => none
  | _ => none
theorem gc_len {d : D} {n : Nat} {Q : QE} (e : lenD ω d = some n) (hd : ∀ a kvs, d = .ref a → ω a ≠ some (.dct kvs)) (q : Q (.int n) ω) : GC X H0 ρ (.builtin "len") [d] ω Q := fun σ H vs R is => by
  obtain ⟨v, rfl, i⟩ := ims1 is
  cases i with
  | str s hs =>
    cases e
    refine rcl_of call_len_str ⟨S s, rfl, by rw [S_len]; exact hs, ?_⟩
    rw [S_len]
    exact vp0 R (.int _) q
  | tup h r =>
    cases e
    refine rcl_of call_len_seq ⟨_, _, rfl, .inr h, ?_⟩
    rw [r.length]
    exact vp0 R (.int _) q
  | ref a =>
    have e' : (match ω a with
      | some (.lst ds) => some ds.length
      | some (.rol ds) => some ds.length
      | some (.dct kvs) => some kvs.length
      | _ => none) = some n := e
    split at e'
    · rename_i ds w
      obtain ⟨xs, h, r⟩ := R.hr _ _ w
      cases e'
      refine rcl_of call_len_seq ⟨_, _, rfl, .inl (SqL.of h), ?_⟩
      rw [r.length]
      exact vp0 R (.int _) q
    · rename_i ds w
      obtain ⟨xs, h, r⟩ := R.hr _ _ w
      cases e'
      refine rcl_of call_len_seq ⟨_, _, rfl, .inl (.inl h), ?_⟩
      rw [r.length]
      exact vp0 R (.int _) q
    · rename_i ds w
      exact absurd w (hd a ds rfl)
    · cases e'
  | _ => cases e
theorem gc_lenS {s : List Nat} {Q : QE} (q : Q (.int s.length) ω) : GC X H0 ρ (.builtin "len") [.str s] ω Q := gc_len rfl (fun _ _ e => nomatch e) q
theorem gc_lenT {ds : List D} {Q : QE} (q : Q (.int ds.length) ω) : GC X H0 ρ (.builtin "len") [.tup ds] ω Q := gc_len rfl (fun _ _ e => nomatch e) q
theorem gc_lenL {a : Addr} {ds : List D} {Q : QE} (h : ω a = some (.lst ds)) (q : Q (.int ds.length) ω) : GC X H0 ρ (.builtin "len") [.ref a] ω Q :=
  gc_len (by show (match ω a with
    | some (.lst ds) => some ds.length
    | some (.rol ds) => some ds.length
    | some (.dct kvs) => some kvs.length
    | _ => none) = _; rw [h]) (fun b kvs e w => by cases e; rw [h] at w; cases w) q
theorem gc_lenR {a : Addr} {ds : List D} {Q : QE} (h : ω a = some (.rol ds)) (q : Q (.int ds.length) ω) : GC X H0 ρ (.builtin "len") [.ref a] ω Q :=
  gc_len (by show (match ω a with
    | some (.lst ds) => some ds.length
    | some (.rol ds) => some ds.length
    | some (.dct kvs) => some kvs.length
    | _ => none) = _; rw [h]) (fun b kvs e w => by cases e; rw [h] at w; cases w) q
theorem gc_min {i j : Int} {Q : QE} (hc : X.calm = true) (q : Q (.int (if j < i then j else i)) ω) : GC X H0 ρ (.builtin "min") [.int i, .int j] ω Q := fun σ H vs R is => by
  obtain ⟨v, u, rfl, a, b⟩ := ims2 is
  cases a; cases b
  exact rcl_of (call_min2 hc) ⟨i, j, rfl, vp0 R (.int _) q⟩
theorem gc_max {i j : Int} {Q : QE} (hc : X.calm = true) (q : Q (.int (if j > i then j else i)) ω) : GC X H0 ρ (.builtin "max") [.int i, .int j] ω Q := fun σ H vs R is => by
  obtain ⟨v, u, rfl, a, b⟩ := ims2 is
  cases a; cases b
  exact rcl_of (call_max2 hc) ⟨i, j, rfl, vp0 R (.int _) q⟩
theorem numL_len {n k : Nat} (h : n < 10 ^ k) (hk : 0 < k) : (TL.numL n).length ≤ k := by
  unfold TL.numL
  rw [List.length_map]
  by_cases hn : n = 0
  · subst hn
    have : (Nat.toDigits 10 0).length = 1 := by decide
    omega
  · have := Nat.length_toDigits_le_iff (b := 10) (n := n) (k := k) (by decide) hk
    exact this.mpr h
theorem gc_str {n : Nat} {i : Int} {Q : QE} (hi : i = (n : Int)) (h : n < 10 ^ 18) (q : Q (.str (TL.numL n)) ω) : GC X H0 ρ (.type "str") [.int i] ω Q := fun σ H vs R is => by
  obtain ⟨v, rfl, a⟩ := ims1 is
  subst hi
  cases a
  have hz : n.log2 < 1920 := by
    by_cases h0 : n = 0
    · subst h0; decide
    · have := (Nat.log2_lt h0 (k := 1920)).mpr (Nat.lt_of_lt_of_le h (by decide +kernel))
      exact this
  refine rcl_of call_str_int ⟨n, rfl, hz, ?_⟩
  show VP X H0 σ H ρ Q (.str (PySem.Str.ofString (toString ((n : Nat) : Int)))) H
  rw [num_S]
  exact vp0 R (.str _ (Nat.le_trans (numL_len (k := 18) h (by decide)) (by decide))) q
theorem gc_int {s : List Nat} {n : Int} {Q : QE} (h : PySem.intText? (S s) = some n) (hl : s.length ≤ 640) (q : Q (.int n) ω) : GC X H0 ρ (.type "int") [.str s] ω Q := fun σ H vs R is => by
  obtain ⟨v, rfl, a⟩ := ims1 is
  obtain ⟨rfl, _⟩ := im_str a
  exact rcl_of call_int_str ⟨S s, n, rfl, h, by rw [S_len]; exact hl, vp0 R (.int _) q⟩
theorem gc_intF {s : List Nat} {Q : QE} (h : s.all (fun c => decide (48 ≤ c) && decide (c ≤ 57)) = true) (hne : s ≠ []) (hl : s.length ≤ 640) (q : Q (.int (NumText.digitsVal s : Nat)) ω) : GC X H0 ρ (.type "int") [.str s] ω Q :=
  gc_int (int_S h hne (by omega)) hl q
theorem gc_intI {i : Int} {Q : QE} (q : Q (.int i) ω) : GC X H0 ρ (.type "int") [.int i] ω Q := fun σ H vs R is => by
  obtain ⟨v, rfl, a⟩ := ims1 is
  cases a
  exact rcl_of call_int1 (.inl ⟨i, rfl, vp0 R (.int _) q⟩)
theorem gc_tupL {a : Addr} {ds : List D} {Q : QE} (h : ω a = some (.lst ds)) (q : Q (.tup ds) ω) : GC X H0 ρ (.type "tuple") [.ref a] ω Q := fun σ H vs R is => by
  obtain ⟨v, rfl, i⟩ := ims1 is
  cases i
  obtain ⟨xs, h, r⟩ := R.hr _ _ h
  refine rcl_of call_tuple_of ⟨_, _, rfl, .inl ⟨SqL.of h, fun l hl => ?_⟩⟩
  have e := same_new (o := .tup xs) hl
  exact ⟨tk_same e, _, ω, R.same e, .tup (SqT.of upd_same) (r.mono (tk_same e)), q⟩
theorem gc_tupT {ds : List D} {Q : QE} (q : Q (.tup ds) ω) : GC X H0 ρ (.type "tuple") [.tup ds] ω Q := fun σ H vs R is => by
  obtain ⟨v, rfl, i⟩ := ims1 is
  obtain ⟨b, xs, rfl, h, r⟩ := im_tup i
  exact rcl_of call_tuple_of ⟨_, _, rfl, .inr ⟨h, vp0 R (.tup h r) q⟩⟩
theorem gc_lstT {ds : List D} {Q : QE} (q : ∀ p, ω p = none → Q (.ref p) (put ω p (.lst ds))) : GC X H0 ρ (.type "list") [.tup ds] ω Q := fun σ H vs R is => by
  obtain ⟨v, rfl, i⟩ := ims1 is
  obtain ⟨b, xs, rfl, h, r⟩ := im_tup i
  refine rcl_of call_list_of ⟨_, _, rfl, .inr h, fun l hl => ?_⟩
  have e := same_new (o := .lst xs) hl
  exact ⟨tk_same e, _, _, R.move (tk_same e) (R.hr.new (m := .lst ds) hl ⟨_, upd_same, r.mono (tk_same e)⟩), .ref l, q l (R.hr.free hl)⟩
theorem gc_lstL {a : Addr} {ds : List D} {Q : QE} (h : ω a = some (.lst ds)) (q : ∀ p, ω p = none → Q (.ref p) (put ω p (.lst ds))) : GC X H0 ρ (.type "list") [.ref a] ω Q := fun σ H vs R is => by
  obtain ⟨v, rfl, i⟩ := ims1 is
  cases i
  obtain ⟨xs, h, r⟩ := R.hr _ _ h
  refine rcl_of call_list_of ⟨_, _, rfl, .inl (SqL.of h), fun l hl => ?_⟩
  have e := same_new (o := .lst xs) hl
  exact ⟨tk_same e, _, _, R.move (tk_same e) (R.hr.new (m := .lst ds) hl ⟨_, upd_same, r.mono (tk_same e)⟩), .ref l, q l (R.hr.free hl)⟩
def kindD (ω : Om) : D → Option String
  | .non => some "NoneType" | .bl _ => some "bool" | .int _ => some "int" | .str _ => some "str" | .tup _ => some "tuple"
  | .ref a => match ω a with
    | some (.lst _) => some "list"
    | some (.rol _) => some "list"
    | some (.dct _) => some "dict"
    | _ => none
def isT (T : String) (ω : Om) (d : D) : Option Bool := (kindD ω d).map fun k => decide (k = T) || (decide (k = "bool") && decide (T = "int"))
def kinds : List String := ["NoneType", "bool", "int", "str", "tuple", "list", "dict"]
def types : List String := ["str", "int", "bool", "tuple", "list"]
theorem kind_in {d : D} {k : String} (h : kindD ω d = some k) : k ∈ kinds := by
  cases d with
  | ref a =>
    have h' : (match ω a with
      | some (.lst _) => some "list"
      | some (.rol _) => some "list"
      | some (.dct _) => some "dict"
      | _ => none) = some k := h
    split at h' <;> cases h' <;> decide
  | _ => cases h <;> decide
theorem kit_tab : kinds.all (fun k => types.all fun T => L2.kitB k T == some (decide (k = T) || (decide (k = "bool") && decide (T = "int")))) = true := by decide +kernel
theorem kit_at {k T : String} (h : k ∈ kinds) (hT : T ∈ types) : L2.kitB k T = some (decide (k = T) || (decide (k = "bool") && decide (T = "int"))) := by
  have h1 := List.all_eq_true.mp kit_tab k h
  have h2 := List.all_eq_true.mp h1 T hT
  exact eq_of_beq h2
theorem tyx_of {σ : St} {H : Hp} {v : V} {d : D} {k : String} (R : Rel X.K H0 σ H ρ ω) (i : Im X.K H v d) (h : kindD ω d = some k) : TyX X.K H v (.type k) := by
  cases i with
  | non => cases h; exact .base .non
  | bl b => cases h; exact .base (.bl b)
  | int b => cases h; exact .base (.int b)
  | str b _ => cases h; exact .base (.str _)
  | tup q r =>
    cases h
    rcases q with (q | ⟨o, q⟩) | ⟨o, its, n, q, c, _⟩
    · exact .base (.tup q)
    · exact .fTuple q
    · exact .kTuple q c
  | ref a =>
    have h' : (match ω a with
      | some (.lst _) => some "list"
      | some (.rol _) => some "list"
      | some (.dct _) => some "dict"
      | _ => none) = some k := h
    split at h'
    · rename_i ds w
      obtain ⟨xs, q, r⟩ := R.hr _ _ w
      cases h'; exact .base (.lst q)
    · rename_i ds w
      obtain ⟨xs, q | ⟨o, q⟩, r⟩ := R.hr _ _ w
      · cases h'; exact .base (.lst q)
      · cases h'; exact .base (.frz q)
    · rename_i ds w
      obtain ⟨xs, q, r⟩ := R.hr _ _ w
      cases h'; exact .base (.dK q)
    · cases h'
theorem ge_isi {e : Expr} {T : String} {x y : Str} {p p2 pos : Pos} {Q : QE} (hm : X.mg x = none) (hg : Gl X x) (hv : bootBuiltins x = some (.builtin "isinstance")) (hm2 : X.mg y = none) (hg2 : Gl X y) (hv2 : bootBuiltins y = some (.type T)) (hT : T ∈ types)
    (h : GE X H0 e ρ ω fun d ω1 => ∃ b, isT T ω1 d = some b ∧ Q (.bl b) ω1) (hn : x ≠ "__name__" := by decide) (hdb : (x == ("__debug__" : Str)) = false := by decide) (hn2 : y ≠ "__name__" := by decide) (hdb2 : (y == ("__debug__" : Str)) = false := by decide)
    (he : starEach (e :: [.Name y p2]) X.env = (false, eval e X.env) :: starEach [.Name y p2] X.env := by rfl) (he2 : starEach [.Name y p2] X.env = (false, eval (.Name y p2) X.env) :: starEach [] X.env := by rfl) (hpl : (backTo pos (starEach [.Name y p2] X.env)).any (·.1) = false := by rfl) : GE X H0 (.Call (.Name x p) [e, .Name y p2] [] pos) ρ ω Q := fun σ H R =>
  we_of (pe_callB call_isi hg hm hv (pa_cons pe_we (pa_cons (pe_bltn (v := .ty T) hg2 hm2 hv2 rfl hn2 hdb2) pa_nil he2) he) hn hdb he hpl)
    (thnE (h σ H R) fun v H1 ⟨t, d, w, R1, i, b, e1, q⟩ => by
      cases hk : kindD w d with
      | none => unfold isT at e1; rw [hk] at e1; cases e1
      | some k =>
        unfold isT at e1
        rw [hk] at e1
        cases e1
        exact ⟨v, .ty T, .type k, .type T, _, rfl, .ty T, tyx_of R1 i hk, kit_ty (kit_at (kind_in hk) hT), t, _, w, R1, .bl _, q⟩)
def RI (X : Cx) : R2 := fun x y H Q => ∀ (value slice : Expr) (pins : List (Addr × Obj)) (s : Shared) (σ : St) (v u : Value), Inv X pins σ H s → RelV x v → RelV y u → subscripted slice false v u = operate [v, u] (getItem v u) → wpAny (model X.prog X.w) X.A (PyProof.Rows.subscriptTail value slice v u) (EP X pins σ Q) X.xe s
theorem ix_ri (X : Cx) : IxR X (RI X) := fun value slice pins s σ _ _ _ v u _ I rx ry h hs => h value slice pins s σ v u I rx ry hs
theorem ri_of {r : R2} (h : IxR X r) {x y : V} {H : Hp} {Q : VK} (q : r x y H Q) : RI X x y H Q := fun value slice pins s σ v u I rx ry hs => h value slice pins s σ H x y v u Q I rx ry q hs
theorem ri_mono {x y : V} {H : Hp} {Q Q' : VK} (h : RI X x y H Q) (k : ∀ v H', Q v H' → Q' v H') : RI X x y H Q' := fun value slice pins s σ v u I rx ry hs =>
  thn (h value slice pins s σ v u I rx ry hs) fun _ _ ⟨v, H', J, r, q⟩ => ⟨v, H', J, r, k v H' q⟩
def GI (X : Cx) (H0 : Hp) (ρ : Rho) (a b : D) (ω : Om) (Q : QE) : Prop := ∀ σ H x y, Rel X.K H0 σ H ρ ω → Im X.K H x a → Im X.K H y b → RI X x y H (VP X H0 σ H ρ Q)
theorem ge_ix {a b : Expr} {pos : Pos} {Q : QE} (hs : PlainIx b) (h : GE X H0 a ρ ω fun da ω1 => GE X H0 b ρ ω1 fun db ω2 => GI X H0 ρ da db ω2 Q) : GE X H0 (.Subscript a b pos) ρ ω Q := fun σ H R =>
  we_of (pe_ix (ix_ri X) pe_we pe_we hs) (thnE (h σ H R) fun x H1 ⟨t1, da, ω1, R1, i1, h1⟩ => thnE (h1 σ H1 R1) fun y H2 ⟨t2, db, ω2, R2, i2, h2⟩ => ri_mono (h2 σ H2 x y R2 (i1.mono t2) i2) (vp_back (t1.trans t2)))
theorem atI_get {α β : Type} {xs : List α} {ys : List β} (h : xs.length = ys.length) {i : Int} {y : β} (e : atI ys i = some y) : ∃ j, ixN ys.length i = some j ∧ ys[j]? = some y ∧ ixN xs.length i = some j := by
  unfold atI at e
  cases q : ixN ys.length i with
  | none => rw [q] at e; cases e
  | some j => rw [q] at e; exact ⟨j, rfl, e, by rw [h]; exact q⟩
theorem gi_tup {ds : List D} {i : Int} {d : D} {Q : QE} (e : atI ds i = some d) (q : Q d ω) : GI X H0 ρ (.tup ds) (.int i) ω Q := fun σ H x y R hx hy => by
  obtain ⟨a, xs, rfl, h, r⟩ := im_tup hx
  cases hy
  obtain ⟨j, h1, h2, h3⟩ := atI_get r.length e
  obtain ⟨v, g1, g2⟩ := r.get h2
  exact ri_of ix_tup ⟨a, xs, i, v, rfl, rfl, h, by unfold atI; rw [h3]; exact g1, vp0 R g2 q⟩
theorem gi_lst {a : Addr} {ds : List D} {i : Int} {d : D} {Q : QE} (w : ω a = some (.lst ds)) (e : atI ds i = some d) (q : Q d ω) : GI X H0 ρ (.ref a) (.int i) ω Q := fun σ H x y R hx hy => by
  cases hx; cases hy
  obtain ⟨xs, h, r⟩ := R.hr _ _ w
  obtain ⟨j, h1, h2, h3⟩ := atI_get r.length e
  obtain ⟨v, g1, g2⟩ := r.get h2
  exact ri_of ix_list ⟨a, xs, i, v, rfl, rfl, SqL.of h, by unfold atI; rw [h3]; exact g1, vp0 R g2 q⟩
theorem gi_rol {a : Addr} {ds : List D} {i : Int} {d : D} {Q : QE} (w : ω a = some (.rol ds)) (e : atI ds i = some d) (q : Q d ω) : GI X H0 ρ (.ref a) (.int i) ω Q := fun σ H x y R hx hy => by
  cases hx; cases hy
  obtain ⟨xs, h, r⟩ := R.hr _ _ w
  obtain ⟨j, h1, h2, h3⟩ := atI_get r.length e
  obtain ⟨v, g1, g2⟩ := r.get h2
  exact ri_of ix_list ⟨a, xs, i, v, rfl, rfl, .inl h, by unfold atI; rw [h3]; exact g1, vp0 R g2 q⟩
theorem gi_str {s : List Nat} {i : Int} {c : Nat} {Q : QE} (e : atI s i = some c) (q : Q (.str [c]) ω) : GI X H0 ρ (.str s) (.int i) ω Q := fun σ H x y R hx hy => by
  obtain ⟨rfl, hl⟩ := im_str hx
  cases hy
  exact ri_of ix_str ⟨S s, i, c, rfl, rfl, by rw [S_len]; exact hl, e, vp0 R (.str [c] (by show 1 ≤ sizeLine; decide)) q⟩
def RS (X : Cx) : V → Option Int → Option Int → Hp → VK → Prop := fun x lo hi H Q => ∀ (pins : List (Addr × Obj)) (s : Shared) (σ : St) (v vl vu : Value) (sl : Addr), Inv X pins σ H s → RelV x v → s.heap.IsSliceOf sl vl vu .none → IsPart vl lo → IsPart vu hi →
    ∃ T id, typeLookup (.type T) "__getitem__" = pure (some (.builtin id)) ∧ s.TypeIs v T ∧ wpAny (model X.prog X.w) X.A (getItem v (.ref sl)) (EP X pins σ Q) X.xe s
theorem sl_rs (X : Cx) : SlR X (RS X) := fun pins s σ _ _ v vl vu _ _ sl _ I rx hs pl pu h => h pins s σ v vl vu sl I rx hs pl pu
theorem rs_of {r : V → Option Int → Option Int → Hp → VK → Prop} (h : SlR X r) {x : V} {lo hi : Option Int} {H : Hp} {Q : VK} (q : r x lo hi H Q) : RS X x lo hi H Q := fun pins s σ v vl vu sl I rx hs pl pu => h pins s σ H x v vl vu lo hi sl Q I rx hs pl pu q
theorem rs_mono {x : V} {lo hi : Option Int} {H : Hp} {Q Q' : VK} (h : RS X x lo hi H Q) (k : ∀ v H', Q v H' → Q' v H') : RS X x lo hi H Q' := fun pins s σ v vl vu sl I rx hs pl pu => by
  obtain ⟨T, id, a, b, c⟩ := h pins s σ v vl vu sl I rx hs pl pu
  exact ⟨T, id, a, b, thn c fun _ _ ⟨v, H', J, r, q⟩ => ⟨v, H', J, r, k v H' q⟩⟩
def GL (X : Cx) (H0 : Hp) (ρ : Rho) (a : D) (lo hi : Option Int) (ω : Om) (Q : QE) : Prop := ∀ σ H x, Rel X.K H0 σ H ρ ω → Im X.K H x a → RS X x lo hi H (VP X H0 σ H ρ Q)
theorem thnO {o : Option Expr} {σ : St} {H : Hp} {Q Q' : Option Int → Hp → Prop} (h : WO X o σ H Q) (k : ∀ v H', Q v H' → Q' v H') : WO X o σ H Q' := ⟨fun pins s I =>
  thn (h pins s I) fun _ _ ⟨v, H', J, r, q⟩ => ⟨v, H', J, r, k v H' q⟩⟩
theorem go_none {Q : Option Int → Om → Prop} (q : Q none ω) : GO X H0 none ρ ω Q := fun σ H R => wo_of po_none ⟨TK.refl H, ω, R, q⟩
theorem go_some {e : Expr} {Q : Option Int → Om → Prop} (h : GE X H0 e ρ ω fun d ω1 => ∃ i, d = .int i ∧ Q (some i) ω1) : GO X H0 (some e) ρ ω Q := fun σ H R =>
  wo_of (po_some pe_we) (thnE (h σ H R) fun v H1 ⟨t, d, w, R1, i, k, e, q⟩ => by subst e; cases i; exact ⟨k, rfl, t, w, R1, q⟩)
theorem ge_slice {e : Expr} {lo hi : Option Expr} {p2 pos : Pos} {Q : QE} (h : GE X H0 e ρ ω fun d ω1 => GO X H0 lo ρ ω1 fun l ω2 => GO X H0 hi ρ ω2 fun u ω3 => GL X H0 ρ d l u ω3 Q) : GE X H0 (.Subscript e (.Slice lo hi none p2) pos) ρ ω Q := fun σ H R =>
  we_of (pe_slice (sl_rs X) pe_we po_wo po_wo) (thnE (h σ H R) fun x H1 ⟨t1, d, ω1, R1, i1, h1⟩ => thnO (h1 σ H1 R1) fun l H2 ⟨t2, ω2, R2, h2⟩ => thnO (h2 σ H2 R2) fun u H3 ⟨t3, ω3, R3, h3⟩ =>
    rs_mono (h3 σ H3 x R3 ((i1.mono t2).mono t3)) (vp_back ((t1.trans t2).trans t3)))
def cutL (l : List Nat) (lo hi : Option Int) : List Nat := (l.drop (HT.sIx l.length 0 lo)).take (HT.sIx l.length l.length hi - HT.sIx l.length 0 lo)
theorem cutS_S (l : List Nat) (lo hi : Option Int) : cutS (S l) lo hi = S (cutL l lo hi) := by
  unfold cutS cutL
  rw [S_len]
theorem cutL_le (l : List Nat) (lo hi : Option Int) : (cutL l lo hi).length ≤ l.length := by
  unfold cutL
  rw [List.length_take, List.length_drop]
  omega
theorem cutL_to (l : List Nat) (k : Nat) : cutL l none (some (k : Int)) = l.take k := by
  unfold cutL
  rw [HT.sIx_none, HT.sIx_nat]
  simp
theorem cutL_from (l : List Nat) (k : Nat) : cutL l (some (k : Int)) none = l.drop k := by
  unfold cutL
  rw [HT.sIx_none, HT.sIx_nat, List.take_of_length_le (by rw [List.length_drop]; omega)]
  by_cases h : k ≤ l.length
  · rw [Nat.min_eq_left h]
  · rw [Nat.min_eq_right (by omega), List.drop_length, List.drop_of_length_le (by omega)]
theorem cutL_mid (l : List Nat) (i j : Nat) : cutL l (some (i : Int)) (some (j : Int)) = (l.take j).drop i := by
  unfold cutL
  rw [HT.sIx_nat, HT.sIx_nat, List.drop_take]
  by_cases h : i ≤ l.length
  · rw [Nat.min_eq_left h]
    by_cases hj : j ≤ l.length
    · rw [Nat.min_eq_left hj]
    · rw [Nat.min_eq_right (by omega), List.take_of_length_le (by rw [List.length_drop]; omega), List.take_of_length_le (by rw [List.length_drop]; omega)]
  · rw [Nat.min_eq_right (a := i) (by omega), List.drop_length, List.drop_of_length_le (show l.length ≤ i by omega)]
    simp
theorem gl_str {s : List Nat} {lo hi : Option Int} {Q : QE} (q : Q (.str (cutL s lo hi)) ω) : GL X H0 ρ (.str s) lo hi ω Q := fun σ H x R hx => by
  obtain ⟨rfl, hl⟩ := im_str hx
  refine rs_of sl_str ⟨S s, rfl, by rw [S_len]; exact hl, ?_⟩
  rw [cutS_S]
  exact vp0 R (.str _ (Nat.le_trans (cutL_le _ _ _) hl)) q
def cutD (xs : List D) (lo hi : Option Int) : List D := (xs.drop (HT.sIx xs.length 0 lo)).take (HT.sIx xs.length xs.length hi - HT.sIx xs.length 0 lo)
theorem Ims.cut {K : PySem.W.Frag} {H : Hp} {vs : List V} {ds : List D} (r : Ims K H vs ds) (lo hi : Option Int) : Ims K H (cutV vs lo hi) (cutD ds lo hi) := by
  unfold cutV cutD
  rw [r.length]
  exact (r.drop _).take _
theorem cutD_whole {xs : List D} {lo hi : Option Int} (h : HT.sIx xs.length 0 lo = 0 ∧ HT.sIx xs.length xs.length hi = xs.length) : cutD xs lo hi = xs := by
  unfold cutD
  rw [h.1, h.2]
  simp
theorem gl_tup {ds : List D} {lo hi : Option Int} {Q : QE} (q : Q (.tup (cutD ds lo hi)) ω) : GL X H0 ρ (.tup ds) lo hi ω Q := fun σ H x R hx => by
  obtain ⟨a, xs, rfl, h, r⟩ := im_tup hx
  refine rs_of sl_tupA ⟨a, xs, rfl, h, fun hw => ?_, fun hw p hp => ?_⟩
  · rw [r.length] at hw
    rw [cutD_whole hw] at q
    exact vp0 R (.tup h r) q
  · have e := same_new (o := .tup (cutV xs lo hi)) hp
    exact ⟨tk_same e, _, ω, R.same e, .tup (SqT.of upd_same) ((r.cut lo hi).mono (tk_same e)), q⟩
theorem gl_lst {a : Addr} {ds : List D} {lo hi : Option Int} {Q : QE} (w : ω a = some (.lst ds)) (q : ∀ p, ω p = none → Q (.ref p) (put ω p (.lst (cutD ds lo hi)))) : GL X H0 ρ (.ref a) lo hi ω Q := fun σ H x R hx => by
  cases hx
  obtain ⟨xs, h, r⟩ := R.hr _ _ w
  refine rs_of sl_list ⟨a, xs, rfl, SqL.of h, fun p hp => ?_⟩
  have e := same_new (o := .lst (cutV xs lo hi)) hp
  exact ⟨tk_same e, _, _, R.move (tk_same e) (R.hr.new (m := .lst (cutD ds lo hi)) hp ⟨_, upd_same, (r.cut lo hi).mono (tk_same e)⟩), .ref p, q p (R.hr.free hp)⟩
def RM (X : Cx) (id : String) : V → List V → Hp → VK → Prop := fun x xs H Q => ∀ (pins : List (Addr × Obj)) (s : Shared) (σ : St) (v : Value) (us : List Value), Inv X pins σ H s → RelV x v → Vals xs us → wpAny (model X.prog X.w) X.A (call (.builtin id) (v :: us)) (EP X pins σ Q) X.xe s
theorem mt_rm (X : Cx) (id : String) : MtR X id (RM X id) := fun pins s σ _ _ _ v us _ I rx rs h => h pins s σ v us I rx rs
theorem rm_of {id : String} {r : V → List V → Hp → VK → Prop} (h : MtR X id r) {x : V} {xs : List V} {H : Hp} {Q : VK} (q : r x xs H Q) : RM X id x xs H Q := fun pins s σ v us I rx rs => h pins s σ H x xs v us Q I rx rs q
theorem rm_ofS {id : String} {r : St → V → List V → Hp → VK → Prop} (h : MtS X id r) {x : V} {xs : List V} {H : Hp} {Q : VK} (q : ∀ σ, r σ x xs H Q) : RM X id x xs H Q := fun pins s σ v us I rx rs => h pins s σ H x xs v us Q I rx rs (q σ)
theorem rm_mono {id : String} {x : V} {xs : List V} {H : Hp} {Q Q' : VK} (h : RM X id x xs H Q) (k : ∀ v H', Q v H' → Q' v H') : RM X id x xs H Q' := fun pins s σ v us I rx rs =>
  thn (h pins s σ v us I rx rs) fun _ _ ⟨v, H', J, r, q⟩ => ⟨v, H', J, r, k v H' q⟩
def tyD (ω : Om) (T : String) (d : D) : Prop := match d with
  | .str _ => T = "str"
  | .ref a => (T = "list" ∧ ∃ ds, ω a = some (.lst ds)) ∨ (T = "dict" ∧ ∃ kvs, ω a = some (.dct kvs))
  | _ => False
theorem ty_of {σ : St} {H : Hp} {v : V} {d : D} {T : String} (R : Rel X.K H0 σ H ρ ω) (i : Im X.K H v d) (h : tyD ω T d) : tyV X.K T v H := by
  cases i with
  | str s _ => exact h
  | ref a =>
    rcases h with ⟨e, ds, w⟩ | ⟨e, ds, w⟩
    · obtain ⟨xs, q, _⟩ := R.hr _ _ w
      exact .inl ⟨e, xs, SqL.of q⟩
    · obtain ⟨xs, q, _⟩ := R.hr _ _ w
      exact .inr (.inr (.inl ⟨e, .inl ⟨xs, q⟩⟩))
  | _ => exact h.elim
def GM (X : Cx) (H0 : Hp) (ρ : Rho) (id : String) (d : D) (ds : List D) (ω : Om) (Q : QE) : Prop := ∀ σ H x xs, Rel X.K H0 σ H ρ ω → Im X.K H x d → Ims X.K H xs ds → RM X id x xs H (VP X H0 σ H ρ Q)
theorem ge_bm {o e : Expr} {es : List Expr} {name : Str} {apos cpos : Pos} {T id : String} {Q : QE} (pa : PlainAttrs T) (slot : Slot T name id) (hty : typeOf (.builtin id) = pure (.type "method_descriptor"))
    (h : GE X H0 o ρ ω fun d ω1 => tyD ω1 T d ∧ GA X H0 (e :: es) ρ ω1 fun ds ω2 => GM X H0 ρ id d ds ω2 Q)
    (hbase : attributeBase o name X.env (eval o X.env) = eval o X.env := by rfl)
    (hfew : ((backTo cpos (starEach (e :: es) X.env)).all (fun x => !x.1) && (backToKw cpos (keywordEach [] X.env)).all (fun x => x.1.isSome)
      && decide ((e :: es).length + ([] : List Keyword).length + (if ([] : List Keyword).isEmpty then 0 else 1) < 30)) = true := by rfl)
    (hline : (apos.endLine == cpos.line) = true := by rfl) (hs : starEach (e :: es) X.env = (false, eval e X.env) :: starEach es X.env := by rfl) (hplain : (backTo cpos (starEach es X.env)).any (·.1) = false := by rfl) :
    GE X H0 (.Call (.Attribute o name apos) (e :: es) [] cpos) ρ ω Q := fun σ H R =>
  we_of (pe_bm pa slot hty (mt_rm X id) pe_we pa_wa hbase hfew hline hs hplain) (thnE (h σ H R) fun x H1 ⟨t1, d, ω1, R1, i1, ty, h1⟩ => ⟨ty_of R1 i1 ty, thnA (h1 σ H1 R1) fun xs H2 ⟨t2, ds, ω2, R2, is, h2⟩ =>
    rm_mono (h2 σ H2 x xs R2 (i1.mono t2) is) (vp_back (t1.trans t2))⟩)
theorem ge_bm0 {o : Expr} {name : Str} {apos cpos : Pos} {T id : String} {Q : QE} (pa : PlainAttrs T) (slot : Slot T name id) (hty : typeOf (.builtin id) = pure (.type "method_descriptor"))
    (h : GE X H0 o ρ ω fun d ω1 => tyD ω1 T d ∧ GM X H0 ρ id d [] ω1 Q)
    (hbase : attributeBase o name X.env (eval o X.env) = eval o X.env := by rfl) (hline : (apos.endLine == cpos.line) = true := by rfl) :
    GE X H0 (.Call (.Attribute o name apos) [] [] cpos) ρ ω Q := fun σ H R =>
  we_of (pe_bm0 pa slot hty (mt_rm X id) pe_we hbase hline) (thnE (h σ H R) fun x H1 ⟨t1, d, ω1, R1, i1, ty, h1⟩ => ⟨ty_of R1 i1 ty, rm_mono (h1 σ H1 x [] R1 i1 .nil) (vp_back t1)⟩)
theorem gm_count {a : List Nat} {c : Nat} {Q : QE} (q : Q (.int (a.count c : Nat)) ω) : GM X H0 ρ "str.count" (.str a) [.str [c]] ω Q := fun σ H x xs R hx hs => by
  obtain ⟨rfl, ha⟩ := im_str hx
  obtain ⟨v, rfl, i⟩ := ims1 hs
  obtain ⟨rfl, hb⟩ := im_str i
  refine rm_of mt_count ⟨S a, S [c], rfl, rfl, ?_⟩
  rw [count_S]
  exact vp0 R (.int _) q
theorem gm_startswith {a b : List Nat} {Q : QE} (q : Q (.bl (a.take b.length == b)) ω) : GM X H0 ρ "str.startswith" (.str a) [.str b] ω Q := fun σ H x xs R hx hs => by
  obtain ⟨rfl, ha⟩ := im_str hx
  obtain ⟨v, rfl, i⟩ := ims1 hs
  obtain ⟨rfl, hb⟩ := im_str i
  refine rm_of mt_startswith ⟨S a, S b, rfl, rfl, ?_⟩
  rw [startswith_S]
  exact vp0 R (.bl _) q
theorem gm_strip {a b : List Nat} {Q : QE} (q : Q (.str (stripL b a)) ω) : GM X H0 ρ "str.strip" (.str a) [.str b] ω Q := fun σ H x xs R hx hs => by
  obtain ⟨rfl, ha⟩ := im_str hx
  obtain ⟨v, rfl, i⟩ := ims1 hs
  obtain ⟨rfl, hb⟩ := im_str i
  refine rm_of mt_stripChars ⟨S a, S b, rfl, rfl, by rw [S_len]; exact ha, ?_⟩
  rw [strip_S]
  exact vp0 R (.str _ (Nat.le_trans (stripL_len _ _) ha)) q
theorem gm_lstrip {a b : List Nat} {Q : QE} (q : Q (.str (lstripL b a)) ω) : GM X H0 ρ "str.lstrip" (.str a) [.str b] ω Q := fun σ H x xs R hx hs => by
  obtain ⟨rfl, ha⟩ := im_str hx
  obtain ⟨v, rfl, i⟩ := ims1 hs
  obtain ⟨rfl, hb⟩ := im_str i
  refine rm_of mt_lstripChars ⟨S a, S b, rfl, rfl, by rw [S_len]; exact ha, ?_⟩
  rw [lstrip_S]
  exact vp0 R (.str _ (Nat.le_trans (lstripL_len _ _) ha)) q
theorem gm_zfill {a b : List Nat} {n : Int} {Q : QE} (h : PadOk n = true) (e : Txt.zfill (S a) n = S b) (hl : b.length ≤ sizeLine) (q : Q (.str b) ω) : GM X H0 ρ "str.zfill" (.str a) [.int n] ω Q := fun σ H x xs R hx hs => by
  obtain ⟨rfl, ha⟩ := im_str hx
  obtain ⟨v, rfl, i⟩ := ims1 hs
  cases i
  refine rm_of mt_zfill ⟨S a, n, rfl, rfl, h, ?_⟩
  rw [e]
  exact vp0 R (.str _ hl) q
theorem gm_index {a : List Nat} {c k : Nat} {Q : QE} (hc : X.calm = true) (h : a.findIdx? (· == c) = some k) (q : Q (.int k) ω) : GM X H0 ρ "str.index" (.str a) [.str [c]] ω Q := fun σ H x xs R hx hs => by
  obtain ⟨rfl, ha⟩ := im_str hx
  obtain ⟨v, rfl, i⟩ := ims1 hs
  obtain ⟨rfl, hb⟩ := im_str i
  refine rm_ofS (mt_indexX hc takes0) fun σ' => ⟨S a, S [c], rfl, rfl, fun k' e => ?_, fun e => ?_⟩
  · rw [index_S, h] at e; cases e; exact vp0 R (.int _) q
  · rw [index_S, h] at e; cases e
theorem gm_find {a : List Nat} {c : Nat} {n : Int} {lo : Nat} {Q : QE} (hn : n = (lo : Int)) (h : lo ≤ a.length) (q : Q (.int (findL a c lo)) ω) : GM X H0 ρ "str.find" (.str a) [.str [c], .int n] ω Q := fun σ H x xs R hx hs => by
  subst hn
  obtain ⟨rfl, ha⟩ := im_str hx
  obtain ⟨v, u, rfl, i, j⟩ := ims2 hs
  obtain ⟨rfl, hb⟩ := im_str i
  cases j
  refine rm_of mt_find3 ⟨S a, S [c], lo, rfl, rfl, ?_⟩
  rw [find_S _ _ _ h]
  exact vp0 R (.int _) q
theorem gm_partition {a b : List Nat} {Q : QE} (h : b ≠ []) (q : Q (.tup [.str (partL b a).1, .str (partL b a).2.1, .str (partL b a).2.2]) ω) : GM X H0 ρ "str.partition" (.str a) [.str b] ω Q := fun σ H x xs R hx hs => by
  obtain ⟨rfl, ha⟩ := im_str hx
  obtain ⟨v, rfl, i⟩ := ims1 hs
  obtain ⟨rfl, hb⟩ := im_str i
  refine rm_of mt_partition ⟨S a, S b, rfl, rfl, (by
    rw [S_len]
    cases b with
    | nil => exact absurd rfl h
    | cons c r => rfl), by rw [S_len]; exact ha, fun p hp => ?_⟩
  rw [partition_S h]
  have hp3 := partL_len b a
  have e := same_new (o := .tup [V.str (S (partL b a).1), .str (S (partL b a).2.1), .str (S (partL b a).2.2)]) hp
  exact ⟨tk_same e, _, ω, R.same e, .tup (SqT.of upd_same) (.cons (.str _ (Nat.le_trans hp3.1 ha)) (.cons (.str _ (Nat.le_trans hp3.2.1 hb)) (.cons (.str _ (Nat.le_trans hp3.2.2 ha)) .nil))), q⟩
theorem Ims.of_strs {K : PySem.W.Frag} {H : Hp} : ∀ {ys : List (List Nat)}, (∀ y ∈ ys, y.length ≤ sizeLine) → Ims K H ((ys.map S).map V.str) (ys.map D.str)
  | [], _ => .nil
  | y :: r, h => .cons (.str y (h y List.mem_cons_self)) (Ims.of_strs fun z hz => h z (List.mem_cons_of_mem _ hz))
theorem gm_split {a b : List Nat} {Q : QE} (h : b ≠ []) (hk : b.all (· < 256) = true) (hl : a.length + 2 ≤ sizeLine) (q : ∀ p, ω p = none → Q (.ref p) (put ω p (.lst ((splL b a).map D.str)))) : GM X H0 ρ "str.split" (.str a) [.str b] ω Q := fun σ H x xs R hx hs => by
  obtain ⟨rfl, ha⟩ := im_str hx
  obtain ⟨v, rfl, i⟩ := ims1 hs
  obtain ⟨rfl, hb⟩ := im_str i
  refine rm_of mt_split ⟨S a, S b, rfl, rfl, (by
    rw [S_len]
    cases b with
    | nil => exact absurd rfl h
    | cons c r => rfl), by rw [S_len]; exact hl, fun p hp => ?_⟩
  rw [split_S h hk]
  have e := same_new (o := .lst (((splL b a).map S).map V.str)) hp
  exact ⟨tk_same e, _, _, R.move (tk_same e) (R.hr.new (m := .lst ((splL b a).map D.str)) hp ⟨_, upd_same, Ims.of_strs fun y hy => Nat.le_trans (splL_len hy) ha⟩), .ref p, q p (R.hr.free hp)⟩
theorem sum_lens : ∀ ys : List (List Nat), ((ys.map S).map (·.length)).sum = (ys.map (·.length)).sum
  | [] => rfl
  | y :: r => by
    have := sum_lens r
    simp only [List.map_cons, List.sum_cons, S_len]
    rw [this]
theorem gm_joinL {a : List Nat} {l : Addr} {ys : List (List Nat)} {Q : QE} (w : ω l = some (.lst (ys.map D.str))) (hz : (ys.map (·.length)).sum + ys.length * a.length ≤ 16777216) (q : Q (.str (joinL a ys)) ω) : GM X H0 ρ "str.join" (.str a) [.ref l] ω Q := fun σ H x xs R hx hs => by
  obtain ⟨rfl, ha⟩ := im_str hx
  obtain ⟨v, rfl, i⟩ := ims1 hs
  cases i
  obtain ⟨zs, h, r⟩ := R.hr _ _ w
  rw [r.strs] at h
  refine rm_of mt_join ⟨S a, l, ys.map S, rfl, rfl, .inl (SqL.of h), by rw [sum_lens, List.length_map, S_len]; exact hz, ?_⟩
  rw [join_S]
  exact vp0 R (.str _ (Nat.le_trans (joinL_len _ _) (by rw [sizeLine_eq]; exact hz))) q
theorem gm_append {l : Addr} {ds : List D} {d : D} {Q : QE} (w : ω l = some (.lst ds)) (hl : ds.length < sizeLine) (q : Q .non (put ω l (.lst (ds ++ [d])))) : GM X H0 ρ "list.append" (.ref l) [d] ω Q := fun σ H x xs R hx hs => by
  cases hx
  obtain ⟨v, rfl, i⟩ := ims1 hs
  obtain ⟨zs, h, r⟩ := R.hr _ _ w
  have t := tk_upd (K := X.K) (o' := .lst (zs ++ [v])) h trivial
  refine rm_of (show MtR X "list.append" rAppend from mt_append) ⟨l, zs, v, rfl, rfl, h, by rw [r.length]; exact hl, ?_⟩
  exact ⟨t, .non, _, R.move t (R.hr.put (m := .lst (ds ++ [d])) h trivial ⟨_, upd_same, (r.append (.cons i .nil)).mono t⟩), .non, q⟩
end
end Q2
namespace Q2
open PySem PySem.Spec L2 SX
section
variable {X : Cx} {H0 : Hp} {ρ : Rho} {ω ω' : Om} {P : GP}
theorem thnS {st : Stmt} {σ : St} {H H1 : Hp} {P : GP} (t : TK X.K H H1) (h : WS X st (EN X H0 H1 P) σ H1) : WS X st (EN X H0 H P) σ H1 := ⟨fun pins s I => thn (h pins s I) (en_back t)⟩
theorem thnSs {st : List Stmt} {σ : St} {H H1 : Hp} {P : GP} (t : TK X.K H H1) (h : WSs X st (EN X H0 H1 P) σ H1) : WSs X st (EN X H0 H P) σ H1 := ⟨fun pins s I => thn (h pins s I) (en_back t)⟩
theorem gss_nil (q : P.nx ρ ω) : GSs X H0 [] ρ ω P := fun σ H R => wss_of pss_nil ⟨TK.refl H, ρ, ω, R, q⟩
theorem gss_cons {st : Stmt} {rest : List Stmt} (h : GS X H0 st ρ ω { P with nx := fun ρ1 ω1 => GSs X H0 rest ρ1 ω1 P }) : GSs X H0 (st :: rest) ρ ω P := fun σ H R => by
  refine wss_of (pss_cons ps_ws pss_ws) ?_
  show WS X st { EN X H0 H P with nx := WSs X rest (EN X H0 H P) } σ H
  refine ⟨fun pins s I => ?_⟩
  refine thn ((h σ H R).go pins s I) (ends_mono (fun σ1 H1 ⟨t, ρ1, ω1, R1, q⟩ => ?_) (fun _ _ q => q) (fun _ _ q => q) fun _ _ q => q)
  exact thnSs t (q σ1 H1 R1)
theorem gss_one {st : Stmt} (h : GS X H0 st ρ ω P) : GSs X H0 [st] ρ ω P := fun σ H R => wss_of (pss_one ps_ws) (h σ H R)
theorem GS.imp {st : Stmt} {P P' : GP} (h : GS X H0 st ρ ω P) (h1 : ∀ ρ ω, P.nx ρ ω → P'.nx ρ ω) (h2 : ∀ d ω, P.rt d ω → P'.rt d ω) (h3 : ∀ ρ ω, P.bk ρ ω → P'.bk ρ ω) (h4 : ∀ ρ ω, P.ct ρ ω → P'.ct ρ ω) : GS X H0 st ρ ω P' := fun σ H R => ⟨fun pins s I =>
  thn ((h σ H R).go pins s I) (ends_mono (fun _ _ ⟨t, a, b, R, q⟩ => ⟨t, a, b, R, h1 _ _ q⟩) (fun _ _ ⟨t, t2, a, b, R, i, q⟩ => ⟨t, t2, a, b, R, i, h2 _ _ q⟩) (fun _ _ ⟨t, a, b, R, q⟩ => ⟨t, a, b, R, h3 _ _ q⟩) fun _ _ ⟨t, a, b, R, q⟩ => ⟨t, a, b, R, h4 _ _ q⟩)⟩
theorem GSs.imp {st : List Stmt} {P P' : GP} (h : GSs X H0 st ρ ω P) (h1 : ∀ ρ ω, P.nx ρ ω → P'.nx ρ ω) (h2 : ∀ d ω, P.rt d ω → P'.rt d ω) (h3 : ∀ ρ ω, P.bk ρ ω → P'.bk ρ ω) (h4 : ∀ ρ ω, P.ct ρ ω → P'.ct ρ ω) : GSs X H0 st ρ ω P' := fun σ H R => ⟨fun pins s I =>
  thn ((h σ H R).go pins s I) (ends_mono (fun _ _ ⟨t, a, b, R, q⟩ => ⟨t, a, b, R, h1 _ _ q⟩) (fun _ _ ⟨t, t2, a, b, R, i, q⟩ => ⟨t, t2, a, b, R, i, h2 _ _ q⟩) (fun _ _ ⟨t, a, b, R, q⟩ => ⟨t, a, b, R, h3 _ _ q⟩) fun _ _ ⟨t, a, b, R, q⟩ => ⟨t, a, b, R, h4 _ _ q⟩)⟩
theorem gss_cut {st : Stmt} {rest : List Stmt} (M : Rho → Om → Prop) (h : GS X H0 st ρ ω { P with nx := M }) (k : ∀ ρ1 ω1, M ρ1 ω1 → GSs X H0 rest ρ1 ω1 P) : GSs X H0 (st :: rest) ρ ω P :=
  gss_cons (h.imp k (fun _ _ q => q) (fun _ _ q => q) fun _ _ q => q)
theorem gs_pass {pos : Pos} (q : P.nx ρ ω) : GS X H0 (.Pass pos) ρ ω P := fun σ H R => ws_of ps_pass ⟨TK.refl H, ρ, ω, R, q⟩
theorem gs_break {pos : Pos} (q : P.bk ρ ω) : GS X H0 (.Break pos) ρ ω P := fun σ H R => ws_of ps_break ⟨TK.refl H, ρ, ω, R, q⟩
theorem gs_continue {pos : Pos} (q : P.ct ρ ω) : GS X H0 (.Continue pos) ρ ω P := fun σ H R => ws_of ps_continue ⟨TK.refl H, ρ, ω, R, q⟩
theorem gs_ret {e : Expr} {pos : Pos} (h : GE X H0 e ρ ω P.rt) : GS X H0 (.Return (some e) pos) ρ ω P := fun σ H R =>
  ws_of (ps_ret pe_we) (thnE (h σ H R) fun v H1 ⟨t, d, w, R1, i, q⟩ => ⟨t, R1.tk, d, w, R1.hr, i, q⟩)
theorem gs_retN {pos : Pos} (q : P.rt .non ω) : GS X H0 (.Return none pos) ρ ω P := fun σ H R => ws_of ps_retN ⟨TK.refl H, R.tk, .non, ω, R.hr, .non, q⟩
theorem gs_expr {e : Expr} {pos : Pos} (h : GE X H0 e ρ ω fun _ ω1 => P.nx ρ ω1) (hs : swapsWith e none pos.line X.env = pure false := by rfl) : GS X H0 (.Expr e pos) ρ ω P := fun σ H R =>
  ws_of (ps_expr pe_we hs) (thnE (h σ H R) fun v H1 ⟨t, d, w, R1, i, q⟩ => ⟨t, ρ, w, R1, q⟩)
theorem gs_if {c : Expr} {a b : List Stmt} {pos : Pos} (h : GT X H0 c ρ ω fun k ω1 => (k = true → GSs X H0 a ρ ω1 P) ∧ (k = false → GSs X H0 b ρ ω1 P)) : GS X H0 (.If c a b pos) ρ ω P := fun σ H R =>
  ws_of (ps_if pt_wt pss_ws pss_ws) (thnT (h σ H R) fun k H1 ⟨t, w, R1, hy, hn⟩ => by
    cases k with
    | true => exact iteT (thnSs t (hy rfl σ H1 R1))
    | false => exact iteF (thnSs t (hn rfl σ H1 R1)))
theorem gs_set (i : Nat) {x : Str} {e : Expr} {pos pos' : Pos} (hN : X.N.Nodup) (hi : X.N[i]? = some x) (hx : Loc X.env.scope x) (h : GE X H0 e ρ ω fun d ω1 => P.nx (ρ.set i (some d)) ω1)
    (hs : swapsWith e (some (.Name x pos')) pos.line X.env = pure false := by rfl) (hf : X.fn x = true ∨ X.env.scope.names.lookup x = some .local := by first | exact .inl rfl | exact .inr rfl | assumption) : GS X H0 (.Assign [.Name x pos'] e pos) ρ ω P := fun σ H R =>
  ws_of (ps_set hN hi hx pe_we hs hf) (thnE (h σ H R) fun v H1 ⟨t, d, w, R1, i, q⟩ => ⟨t, _, w, R1.set i, q⟩)
def RP (X : Cx) (op : Operator) : TIp := fun x y H Q => ∀ (pins : List (Addr × Obj)) (s : Shared) (σ : St) (v u : Value), Inv X pins σ H s → RelV x v → RelV y u → wpAny (model X.prog X.w) X.A (inplaceOp op v u) (EP X pins σ Q) X.xe s
theorem ip_rp (X : Cx) (op : Operator) : PIp X op (RP X op) := fun pins s σ _ _ _ v u _ I rx ry h => h pins s σ v u I rx ry
def GBi (X : Cx) (H0 : Hp) (ρ : Rho) (op : Operator) (a b : D) (ω : Om) (Q : QE) : Prop := ∀ σ H x y, Rel X.K H0 σ H ρ ω → Im X.K H x a → Im X.K H y b → RP X op x y H (VP X H0 σ H ρ Q)
theorem gbi_add {i j : Int} {Q : QE} (q : Q (.int (i + j)) ω) : GBi X H0 ρ .Add (.int i) (.int j) ω Q := fun σ H x y R hx hy => by
  cases hx; cases hy
  exact fun pins s σ' v u I rx ry => ip_add pins s σ' H _ _ v u _ I rx ry ⟨i, j, rfl, rfl, vp0 R (.int _) q⟩
theorem gbi_sub {i j : Int} {Q : QE} (q : Q (.int (i - j)) ω) : GBi X H0 ρ .Sub (.int i) (.int j) ω Q := fun σ H x y R hx hy => by
  cases hx; cases hy
  exact fun pins s σ' v u I rx ry => ip_sub pins s σ' H _ _ v u _ I rx ry ⟨i, j, rfl, rfl, vp0 R (.int _) q⟩
theorem gs_aug (i : Nat) {x : Str} {e : Expr} {op : Operator} {d0 : D} {pos pos' : Pos} (hN : X.N.Nodup) (hi : X.N[i]? = some x) (hx : Loc X.env.scope x) (h0 : ρ[i]? = some (some d0)) (h : GE X H0 e ρ ω fun d ω1 => GBi X H0 ρ op d0 d ω1 fun r ω2 => P.nx (ρ.set i (some r)) ω2)
    (hf : X.fn x = true ∨ X.env.scope.names.lookup x = some .local := by first | exact .inl rfl | exact .inr rfl | assumption) : GS X H0 (.AugAssign (.Name x pos') op e pos) ρ ω P := fun σ H R => by
  obtain ⟨v0, e0, i0⟩ := R.sl i d0 h0
  refine ws_of (ps_aug hN hi hx pe_we (ip_rp X op) hf) ⟨v0, e0, thnE (h σ H R) fun v H1 ⟨t, d, w, R1, i1, q⟩ => ?_⟩
  intro pins s σ' a b I ra rb
  exact thn (q σ H1 v0 v R1 (i0.mono t) i1 pins s σ' a b I ra rb) fun _ _ ⟨v, H', J, r, t2, d, w, R2, i2, q2⟩ => ⟨v, H', J, r, t.trans t2, _, w, R2.set i2, q2⟩
structure WG (X : Cx) (tg : Expr)  (v : V) (σ : St) (H : Hp) (Q : St → Hp → Prop) : Prop where
  go : ∀ (pins : List (Addr × Obj)) (s : Shared) (u : Value), Inv X pins σ H s → RelV v u → wpAny (model X.prog X.w) X.A (assign tg X.env u) (fun _ s' => ∃ σ' H', Inv X pins σ' H' s' ∧ Q σ' H') X.xe s
instance (X : Cx) (tg : Expr)  (v : V) (σ : St) (H : Hp) (Q : St → Hp → Prop) : CoeFun (WG X tg v σ H Q) fun _ => ∀ (pins : List (Addr × Obj)) (s : Shared) (u : Value), Inv X pins σ H s → RelV v u → wpAny (model X.prog X.w) X.A (assign tg X.env u) (fun _ s' => ∃ σ' H', Inv X pins σ' H' s' ∧ Q σ' H') X.xe s := ⟨WG.go⟩
theorem pg_wg {tg : Expr} : PG X tg (WG X tg) := ⟨fun pins s _ _ _ u _ I r h => h pins s u I r⟩
structure WGs (X : Cx) (ts : List Expr)  (vs : List V) (σ : St) (H : Hp) (Q : St → Hp → Prop) : Prop where
  go : ∀ (pins : List (Addr × Obj)) (s : Shared) (us : List Value), Inv X pins σ H s → Vals vs us → wpAny (model X.prog X.w) X.A (assignInOrder ((assignEach ts X.env).map (·.2)) us) (fun _ s' => ∃ σ' H', Inv X pins σ' H' s' ∧ Q σ' H') X.xe s
instance (X : Cx) (ts : List Expr)  (vs : List V) (σ : St) (H : Hp) (Q : St → Hp → Prop) : CoeFun (WGs X ts vs σ H Q) fun _ => ∀ (pins : List (Addr × Obj)) (s : Shared) (us : List Value), Inv X pins σ H s → Vals vs us → wpAny (model X.prog X.w) X.A (assignInOrder ((assignEach ts X.env).map (·.2)) us) (fun _ s' => ∃ σ' H', Inv X pins σ' H' s' ∧ Q σ' H') X.xe s := ⟨WGs.go⟩
theorem pgs_wgs {ts : List Expr} : PGs X ts (WGs X ts) := ⟨fun pins s _ _ _ us _ I r h => h pins s us I r⟩
abbrev NX := Rho → Om → Prop
def SPn (X : Cx) (H0 : Hp) (H : Hp) (Q : NX) : St → Hp → Prop := fun σ' H' => TK X.K H H' ∧ ∃ ρ' ω', Rel X.K H0 σ' H' ρ' ω' ∧ Q ρ' ω'
def GG (X : Cx) (H0 : Hp) (tg : Expr) (d : D) (ρ : Rho) (ω : Om) (Q : NX) : Prop := ∀ σ H v, Rel X.K H0 σ H ρ ω → Im X.K H v d → WG X tg v σ H (SPn X H0 H Q)
def GGs (X : Cx) (H0 : Hp) (ts : List Expr) (ds : List D) (ρ : Rho) (ω : Om) (Q : NX) : Prop := ∀ σ H vs, Rel X.K H0 σ H ρ ω → Ims X.K H vs ds → WGs X ts vs σ H (SPn X H0 H Q)
theorem wg_of {tg : Expr} {g : TG} (h : PG X tg g) {v : V} {σ : St} {H : Hp} {Q : St → Hp → Prop} (q : g v σ H Q) : WG X tg v σ H Q := ⟨fun pins s u I r => h.run pins s σ H v u Q I r q⟩
theorem wgs_of {ts : List Expr} {g : TGs} (h : PGs X ts g) {vs : List V} {σ : St} {H : Hp} {Q : St → Hp → Prop} (q : g vs σ H Q) : WGs X ts vs σ H Q := ⟨fun pins s us I r => h.run pins s σ H vs us Q I r q⟩
theorem wg_mono {tg : Expr} {v : V} {σ : St} {H : Hp} {Q Q' : St → Hp → Prop} (h : WG X tg v σ H Q) (k : ∀ σ H, Q σ H → Q' σ H) : WG X tg v σ H Q' := ⟨fun pins s u I r => thn (h pins s u I r) fun _ _ ⟨σ, H, J, q⟩ => ⟨σ, H, J, k σ H q⟩⟩
theorem wgs_mono {ts : List Expr} {vs : List V} {σ : St} {H : Hp} {Q Q' : St → Hp → Prop} (h : WGs X ts vs σ H Q) (k : ∀ σ H, Q σ H → Q' σ H) : WGs X ts vs σ H Q' := ⟨fun pins s u I r => thn (h pins s u I r) fun _ _ ⟨σ, H, J, q⟩ => ⟨σ, H, J, k σ H q⟩⟩
theorem spn_back {H H1 : Hp} {Q : NX} (t : TK X.K H H1) : ∀ σ' H', SPn X H0 H1 Q σ' H' → SPn X H0 H Q σ' H' := fun _ _ ⟨a, b⟩ => ⟨t.trans a, b⟩
theorem gg_name (i : Nat) {x : Str} {pos : Pos} {d : D} {Q : NX} (hN : X.N.Nodup) (hi : X.N[i]? = some x) (hx : Loc X.env.scope x) (q : Q (ρ.set i (some d)) ω) (hf : X.fn x = true ∨ X.env.scope.names.lookup x = some .local := by first | exact .inl rfl | exact .inr rfl | assumption) : GG X H0 (.Name x pos) d ρ ω Q := fun σ H v R i =>
  wg_of (pg_name hN hi hx hf) ⟨TK.refl H, _, ω, R.set i, q⟩
theorem ggs_nil {Q : NX} (q : Q ρ ω) : GGs X H0 [] [] ρ ω Q := fun σ H vs R is => by
  cases is
  exact wgs_of pgs_nil ⟨rfl, TK.refl H, ρ, ω, R, q⟩
theorem ggs_cons {e : Expr} {es : List Expr} {d : D} {ds : List D} {Q : NX} (h : GG X H0 e d ρ ω fun ρ1 ω1 => GGs X H0 es ds ρ1 ω1 Q) (hs : (assignEach (e :: es) X.env).map (·.2) = assign e X.env :: (assignEach es X.env).map (·.2) := by rfl) : GGs X H0 (e :: es) (d :: ds) ρ ω Q := fun σ H vs R is => by
  cases is with
  | cons i is =>
    refine wgs_of (pgs_cons pg_wg pgs_wgs hs) ⟨_, _, rfl, wg_mono (h σ H _ R i) fun σ1 H1 ⟨t, ρ1, ω1, R1, q⟩ => ?_⟩
    exact wgs_mono (q σ1 H1 _ R1 (is.mono t)) (spn_back t)
theorem gg_tup {es : List Expr} {k : _} {pos : Pos} {ds : List D} {Q : NX} (hc : X.calm = true) (hn : (assignEach es X.env).length = ds.length) (h : GGs X H0 es ds ρ ω Q) (hst : (assignEach es X.env).findIdx? (·.1) = none := by rfl) : GG X H0 (.Tuple es k pos) (.tup ds) ρ ω Q := fun σ H v R i => by
  obtain ⟨a, xs, rfl, h1, r⟩ := im_tup i
  exact wg_of (pg_tup (n := ds.length) hc pgs_wgs hn hst) ⟨a, xs, rfl, h1, r.length, h σ H xs R r⟩
theorem gs_asg {tg e : Expr} {pos : Pos} (h : GE X H0 e ρ ω fun d ω1 => GG X H0 tg d ρ ω1 P.nx) (hs : swapsWithSole [tg] e pos.line X.env = pure false := by rfl) (hw : swappedStores [tg] e X.env = pure none := by rfl)
    (h1 : (assignEach [tg] X.env).map (·.2) = [assign tg X.env] := by rfl) : GS X H0 (.Assign [tg] e pos) ρ ω P := fun σ H R =>
  ws_of (ps_asg pe_we pg_wg hs hw h1) (thnE (h σ H R) fun v H1 ⟨t, d, w, R1, i, q⟩ => wg_mono (q σ H1 v R1 i) (spn_back t))
theorem gs_while {c : Expr} {body : List Stmt} {pos : Pos} (I : Nat → Rho → Om → Prop) (m0 : Nat) (h0 : I m0 ρ ω) (hp : PassesOwn (model X.prog X.w) X.A X.env X.xe)
    (hs : ∀ m ρ1 ω1, I m ρ1 ω1 → GT X H0 c ρ1 ω1 fun b ω2 => (b = true → GSs X H0 body ρ1 ω2 { P with nx := fun ρ3 ω3 => ∃ m', m' < m ∧ I m' ρ3 ω3, ct := fun ρ3 ω3 => ∃ m', m' < m ∧ I m' ρ3 ω3, bk := P.nx }) ∧ (b = false → P.nx ρ1 ω2)) :
    GS X H0 (.While c body [] pos) ρ ω P := fun σ H R => by
  refine ws_of (ps_while hp pt_wt pss_ws) ⟨fun m σ1 H1 => SPn X H0 H (I m) σ1 H1, ⟨m0, TK.refl H, ρ, ω, R, h0⟩, ?_⟩
  rintro m σ1 H1 ⟨t, ρ1, ω1, R1, i1⟩
  refine thnT (hs m ρ1 ω1 i1 σ1 H1 R1) fun b H2 ⟨t2, ω2, R2, hy, hn⟩ => ?_
  cases b with
  | true =>
    refine iteT ⟨fun σ3 H3 => SPn X H0 H (fun ρ3 ω3 => ∃ m', m' < m ∧ I m' ρ3 ω3) σ3 H3, fun σ3 H3 ⟨t3, ρ3, ω3, R3, m', hm, i3⟩ => ⟨m', hm, t3, ρ3, ω3, R3, i3⟩, ?_⟩
    refine ⟨fun pins s I' => ?_⟩
    refine thn ((hy rfl σ1 H2 R2).go pins s I') (ends_mono (fun σ3 H3 ⟨t3, ρ3, ω3, R3, q⟩ => ⟨(t.trans t2).trans t3, ρ3, ω3, R3, q⟩) (fun v H3 ⟨t3, q⟩ => ⟨(t.trans t2).trans t3, q⟩) (fun σ3 H3 ⟨t3, ρ3, ω3, R3, q⟩ => ⟨(t.trans t2).trans t3, ρ3, ω3, R3, q⟩) fun σ3 H3 ⟨t3, ρ3, ω3, R3, q⟩ => ⟨(t.trans t2).trans t3, ρ3, ω3, R3, q⟩)
  | false => exact iteF ⟨t.trans t2, ρ1, ω2, R2, hn rfl⟩
def Yl (K : PySem.W.Frag) (J : It) (ds : List D) (H1 : Hp) (G : Om → Prop) : Prop := ∀ i H' ω', TK K H1 H' → HRel K H' ω' → G ω' →
  (i < ds.length → J.go i H') ∧ (ds.length ≤ i → J.stop i H') ∧ ∀ x H'', J.yld i H' x H'' → i < ds.length → Same H' H'' ∧ ∃ d, ds[i]? = some d ∧ Im K H'' x d
structure WI (X : Cx) (tg iter : Expr)  (σ : St) (H : Hp) (R : It → Hp → Prop) : Prop where
  go : ∀ (pins : List (Addr × Obj)) (s : Shared), Inv X pins σ H s → wpAny (model X.prog X.w) X.A (eval iter X.env) (fun v s1 => wpAny (model X.prog X.w) X.A (pyIter v) (PIE X pins σ tg R) X.xe s1) X.xe s
instance (X : Cx) (tg iter : Expr)  (σ : St) (H : Hp) (R : It → Hp → Prop) : CoeFun (WI X tg iter σ H R) fun _ => ∀ (pins : List (Addr × Obj)) (s : Shared), Inv X pins σ H s → wpAny (model X.prog X.w) X.A (eval iter X.env) (fun v s1 => wpAny (model X.prog X.w) X.A (pyIter v) (PIE X pins σ tg R) X.xe s1) X.xe s := ⟨WI.go⟩
theorem pi_wi {tg iter : Expr} : PI X tg iter (WI X tg iter) := ⟨fun pins s _ _ _ I h => h pins s I⟩
theorem wi_of {tg iter : Expr} {wi : TI} (h : PI X tg iter wi) {σ : St} {H : Hp} {R : It → Hp → Prop} (q : wi σ H R) : WI X tg iter σ H R := ⟨fun pins s I => h.run pins s σ H R I q⟩
theorem thnI {tg iter : Expr} {σ : St} {H : Hp} {R R' : It → Hp → Prop} (h : WI X tg iter σ H R) (k : ∀ J H', R J H' → R' J H') : WI X tg iter σ H R' := ⟨fun pins s I =>
  thn (h pins s I) fun _ _ q => thn q fun _ _ ⟨it, fp, tn, J, H', a, b, c, d, e, f⟩ => ⟨it, fp, tn, J, H', a, b, c, d, e, k _ _ f⟩⟩
def GJ (X : Cx) (H0 : Hp) (tg iter : Expr) (ρ : Rho) (ω : Om) (R : List D → (Om → Prop) → Om → Prop) : Prop :=
  ∀ σ H, Rel X.K H0 σ H ρ ω → WI X tg iter σ H fun J H1 => TK X.K H H1 ∧ ∃ ds G ω1, Rel X.K H0 σ H1 ρ ω1 ∧ Yl X.K J ds H1 G ∧ R ds G ω1
theorem gj_tup {tg iter : Expr} {R : List D → (Om → Prop) → Om → Prop} (h : GE X H0 iter ρ ω fun d ω1 => ∃ ds, d = .tup ds ∧ R ds (fun _ => True) ω1) : GJ X H0 tg iter ρ ω R := fun σ H Re =>
  wi_of (pi_tup pe_we) (thnE (h σ H Re) fun v H1 ⟨t, d, w, R1, i, ds, e, q⟩ => by
    subst e
    obtain ⟨a, xs, rfl, h1, r⟩ := im_tup i
    refine ⟨a, rfl, ⟨xs, h1⟩, t, ds, _, w, R1, fun j H' ω' t' hr _ => ⟨fun hj => ?_, fun hj => ⟨xs, t' _ _ h1, by rw [r.length]; exact hj⟩, fun x H'' ⟨e1, e2⟩ hj => ?_⟩, q⟩
    · obtain ⟨v, g1, g2⟩ := r.get (i := j) (List.getElem?_eq_getElem hj)
      exact ⟨xs, v, t' _ _ h1, g1⟩
    · subst e1
      obtain ⟨d, g1, g2⟩ := (r.mono t').get' (e2 xs (t' _ _ h1))
      exact ⟨Same.refl _, d, g1, g2⟩)
theorem SqL.injH {K : PySem.W.Frag} {H : Hp} {a : Addr} {xs ys : List V} (h : H a = some (.lst xs)) (h' : SqL K H a ys) (hk : K.lookup a = none) : ys = xs := by
  rcases h' with (h' | ⟨o, h'⟩) | ⟨o, its, n, h', _⟩
  · rw [h] at h'; cases h'; rfl
  · rw [h] at h'; cases h'
  · rw [hk] at h'; cases h'
theorem gj_lst {tg iter : Expr} {R : List D → (Om → Prop) → Om → Prop} (h : GE X H0 iter ρ ω fun d ω1 => ∃ a ds, d = .ref a ∧ ω1 a = some (.lst ds) ∧ R ds (fun ω' => ω' a = some (.lst ds)) ω1) : GJ X H0 tg iter ρ ω R := fun σ H Re => ⟨fun pins s I =>
  (pi_list pe_we).run pins s σ H _ I (thnE (h σ H Re) fun v H1 ⟨t, d, w, R1, i, a, ds, e, wa, q⟩ => by
    subst e
    cases i
    obtain ⟨xs, h1, r⟩ := R1.hr _ _ wa
    refine ⟨a, rfl, ⟨xs, SqL.of h1⟩, t, ds, _, w, R1, fun j H' ω' t' hr wa' => ?_, q⟩
    obtain ⟨ys, g, r'⟩ := hr _ _ wa'
    refine ⟨fun hj => ?_, fun hj => ⟨ys, SqL.of g, by rw [r'.length]; exact hj⟩, fun x H'' ⟨e1, e2⟩ hj => ?_⟩
    · obtain ⟨v, g1, g2⟩ := r'.get (i := j) (List.getElem?_eq_getElem hj)
      exact ⟨ys, v, SqL.of g, g1⟩
    · subst e1
      obtain ⟨d, g1, g2⟩ := r'.get' (e2 ys (SqL.of g))
      exact ⟨Same.refl _, d, g1, g2⟩)⟩
theorem gj_rol {tg iter : Expr} {R : List D → (Om → Prop) → Om → Prop} (h : GE X H0 iter ρ ω fun d ω1 => ∃ a ds, d = .ref a ∧ ω1 a = some (.rol ds) ∧ R ds (fun ω' => ω' a = some (.rol ds)) ω1) : GJ X H0 tg iter ρ ω R := fun σ H Re => ⟨fun pins s I =>
  (pi_list pe_we).run pins s σ H _ I (thnE (h σ H Re) fun v H1 ⟨t, d, w, R1, i, a, ds, e, wa, q⟩ => by
    subst e
    cases i
    obtain ⟨xs, h1, r⟩ := R1.hr _ _ wa
    refine ⟨a, rfl, ⟨xs, .inl h1⟩, t, ds, _, w, R1, fun j H' ω' t' hr wa' => ?_, q⟩
    obtain ⟨ys, g, r'⟩ := hr _ _ wa'
    refine ⟨fun hj => ?_, fun hj => ⟨ys, .inl g, by rw [r'.length]; exact hj⟩, fun x H'' ⟨e1, e2⟩ hj => ?_⟩
    · obtain ⟨v, g1, g2⟩ := r'.get (i := j) (List.getElem?_eq_getElem hj)
      exact ⟨ys, v, .inl g, g1⟩
    · subst e1
      obtain ⟨d, g1, g2⟩ := r'.get' (e2 ys (.inl g))
      exact ⟨Same.refl _, d, g1, g2⟩)⟩
def chD (c : Nat) : D := .str [c]
theorem gj_str {tg iter : Expr} {R : List D → (Om → Prop) → Om → Prop} (h : GE X H0 iter ρ ω fun d ω1 => ∃ s, d = .str s ∧ (s.length ≤ sizeLine → R (s.map chD) (fun _ => True) ω1)) : GJ X H0 tg iter ρ ω R := fun σ H Re =>
  wi_of (pi_str pe_we) (thnE (h σ H Re) fun v H1 ⟨t, d, w, R1, i, x, e, q⟩ => by
    subst e
    obtain ⟨rfl, hl⟩ := im_str i
    refine ⟨S x, rfl, t, _, _, w, R1, fun j H' ω' t' hr _ => ?_, q hl⟩
    rw [List.length_map]
    have hz : (S x).cps.size = x.length := S_len x
    refine ⟨fun hj => by show j < (S x).cps.size; rw [hz]; exact hj, fun hj => by show (S x).cps.size ≤ j; rw [hz]; exact hj, fun y H'' ⟨e1, c, e2, e3⟩ hj => ?_⟩
    subst e1 e3
    refine ⟨Same.refl _, chD c, ?_, .str [c] (by show 1 ≤ sizeLine; decide)⟩
    have e2 : x[j]? = some c := by simpa using e2
    rw [List.getElem?_map, e2] <;> rfl)
def rngD (lo : Int) (n : Nat) : List D := (List.range n).map fun (i : Nat) => D.int (lo + (i : Int))
theorem yl_rng {K : PySem.W.Frag} {lo : Int} {n : Nat} {H1 : Hp} : Yl K (Itr lo n) (rngD lo n) H1 fun _ => True := fun j H' ω' t' hr _ => by
  unfold rngD
  rw [List.length_map, List.length_range]
  refine ⟨fun hj => hj, fun hj => hj, fun y H'' ⟨e1, e2⟩ hj => ?_⟩
  subst e1 e2
  refine ⟨Same.refl _, .int (lo + (j : Int)), ?_, .int _⟩
  rw [List.getElem?_map, List.getElem?_range hj] <;> rfl
theorem gj_range1 {tg a : Expr} {p pos : Pos} {R : List D → (Om → Prop) → Om → Prop} (hm : X.mg "range" = none) (hg : Gl X "range") (h : GE X H0 a ρ ω fun d ω1 => ∃ n, d = .int n ∧ (-(2 ^ 62) ≤ n ∧ n < 2 ^ 62) ∧ R (rngD 0 n.toNat) (fun _ => True) ω1)
    (hs : starEach [a] X.env = [(false, eval a X.env)] := by rfl) : GJ X H0 tg (.Call (.Name "range" p) [a] [] pos) ρ ω R := fun σ H Re =>
  wi_of (pi_range1 hg hm (pa_cons pe_we pa_nil hs) hs) (thnE (h σ H Re) fun v H1 ⟨t, d, w, R1, i, n, e, ⟨b1, b2⟩, q⟩ => by
    subst e
    cases i
    exact ⟨n, rfl, b1, b2, t, _, _, w, R1, yl_rng, q⟩)
theorem gj_range2 {tg a b : Expr} {p pos : Pos} {R : List D → (Om → Prop) → Om → Prop} (hm : X.mg "range" = none) (hg : Gl X "range") (h : GE X H0 a ρ ω fun d ω1 => GE X H0 b ρ ω1 fun e ω2 => ∃ i j, d = .int i ∧ e = .int j ∧ (-(2 ^ 62) ≤ i ∧ i < 2 ^ 62 ∧ -(2 ^ 62) ≤ j ∧ j < 2 ^ 62) ∧ R (rngD i (j - i).toNat) (fun _ => True) ω2)
    (hs : starEach [a, b] X.env = [(false, eval a X.env), (false, eval b X.env)] := by rfl) (hs2 : starEach [b] X.env = [(false, eval b X.env)] := by rfl) : GJ X H0 tg (.Call (.Name "range" p) [a, b] [] pos) ρ ω R := fun σ H Re =>
  wi_of (pi_range2 hg hm (pa_cons pe_we (pa_cons pe_we pa_nil hs2) (hs.trans (by rw [hs2]))) hs hs2) (thnE (h σ H Re) fun v H1 ⟨t, d, w, R1, i, q⟩ => thnE (q σ H1 R1) fun u H2 ⟨t2, d2, w2, R2, i2, x, y, e1, e2, b, q2⟩ => by
    subst e1 e2
    cases i; cases i2
    exact ⟨x, y, rfl, b, t.trans t2, _, _, w2, R2, yl_rng, q2⟩)
theorem gs_for {tg iter : Expr} {body : List Stmt} {pos : Pos} (I : List D → Nat → Rho → Om → Prop) (hp : PassesOwn (model X.prog X.w) X.A X.env X.xe) (hc : X.calm = true)
    (h : GJ X H0 tg iter ρ ω fun ds G ω1 => I ds 0 ρ ω1 ∧ (∀ i ρ' ω', i ≤ ds.length → I ds i ρ' ω' → G ω') ∧
      (∀ i d ρ' ω', ds[i]? = some d → I ds i ρ' ω' → GG X H0 tg d ρ' ω' fun ρ2 ω2 => GSs X H0 body ρ2 ω2 { P with nx := I ds (i + 1), ct := I ds (i + 1), bk := P.nx }) ∧ (∀ ρ' ω', I ds ds.length ρ' ω' → P.nx ρ' ω'))
    (hs : ∀ x, foldedSetIterable iter X.env x = pure x := by intro _; rfl) : GS X H0 (.For tg iter body [] pos) ρ ω P := fun σ H R => by
  refine ws_of (ps_for hp hc pi_wi pg_wg pss_ws hs) (thnI (h σ H R) fun J H1 ⟨t, ds, G, ω1, R1, Y, h0, hG, hs, hd⟩ => ?_)
  refine ⟨fun i m σ' H' => m = ds.length - i ∧ i ≤ ds.length ∧ TK X.K H1 H' ∧ ∃ ρ' ω', Rel X.K H0 σ' H' ρ' ω' ∧ I ds i ρ' ω', ⟨_, rfl, Nat.zero_le _, TK.refl _, ρ, ω1, R1, h0⟩, ?_⟩
  rintro i m σ' H' ⟨rfl, hi, t', ρ', ω', R', i'⟩
  obtain ⟨y1, y2, y3⟩ := Y i H' ω' t' R'.hr (hG i ρ' ω' hi i')
  by_cases hlt : i < ds.length
  · refine .inr ⟨y1 hlt, fun σ2 H2 => TK X.K H1 H2 ∧ ∃ ρ' ω', Rel X.K H0 σ2 H2 ρ' ω' ∧ I ds (i + 1) ρ' ω', fun σ2 H2 ⟨t2, q⟩ => ⟨_, by omega, rfl, hlt, t2, q⟩, fun x H'' y => ?_⟩
    obtain ⟨sm, d, ed, im⟩ := y3 x H'' y hlt
    refine wg_mono (hs i d ρ' ω' ed i' σ' H'' x (R'.same sm) im) fun σ2 H2 ⟨t2, ρ2, ω2, R2, q⟩ => ⟨fun pins s I' => ?_⟩
    have tt : TK X.K H1 H2 := (t'.trans (tk_same sm)).trans t2
    exact thn (q σ2 H2 R2 pins s I') (ends_mono (fun σ3 H3 ⟨t3, ρ3, ω3, R3, q⟩ => ⟨tt.trans t3, ρ3, ω3, R3, q⟩) (fun v H3 ⟨t3, q⟩ => ⟨(t.trans tt).trans t3, q⟩) (fun σ3 H3 ⟨t3, ρ3, ω3, R3, q⟩ => ⟨(t.trans tt).trans t3, ρ3, ω3, R3, q⟩) fun σ3 H3 ⟨t3, ρ3, ω3, R3, q⟩ => ⟨tt.trans t3, ρ3, ω3, R3, q⟩)
  · have e : i = ds.length := by omega
    subst e
    exact .inl ⟨y2 (Nat.le_refl _), t.trans t', ρ', ω', R', hd ρ' ω' i'⟩
theorem gs_forE {tg iter : Expr} {body : List Stmt} {pos : Pos} (hp : PassesOwn (model X.prog X.w) X.A X.env X.xe) (hc : X.calm = true)
    (h : GJ X H0 tg iter ρ ω fun ds G ω1 => ∃ I : Nat → Rho → Om → Prop, I 0 ρ ω1 ∧ (∀ i ρ' ω', i ≤ ds.length → I i ρ' ω' → G ω') ∧
      (∀ i d ρ' ω', ds[i]? = some d → I i ρ' ω' → GG X H0 tg d ρ' ω' fun ρ2 ω2 => GSs X H0 body ρ2 ω2 { P with nx := I (i + 1), ct := I (i + 1), bk := P.nx }) ∧ (∀ ρ' ω', I ds.length ρ' ω' → P.nx ρ' ω'))
    (hs : ∀ x, foldedSetIterable iter X.env x = pure x := by intro _; rfl) : GS X H0 (.For tg iter body [] pos) ρ ω P := fun σ H R => by
  refine ws_of (ps_for hp hc pi_wi pg_wg pss_ws hs) (thnI (h σ H R) fun J H1 ⟨t, ds, G, ω1, R1, Y, I, h0, hG, hs, hd⟩ => ?_)
  refine ⟨fun i m σ' H' => m = ds.length - i ∧ i ≤ ds.length ∧ TK X.K H1 H' ∧ ∃ ρ' ω', Rel X.K H0 σ' H' ρ' ω' ∧ I i ρ' ω', ⟨_, rfl, Nat.zero_le _, TK.refl _, ρ, ω1, R1, h0⟩, ?_⟩
  rintro i m σ' H' ⟨rfl, hi, t', ρ', ω', R', i'⟩
  obtain ⟨y1, y2, y3⟩ := Y i H' ω' t' R'.hr (hG i ρ' ω' hi i')
  by_cases hlt : i < ds.length
  · refine .inr ⟨y1 hlt, fun σ2 H2 => TK X.K H1 H2 ∧ ∃ ρ' ω', Rel X.K H0 σ2 H2 ρ' ω' ∧ I (i + 1) ρ' ω', fun σ2 H2 ⟨t2, q⟩ => ⟨_, by omega, rfl, hlt, t2, q⟩, fun x H'' y => ?_⟩
    obtain ⟨sm, d, ed, im⟩ := y3 x H'' y hlt
    refine wg_mono (hs i d ρ' ω' ed i' σ' H'' x (R'.same sm) im) fun σ2 H2 ⟨t2, ρ2, ω2, R2, q⟩ => ⟨fun pins s I' => ?_⟩
    have tt : TK X.K H1 H2 := (t'.trans (tk_same sm)).trans t2
    exact thn (q σ2 H2 R2 pins s I') (ends_mono (fun σ3 H3 ⟨t3, ρ3, ω3, R3, q⟩ => ⟨tt.trans t3, ρ3, ω3, R3, q⟩) (fun v H3 ⟨t3, q⟩ => ⟨(t.trans tt).trans t3, q⟩) (fun σ3 H3 ⟨t3, ρ3, ω3, R3, q⟩ => ⟨(t.trans tt).trans t3, ρ3, ω3, R3, q⟩) fun σ3 H3 ⟨t3, ρ3, ω3, R3, q⟩ => ⟨tt.trans t3, ρ3, ω3, R3, q⟩)
  · have e : i = ds.length := by omega
    subst e
    exact .inl ⟨y2 (Nat.le_refl _), t.trans t', ρ', ω', R', hd ρ' ω' i'⟩
end
end Q2
namespace Q2
open PySem PySem.Spec L2
def wipeR (ρ : Rho) : List Nat → Rho
  | [] => ρ
  | v :: vs => (wipeR ρ vs).set v none
theorem Rel.wipe {K : PySem.W.Frag} {H0 : Hp} {σ : St} {H : Hp} {ρ : Rho} {ω : Om} (R : Rel K H0 σ H ρ ω) : ∀ vs : List Nat, Rel K H0 (L2.wipe σ vs) H (wipeR ρ vs) ω
  | [] => R
  | v :: vs => (Rel.wipe R vs).gone
def setV (σ : St) : List Nat → List V → St
  | j :: js, v :: vs => setV (σ.set j (some v)) js vs
  | _, _ => σ
def setR (ρ : Rho) : List Nat → List D → Rho
  | j :: js, d :: ds => setR (ρ.set j (some d)) js ds
  | _, _ => ρ
theorem Rel.setAll {K : PySem.W.Frag} {H0 : Hp} {H : Hp} {ω : Om} : ∀ {σ : St} {ρ : Rho} {js : List Nat} {vs : List V} {ds : List D}, Rel K H0 σ H ρ ω → Ims K H vs ds → Rel K H0 (setV σ js vs) H (setR ρ js ds) ω
  | _, _, [], _, _, R, _ => R
  | _, _, _ :: _, _, _, R, .nil => R
  | _, _, j :: js, _, _, R, .cons h r => Rel.setAll (js := js) (R.set (i := j) h) r
theorem set_comm_none {σ : St} {i j : Nat} {x y : Option V} (h : i ≠ j) : (σ.set i x).set j y = (σ.set j y).set i x := List.set_comm _ _ h
theorem wipe_set {j : Nat} {x : Option V} : ∀ {vs : List Nat} {σ : St}, j ∈ vs → L2.wipe (σ.set j x) vs = L2.wipe σ vs
  | v :: vs, σ, h => by
    show (L2.wipe (σ.set j x) vs).set v none = (L2.wipe σ vs).set v none
    by_cases e : j ∈ vs
    · rw [wipe_set e]
    · have e2 : j = v := by rcases List.mem_cons.mp h with h | h; exact h; exact absurd h e
      subst e2
      have go : ∀ (ws : List Nat) (τ : St), j ∉ ws → L2.wipe (τ.set j x) ws = (L2.wipe τ ws).set j x := by
        intro ws
        induction ws with
        | nil => intro τ _; rfl
        | cons u us ih =>
          intro τ hu
          show (L2.wipe (τ.set j x) us).set u none = ((L2.wipe τ us).set u none).set j x
          rw [ih τ fun z => hu (List.mem_cons_of_mem _ z)]
          exact List.set_comm _ _ fun z => hu (by rw [z]; exact List.mem_cons_self)
      rw [go vs σ e, List.set_set]
theorem wipe_wipe : ∀ {vs ws : List Nat} {σ : St}, (∀ v ∈ vs, v ∈ ws) → L2.wipe (L2.wipe σ vs) ws = L2.wipe σ ws
  | [], _, _, _ => rfl
  | v :: vs, ws, σ, h => by
    show L2.wipe ((L2.wipe σ vs).set v none) ws = L2.wipe σ ws
    rw [wipe_set (h v List.mem_cons_self)]
    exact wipe_wipe fun u hu => h u (List.mem_cons_of_mem _ hu)
theorem wipe_setV : ∀ {js : List Nat} {xs : List V} {vs : List Nat} {σ : St}, (∀ j ∈ js, j ∈ vs) → L2.wipe (setV σ js xs) vs = L2.wipe σ vs
  | [], _, _, _, _ => by unfold setV; rfl
  | _ :: _, [], _, _, _ => by unfold setV; rfl
  | j :: js, x :: xs, vs, σ, h => by
    show L2.wipe (setV (σ.set j (some x)) js xs) vs = L2.wipe σ vs
    rw [wipe_setV (fun u hu => h u (List.mem_cons_of_mem _ hu)), wipe_set (h j List.mem_cons_self)]
structure TgSet (K : PySem.W.Frag) (g : TG) (js : List Nat) (split : D → Option (List D)) : Prop where
  ok : ∀ v d ds σ H (Q : St → Hp → Prop), Im K H v d → split d = some ds → (∀ vs, Ims K H vs ds → Q (setV σ js vs) H) → g v σ H Q
def sp1 (d : D) : Option (List D) := some [d]
def spN (n : Nat) : D → Option (List D)
  | .tup ds => if ds.length = n then some ds else none
  | _ => none
theorem tg_name {K : PySem.W.Frag} {j : Nat} : TgSet K (gName j) [j] sp1 := ⟨fun v d ds σ H Q i e k => by
  cases e
  exact k [v] (.cons i .nil)⟩
theorem spN_tup {n : Nat} {d : D} {ds : List D} (e : spN n d = some ds) : d = .tup ds ∧ ds.length = n := by
  cases d with
  | tup es =>
    by_cases hl : es.length = n
    · have e : (if es.length = n then some es else none) = some ds := e
      rw [if_pos hl] at e
      cases e
      exact ⟨rfl, hl⟩
    · have e : (if es.length = n then some es else none) = some ds := e
      rw [if_neg hl] at e
      cases e
  | _ => cases e
theorem ims_two {K : PySem.W.Frag} {H : Hp} {xs : List V} {ds : List D} (r : Ims K H xs ds) (h : ds.length = 2) : ∃ x y, xs = [x, y] := by
  cases r with
  | nil => cases h
  | cons a r => cases r with
    | nil => cases h
    | cons b r => cases r with
      | nil => exact ⟨_, _, rfl⟩
      | cons c r => simp at h
theorem tg_pair {K : PySem.W.Frag} {j1 j2 : Nat} : TgSet K (gTup K 2 (gCons (gName j1) (gCons (gName j2) gNil))) [j1, j2] (spN 2) := ⟨fun v d ds σ H Q i e k => by
  obtain ⟨rfl, hl⟩ := spN_tup e
  obtain ⟨a, xs, rfl, h, r⟩ := im_tup i
  obtain ⟨x, y, rfl⟩ := ims_two r hl
  exact ⟨a, _, rfl, h, rfl, x, _, rfl, y, _, rfl, rfl, k [x, y] r⟩⟩
section
variable {X : Cx} {H0 : Hp} {ρ : Rho} {ω ω' : Om} {P : GP}
abbrev bl (X : Cx) (scope : Scope) (s : Shared) (H : Hp) (C : Addr) (cl : List (Str × Addr)) (fp : List Addr) : Cx := X.blk s H scope (compEnvC scope cl C X.env) fp
def GTs (X : Cx) (H0 : Hp) (ifs : List Expr) (ρ : Rho) (ω : Om) (Q : QT) : Prop := match ifs with
  | [] => Q true ω
  | [c] => GT X H0 c ρ ω Q
  | _ => False
def rE (X : Cx) (scope : Scope) (e : Expr) : TE := fun σ H Q => ∀ s H' C cl fp, WE (bl X scope s H' C cl fp) e σ H Q
def WTs (X : Cx) (ifs : List Expr) : TT := fun σ H Q => match ifs with
  | [] => Q true H
  | [c] => WT X c σ H Q
  | _ => False
theorem pts_wts {ifs : List Expr} : PTs X ifs (WTs X ifs) := by
  match ifs with
  | [] => exact ⟨fun pins s σ H Q I h => pts_nil.run pins s σ H Q I h⟩
  | [c] => exact ⟨fun pins s σ H Q I h => (pts_one pt_wt).run pins s σ H Q I h⟩
  | _ :: _ :: _ => exact ⟨fun _ _ _ _ _ _ h => False.elim h⟩
def rT (X : Cx) (scope : Scope) (ifs : List Expr) : TT := fun σ H Q => ∀ s H' C cl fp, WTs (bl X scope s H' C cl fp) ifs σ H Q
theorem gts_run {ifs : List Expr} {Q : QT} (h : GTs X H0 ifs ρ ω Q) {σ : St} {H : Hp} (R : Rel X.K H0 σ H ρ ω) : WTs X ifs σ H (BP X H0 σ H ρ Q) := by
  match ifs, h with
  | [], h => exact ⟨TK.refl H, ω, R, h⟩
  | [c], h => exact h σ H R
def LcOk (X : Cx) (H0 : Hp) (scope : Scope) (vs js : List Nat) (split : D → Option (List D)) (elt : Expr) (ifs : List Expr) (ρ : Rho) (Q : QE) (ds : List D) (G : Om → Prop) (ω1 : Om) : Prop :=
  ds.length ≤ sizeLine ∧ ∀ p, ω1 p = none → ∃ I : Nat → List D → Om → Prop, I 0 [] (put ω1 p (.lst [])) ∧ (∀ i acc ω', I i acc ω' → ω' p = some (.lst acc) ∧ acc.length ≤ i ∧ G ω') ∧
    (∀ i d acc ω', ds[i]? = some d → I i acc ω' → ∃ es, split d = some es ∧
      ∀ s H C cl fp, GTs (bl X scope s H C cl fp) H0 ifs (setR (wipeR ρ vs) js es) ω' fun b ω2 =>
        (b = true → ∀ s H C cl fp, GE (bl X scope s H C cl fp) H0 elt (setR (wipeR ρ vs) js es) ω2 fun r ω3 => ∃ acc2, ω3 p = some (.lst acc2) ∧ acc2.length ≤ i ∧ I (i + 1) (acc2 ++ [r]) (put ω3 p (.lst (acc2 ++ [r])))) ∧
        (b = false → I (i + 1) acc ω2)) ∧
    ∀ acc ω', I ds.length acc ω' → Q (.ref p) ω'
theorem tlc_ok {g : TG} {vs js : List Nat} {split : D → Option (List D)} {scope : Scope} {tg iter elt : Expr} {ifs : List Expr} {Q : QE} (hT : TgSet X.K g js split) (hjs : ∀ j ∈ js, j ∈ vs)
    (h : GJ X H0 tg iter ρ ω fun ds G ω1 => LcOk X H0 scope vs js split elt ifs ρ Q ds G ω1) {σ : St} {H : Hp} (R : Rel X.K H0 σ H ρ ω) : tLc (WI X tg iter) g (rT X scope ifs) (rE X scope elt) vs σ H (VP X H0 σ H ρ Q) := by
  refine thnI (h σ H R) fun J H1 ⟨t, ds, G, ω1, R1, Y, hz, k⟩ => ?_
  intro p hp
  obtain ⟨I, I0, IG, turn, fin⟩ := k p (R1.hr.free hp)
  have e1 := same_new (o := .lst []) hp
  have hp0 : ∀ {H' : Hp} {ω' : Om} {acc : List D}, HRel X.K H' ω' → ω' p = some (.lst acc) → ∃ xs, H' p = some (.lst xs) ∧ Ims X.K H' xs acc := fun hr w => hr _ _ w
  refine ⟨fun i m H' => m = ds.length - i ∧ i ≤ ds.length ∧ TK X.K H1 H' ∧ ∃ acc ω', Rel X.K H0 σ H' ρ ω' ∧ I i acc ω', ⟨_, rfl, Nat.zero_le _, tk_same e1, [], _, R1.move (tk_same e1) (R1.hr.new (m := .lst []) hp ⟨[], upd_same, .nil⟩), I0⟩, ?_⟩
  rintro i m H' ⟨rfl, hi, t', acc, ω', R', i'⟩
  obtain ⟨wp, hl, hG⟩ := IG i acc ω' i'
  obtain ⟨y1, y2, y3⟩ := Y i H' ω' t' R'.hr hG
  by_cases hlt : i < ds.length
  · refine .inr ⟨y1 hlt, fun H2 => TK X.K H1 H2 ∧ ∃ acc ω', Rel X.K H0 σ H2 ρ ω' ∧ I (i + 1) acc ω', fun H2 ⟨t2, q⟩ => ⟨_, by omega, rfl, hlt, t2, q⟩, fun x H'' y => ?_⟩
    obtain ⟨sm, d, ed, im⟩ := y3 x H'' y hlt
    obtain ⟨es, he, hb⟩ := turn i d acc ω' ed i'
    refine hT.ok x d es _ H'' _ im he fun xs ims => ⟨by rw [wipe_setV hjs, wipe_wipe fun _ h => h], ?_⟩
    have R2 : Rel X.K H0 σ H'' ρ ω' := R'.same sm
    have R3 : Rel X.K H0 (setV (L2.wipe σ vs) js xs) H'' (setR (wipeR ρ vs) js es) ω' := (R2.wipe vs).setAll ims
    have tt : TK X.K H1 H'' := t'.trans (tk_same sm)
    intro s Hs C cl fp
    have w := gts_run (hb s Hs C cl fp) R3
    have fin2 : ∀ (b : Bool) (H3 : Hp), BP (bl X scope s Hs C cl fp) H0 (setV (L2.wipe σ vs) js xs) H'' (setR (wipeR ρ vs) js es) (fun b ω2 =>
        (b = true → ∀ s H C cl fp, GE (bl X scope s H C cl fp) H0 elt (setR (wipeR ρ vs) js es) ω2 fun r ω3 => ∃ acc2, ω3 p = some (.lst acc2) ∧ acc2.length ≤ i ∧ I (i + 1) (acc2 ++ [r]) (put ω3 p (.lst (acc2 ++ [r])))) ∧
        (b = false → I (i + 1) acc ω2)) b H3 →
        if b = true then rE X scope elt (setV (L2.wipe σ vs) js xs) H3 fun y H4 => ∃ acc, H4 p = some (.lst acc) ∧ acc.length < sizeLine ∧ (TK X.K H1 (upd H4 p (.lst (acc ++ [y]))) ∧ ∃ acc' ω', Rel X.K H0 σ (upd H4 p (.lst (acc ++ [y]))) ρ ω' ∧ I (i + 1) acc' ω') else TK X.K H1 H3 ∧ ∃ acc ω', Rel X.K H0 σ H3 ρ ω' ∧ I (i + 1) acc ω' := by
      rintro b H3 ⟨t3, ω2, R4, hy, hn⟩
      cases b with
      | true =>
        refine iteT fun s Hs C cl fp => thnE (hy rfl s Hs C cl fp _ _ R4) fun y H4 ⟨t4, r, ω3, R5, im5, acc2, w3, l3, i3⟩ => ?_
        obtain ⟨zs, hz1, hz2⟩ := R5.hr _ _ w3
        have t5 := tk_upd (K := X.K) (o' := .lst (zs ++ [y])) hz1 trivial
        refine ⟨zs, hz1, ?_, ((tt.trans t3).trans t4).trans t5, acc2 ++ [r], _, R2.move ((t3.trans t4).trans t5) (R5.hr.put (m := .lst (acc2 ++ [r])) hz1 trivial ⟨_, upd_same, (hz2.append (.cons im5 .nil)).mono t5⟩), i3⟩
        rw [hz2.length]
        omega
      | false => exact iteF ⟨tt.trans t3, acc, ω2, R2.move t3 R4.hr, hn rfl⟩
    match ifs, w with
    | [], w => exact fin2 true H'' w
    | [c], w => exact thnT w fin2
  · have e : i = ds.length := by omega
    subst e
    exact .inl ⟨y2 (Nat.le_refl _), t.trans t', .ref p, ω', R', .ref p, fin acc ω' i'⟩
theorem ge_lc {g : TG} {js : List Nat} {split : D → Option (List D)} {scope : Scope} {own : List (Str × Nat)} {tg iter elt : Expr} {ifs : List Expr} {pos : Pos} {Q : QE} (hc : X.calm = true) (hN : X.N.Nodup) (hT : TgSet X.K g js split) (hjs : ∀ j ∈ js, j ∈ own.map (·.2)) (ok : BlkOk X.N X.env.scope scope own)
    (hg : ∀ (s : Shared) (H : Hp) (C : Addr) (cl : List (Str × Addr)) (fp : List Addr), PG (bl X scope s H C cl fp) tg g) (h : GJ X H0 tg iter ρ ω fun ds G ω1 => LcOk X H0 scope (own.map (·.2)) js split elt ifs ρ Q ds G ω1)
    (hs : ∀ x, foldedSetIterable iter X.env x = pure x := by intro _; rfl) : GE X H0 (.ListComp elt [⟨tg, iter, ifs, 0⟩] scope pos) ρ ω Q := fun σ H R =>
  we_of (pe_lc hc hN pi_wi ok hg (tt := rT X scope ifs) (te := rE X scope elt) (fun s H C cl fp => ⟨fun pins sh σ H Q I h => pts_wts.run pins sh σ H Q I (h s _ C cl fp)⟩) (fun s H C cl fp => ⟨fun pins sh σ H Q I h => h s _ C cl fp pins sh I⟩) hs) (tlc_ok hT hjs h R)
theorem gs_lc (i : Nat) {y : Str} {py spos : Pos} {g : TG} {js : List Nat} {split : D → Option (List D)} {scope : Scope} {own : List (Str × Nat)} {tg iter elt : Expr} {ifs : List Expr} {pos : Pos} (hc : X.calm = true) (hN : X.N.Nodup) (hy : X.N[i]? = some y) (hyl : X.env.scope.names.lookup y = some .local)
    (hsw : swapsWith (.ListComp elt [⟨tg, iter, ifs, 0⟩] scope pos) (some (.Name y py)) spos.line X.env = pure true) (hT : TgSet X.K g js split) (hjs : ∀ j ∈ js, j ∈ own.map (·.2)) (ok : BlkOk X.N X.env.scope scope own)
    (hg : ∀ (s : Shared) (H : Hp) (C : Addr) (cl : List (Str × Addr)) (fp : List Addr), PG (bl X scope s H C cl fp) tg g) (h : GJ X H0 tg iter ρ ω fun ds G ω1 => LcOk X H0 scope (own.map (·.2)) js split elt ifs ρ (fun d ω' => P.nx (ρ.set i (some d)) ω') ds G ω1)
    (hs : ∀ x, foldedSetIterable iter X.env x = pure x := by intro _; rfl) : GS X H0 (.Assign [.Name y py] (.ListComp elt [⟨tg, iter, ifs, 0⟩] scope pos) spos) ρ ω P := fun σ H R => by
  refine ws_of (ps_setLc hc hN hy hyl hsw pi_wi ok hg (tt := rT X scope ifs) (te := rE X scope elt) (fun s H C cl fp => ⟨fun pins sh σ H Q I h => pts_wts.run pins sh σ H Q I (h s _ C cl fp)⟩) (fun s H C cl fp => ⟨fun pins sh σ H Q I h => h s _ C cl fp pins sh I⟩) hs) ?_
  have q := tlc_ok hT hjs h R
  show tLc (WI X tg iter) g (rT X scope ifs) (rE X scope elt) (own.map (·.2)) σ H fun x H1 => gName i x σ H1 (EN X H0 H P).nx
  refine thnI q fun J H1 k D hD => ?_
  obtain ⟨W, w0, wt⟩ := k D hD
  refine ⟨W, w0, fun i' m H' w => ?_⟩
  rcases wt i' m H' w with ⟨a, t, d, ω', R', im, b⟩ | c
  · exact .inl ⟨a, t, _, ω', R'.set im, b⟩
  · exact .inr c
theorem GE.shrink {e : Expr} {R : D → Prop} (h : GE X H0 e ρ ω fun d ω1 => Ext ω ω1 ∧ R d) : GE X H0 e ρ ω fun d ω1 => ω1 = ω ∧ R d := fun σ H Re => thnE (h σ H Re) fun _ _ ⟨t, d, w, R', i, x, q⟩ => ⟨t, d, ω, R'.less x, i, rfl, q⟩
theorem GT.shrink {e : Expr} {R : Bool → Prop} (h : GT X H0 e ρ ω fun d ω1 => Ext ω ω1 ∧ R d) : GT X H0 e ρ ω fun d ω1 => ω1 = ω ∧ R d := fun σ H Re => thnT (h σ H Re) fun _ _ ⟨t, w, R', x, q⟩ => ⟨t, ω, R'.less x, rfl, q⟩
theorem GT.imp {e : Expr} {Q Q' : QT} (h : GT X H0 e ρ ω Q) (k : ∀ d ω', Q d ω' → Q' d ω') : GT X H0 e ρ ω Q' := fun σ H R => thnT (h σ H R) fun _ _ ⟨t, w, R', q⟩ => ⟨t, w, R', k _ _ q⟩
theorem lc_pure {scope : Scope} {vs js : List Nat} {split : D → Option (List D)} {elt : Expr} {ifs : List Expr} {Q : QE} {ds : List D} {G : Om → Prop} {ω1 : Om} (c : D → Bool) (f : D → D) (hz : ds.length ≤ sizeLine) (hG : ∀ ω', Ext ω1 ω' → G ω')
    (turn : ∀ d ω', d ∈ ds → Ext ω1 ω' → ∃ es, split d = some es ∧ (∀ s H C cl fp, GTs (bl X scope s H C cl fp) H0 ifs (setR (wipeR ρ vs) js es) ω' fun b ω2 => Ext ω' ω2 ∧ b = c d) ∧
      (c d = true → ∀ s H C cl fp, GE (bl X scope s H C cl fp) H0 elt (setR (wipeR ρ vs) js es) ω' fun r ω2 => Ext ω' ω2 ∧ r = f d))
    (fin : ∀ p, ω1 p = none → Q (.ref p) (put ω1 p (.lst ((ds.filter c).map f)))) : LcOk X H0 scope vs js split elt ifs ρ Q ds G ω1 := by
  have hlen : ∀ i, (((ds.take i).filter c).map f).length ≤ i := fun i => by
    rw [List.length_map]
    refine Nat.le_trans (List.length_filter_le _ _) ?_
    rw [List.length_take]
    omega
  refine ⟨hz, fun p hp => ⟨fun i acc ω' => acc = ((ds.take i).filter c).map f ∧ ω' = put ω1 p (.lst acc), ⟨rfl, rfl⟩, ?_, ?_, ?_⟩⟩
  · rintro i acc ω' ⟨rfl, rfl⟩
    exact ⟨put_same, hlen i, hG _ (Ext.new hp)⟩
  · rintro i d acc ω' ed ⟨rfl, rfl⟩
    have eds : ds.take (i + 1) = ds.take i ++ [d] := by
      rw [List.take_add_one, ed]; rfl
    obtain ⟨es, he, hb, hel⟩ := turn d _ (List.mem_of_getElem? ed) (Ext.new (m := .lst (((ds.take i).filter c).map f)) hp)
    have fin2 : ∀ (b : Bool) (ω2 : Om), ω2 = put ω1 p (.lst (((ds.take i).filter c).map f)) ∧ b = c d →
        (b = true → ∀ s H C cl fp, GE (bl X scope s H C cl fp) H0 elt (setR (wipeR ρ vs) js es) ω2 fun r ω3 => ∃ acc2, ω3 p = some (.lst acc2) ∧ acc2.length ≤ i ∧ (acc2 ++ [r] = ((ds.take (i + 1)).filter c).map f ∧ put ω3 p (.lst (acc2 ++ [r])) = put ω1 p (.lst (acc2 ++ [r])))) ∧
        (b = false → ((ds.take i).filter c).map f = ((ds.take (i + 1)).filter c).map f ∧ ω2 = put ω1 p (.lst (((ds.take i).filter c).map f))) := by
      rintro b ω2 ⟨rfl, rfl⟩
      refine ⟨fun hct s H C cl fp => ?_, fun hcf => ⟨?_, rfl⟩⟩
      · refine (hel hct s H C cl fp).shrink.imp fun r ω4 ⟨e4, er⟩ => ?_
        subst e4
        refine ⟨_, put_same, hlen i, ?_, put_put⟩
        rw [eds, List.filter_append, List.map_append, er]
        simp [List.filter_cons, hct]
      · rw [eds, List.filter_append, List.map_append]
        simp [List.filter_cons, hcf]
    refine ⟨es, he, fun s H C cl fp => ?_⟩
    have w := hb s H C cl fp
    match ifs, w with
    | [], w => exact fin2 true _ ⟨rfl, w.2⟩
    | [t], w =>
      have w : GT (bl X scope s H C cl fp) H0 t (setR (wipeR ρ vs) js es) (put ω1 p (.lst (((ds.take i).filter c).map f))) fun b ω2 => Ext (put ω1 p (.lst (((ds.take i).filter c).map f))) ω2 ∧ b = c d := w
      exact w.shrink.imp fin2
  · rintro acc ω' ⟨rfl, rfl⟩
    rw [List.take_length]
    exact fin p hp
end
end Q2
namespace Q2
open PySem PySem.Spec L2
abbrev XD := Value → Option Addr → Om → Prop
abbrev DSp := List D → Om → QE → XD → Prop
def toSp (K : PySem.W.Frag) (s : DSp) : Sp := fun vs H Q E => ∃ ds ω Qd Ed, Ims K H vs ds ∧ HRel K H ω ∧ s ds ω Qd Ed ∧
  (∀ d ω' v H', Qd d ω' → TK K H H' → HRel K H' ω' → Im K H' v d → Q v H') ∧ (∀ c x ω' H', Ed c x ω' → TK K H H' → HRel K H' ω' → E c x H')
abbrev XR := Value → Option Addr → Rho → Om → Prop
def XW (X : Cx) (H0 : Hp) (Ex : XR) : Prop := Takes X fun cls d σ H => ∃ ρ ω, Rel X.K H0 σ H ρ ω ∧ Ex cls d ρ ω
theorem xw0 {X : Cx} {H0 : Hp} : XW X H0 fun _ _ _ _ => False := fun _ _ x => by
  obtain ⟨_, _, _, _, _, _, _, _, _, _, _, _, _, _, _, _, _, _, _, z⟩ := x
  exact z.elim
structure Cal (P : Program) (w : World) (K : PySem.W.Frag) (mg : Str → Option Value) (base : Heap) (k : Nat) (x : Str) (s : DSp) : Prop where
  ex : ∃ (f : Addr) (fd : FuncData) (ps : List Str), mg x = some (.ref f) ∧ PySem.W.keepIn K (.ref f) = true ∧ Binds K fd ps [] ∧ FnOk P w K mg base (L2.CX P w) k f fd ps (toSp K s)
theorem Rel.based {K : PySem.W.Frag} {H0 H1 : Hp} {σ : St} {H : Hp} {ρ : Rho} {ω : Om} (R : Rel K H0 σ H ρ ω) (t : TK K H1 H) : Rel K H1 σ H ρ ω := ⟨t, R.len, R.sl, R.hr⟩
section
variable {X : Cx} {H0 : Hp} {ρ : Rho} {ω ω' : Om} {P : GP}
theorem ge_call {k : Nat} {x : Str} {s : DSp} {e : Expr} {es : List Expr} {p pos : Pos} {Ex : XR} {Q : QE} (C : Cal X.prog X.w X.K X.mg X.base k x s) (hr : Room k X.A) (tk : XW X H0 Ex) (hg : Gl X x) (h : GA X H0 (e :: es) ρ ω fun ds ω1 => s ds ω1 Q fun c x ω2 => Ex c x ρ ω2)
    (hdb : (x == ("__debug__" : Str)) = false := by decide) (he : starEach (e :: es) X.env = (false, eval e X.env) :: starEach es X.env := by rfl) (hpl : (backTo pos (starEach es X.env)).any (·.1) = false := by rfl) : GE X H0 (.Call (.Name x p) (e :: es) [] pos) ρ ω Q := by
  obtain ⟨f, fd, ps, hm, hk, hb, F⟩ := C.ex
  refine fun σ H R => we_of (pe_callS (E := fun σ' cls d H' => ∃ ρ ω, Rel X.K H0 σ' H' ρ ω ∧ Ex cls d ρ ω) F hr hg hm hk hb (fun σ' => passAt tk σ') pa_wa hdb he hpl) (thnA (h σ H R) fun vs H1 ⟨t, ds, w, R1, is, q⟩ => ?_)
  exact ⟨ds, w, _, _, is, R1.hr, q, fun d ω' v H' qd t2 hr2 i => ⟨t.trans t2, d, ω', R1.move t2 hr2, i, qd⟩, fun c x ω' H' ed t2 hr2 => ⟨ρ, ω', R1.move t2 hr2, ed⟩⟩
theorem ge_call0 {k : Nat} {x : Str} {s : DSp} {p pos : Pos} {Q : QE} (C : Cal X.prog X.w X.K X.mg X.base k x s) (hr : Room k X.A) (hg : Gl X x) (h : s [] ω Q fun _ _ _ => False) (hdb : (x == ("__debug__" : Str)) = false := by decide) : GE X H0 (.Call (.Name x p) [] [] pos) ρ ω Q := by
  obtain ⟨f, fd, ps, hm, hk, hb, F⟩ := C.ex
  refine fun σ H R => we_of (pe_call0 (dvs := []) (E := fun _ _ _ => False) F hr hg hm hk hb .nil (fun pins σ' H' s' e s'' I c => by
    obtain ⟨_, _, _, _, _, _, _, _, _, _, _, _, z⟩ := c
    exact z.elim) hdb) ?_
  exact ⟨[], ω, _, _, .nil, R.hr, h, fun d ω' v H' qd t2 hr2 i => ⟨t2, d, ω', R.move t2 hr2, i, qd⟩, fun c x ω' H' ed t2 hr2 => ed.elim⟩
theorem gs_raise {e : Expr} {C : Addr} {pos : Pos} {Ex : XR} (hc : X.calm = true) (tk : XW X H0 Ex) (he : PMk X e (fun _ H Q => Q (.ref C) none H)) (q : Ex (.ref C) none ρ ω) : GS X H0 (.Raise (some e) none pos) ρ ω P := fun σ H R =>
  ws_of (ps_raise hc tk he) ⟨ρ, ω, R, q⟩
structure ExcC (K : PySem.W.Frag) (mg : Str → Option Value) (x : Str) (C : Addr) : Prop where
  g : mg x = some (.ref C)
  kp : PySem.W.keepIn K (.ref C) = true
  sb : PySem.W.subIn K (.ref C) (.type "BaseException") = some true
  ty : PySem.W.typeIn K (.ref C) = some (.type "type")
  mkd : PySem.W.excIn K C [.type "ValueError", .type "Exception", .type "BaseException", .type "object"] "ValueError.__new__" = true
theorem pmk_exc {x m : Str} {C : Addr} {j : Nat} {p p2 pos : Pos} (c : ExcC X.K X.mg x C) (hg : Gl X x) (hdb : (x == ("__debug__" : Str)) = false := by decide) : PMk X (.Call (.Name x p) [.Constant (.str m) j p2] [] pos) (fun _ H Q => Q (.ref C) none H) :=
  pmk_own PySem.F.excBase_ValueError c.mkd c.g c.kp (raises_own c.sb c.ty) hg hdb
theorem gs_try {x : Str} {c : Value} {body suite : List Stmt} {b0 : Stmt} {np pos pos' : Pos} {Ex1 Ex : XR} (hs : X.stack = X.env :: X.outer) (hf : X.env.frame = some X.env.locals) (hc : Names X x c) (tk : XW X H0 Ex)
    (h1 : ∀ Hb pn xe, XW (X.tr pn xe) Hb Ex1 → PassesOwn (model X.prog X.w) X.A X.env xe → GSs (X.tr pn xe) Hb body ρ ω P)
    (h2 : ∀ cls d ρ' ω', Ex1 cls d ρ' ω' → ∃ b, PySem.W.exmOne X.K cls c = some b ∧ (b = true → ∀ Hb a oe pn, Zc cls d oe → (∃ vs, oe.data = .fields vs) → GSs (X.suite a ((a, oe) :: pn)) Hb (b0 :: suite) ρ' ω' P) ∧ (b = false → Ex cls d ρ' ω')) :
    GS X H0 (.Try body [.ExceptHandler (some (.Name x np)) none (b0 :: suite) pos'] [] [] pos) ρ ω P := fun σ H R => by
  refine ws_of (ps_try_only (Wout := fun cls d σ' H' => ∃ ρ ω, Rel X.K H0 σ' H' ρ ω ∧ Ex cls d ρ ω) (tb := fun W D σ H => ∀ pn xe, Takes (X.tr pn xe) W → PassesOwn (model X.prog X.w) X.A X.env xe → WSs (X.tr pn xe) body D σ H)
    (ts := fun a cls d D σ H => ∀ oe pn, Zc cls d oe → (∃ vs, oe.data = .fields vs) → WSs (X.suite a ((a, oe) :: pn)) (b0 :: suite) D σ H) hs hf hc tk (fun W pn xe t p => ⟨fun pins sh σ H D I h => h pn xe t p pins sh I⟩) (fun a oe cls d pn hz hd => ⟨fun pins sh σ H D I h => h oe pn hz hd pins sh I⟩)) ?_
  intro pn xe t p
  have R' : Rel X.K H σ H ρ ω := R.based (TK.refl H)
  have tk1 : XW (X.tr pn xe) H Ex1 := t.imp fun cls d σ1 H1 ⟨ρ1, ω1, R1, q⟩ => by
    obtain ⟨b, e, hy, hn⟩ := h2 cls d ρ1 ω1 q
    refine ⟨b, e, fun hb a ha oe pn hz hd => ?_, fun hb => ⟨ρ1, ω1, R1.based (R.tk.trans R1.tk), hn hb⟩⟩
    have g : GSs (X.suite a ((a, oe) :: pn)) H (b0 :: suite) ρ1 ω1 P := hy hb H a oe pn hz hd
    refine ⟨fun pins s I => ?_⟩
    exact thn (g σ1 H1 R1 pins s I) (ends_mono (fun _ _ ⟨a, ρ2, ω2, R2, q⟩ => ⟨R1.tk.trans a, ρ2, ω2, R2.based (R.tk.trans (R1.tk.trans a)), q⟩) (fun _ _ ⟨a, b, q⟩ => ⟨R1.tk.trans a, R.tk.trans (R1.tk.trans a), q⟩) (fun _ _ ⟨a, ρ2, ω2, R2, q⟩ => ⟨R1.tk.trans a, ρ2, ω2, R2.based (R.tk.trans (R1.tk.trans a)), q⟩) fun _ _ ⟨a, ρ2, ω2, R2, q⟩ => ⟨R1.tk.trans a, ρ2, ω2, R2.based (R.tk.trans (R1.tk.trans a)), q⟩)
  refine ⟨fun pins s I => ?_⟩
  exact thn (h1 H pn xe tk1 p σ H R' pins s I) (ends_mono (fun _ _ ⟨a, ρ1, ω1, R1, q⟩ => ⟨a, ρ1, ω1, R1.based (R.tk.trans a), q⟩) (fun _ _ ⟨a, b, q⟩ => ⟨a, R.tk.trans a, q⟩) (fun _ _ ⟨a, ρ1, ω1, R1, q⟩ => ⟨a, ρ1, ω1, R1.based (R.tk.trans a), q⟩) fun _ _ ⟨a, ρ1, ω1, R1, q⟩ => ⟨a, ρ1, ω1, R1.based (R.tk.trans a), q⟩)
end
def startR (N : List Str) (ds : List D) : Rho := ds.map some ++ List.replicate (N.length - ds.length) none
theorem rel_start {K : PySem.W.Frag} {H : Hp} {N : List Str} {vs : List V} {ds : List D} {ω : Om} (is : Ims K H vs ds) (hr : HRel K H ω) : Rel K H (L2.start N vs) H (startR N ds) ω := by
  refine ⟨TK.refl H, ?_, fun i d e => ?_, hr⟩
  · unfold L2.start startR
    rw [List.length_append, List.length_append, List.length_map, List.length_map, List.length_replicate, List.length_replicate, is.length]
  · unfold startR at e
    unfold L2.start
    by_cases h : i < ds.length
    · rw [List.getElem?_append_left (by rw [List.length_map]; exact h), List.getElem?_map] at e
      rw [List.getElem?_append_left (by rw [List.length_map, is.length]; exact h), List.getElem?_map]
      cases q : ds[i]? with
      | none => rw [q] at e; cases e
      | some d' =>
        rw [q] at e
        cases e
        obtain ⟨v, g, im⟩ := is.get q
        exact ⟨v, by rw [g] <;> rfl, im⟩
    · rw [List.getElem?_append_right (by rw [List.length_map]; omega)] at e
      have := List.mem_of_getElem? e
      simp at this
def Rt (Qd : QE) : QE := fun d ω' => ∃ ω0, Ext ω0 ω' ∧ Qd d ω0
def bodyP (Qd : QE) : GP := { nx := fun _ ω' => Rt Qd .non ω', rt := Rt Qd }
def bodyX (Ed : XD) : XR := fun c x _ ω' => ∃ ω0, Ext ω0 ω' ∧ Ed c x ω0
theorem fn_ok {P : Program} {w : World} {K : PySem.W.Frag} {mg : Str → Option Value} {base : Heap} {x qual : Str} {st : Stmt} {f : Addr} {fd : FuncData} {N ps : List Str} {k : Nat} {s : DSp} (F : Fun K x qual st f fd) (S : FnScope N ps (defScope st))
    (len : ∀ ds ω Q E, s ds ω Q E → ds.length = ps.length)
    (hbody : ∀ (X : Cx) (cdv : Value) (A : Around) (outer : List Env) (sh : Shared) (H : Hp) (E : XK) (ds : List D) (ω : Om) (Qd : QE) (Ed : XD), X = cxOf (L2.CX P w) P w K mg base N qual (defScope st) f cdv A outer sh H E → Room k X.A → XW X H (bodyX Ed) → s ds ω Qd Ed → GSs X H (defBody st) (startR N ds) ω (bodyP Qd)) :
    FnOk P w K mg base (L2.CX P w) (k + 1) f fd ps (toSp K s) := by
  refine F.okX S (fun vs H Q E ⟨ds, ω, Qd, Ed, is, hr, h, _⟩ => is.length.trans (len _ _ _ _ h)) fun cdv A outer sh H vs Q E hroom h => ?_
  obtain ⟨ds, ω, Qd, Ed, is, hr, h, hQ, hE⟩ := h
  have tk0 : Takes (cxOf (L2.CX P w) P w K mg base N qual (defScope st) f cdv A outer sh H E) (fun cls d _ H => E cls d H) := takes_of rfl rfl rfl rfl
  have tk : XW (cxOf (L2.CX P w) P w K mg base N qual (defScope st) f cdv A outer sh H E) H (bodyX Ed) := tk0.imp fun c d σ H' ⟨ρ, ω', R, ω0, x, ed⟩ => hE c d ω0 H' ed R.tk (R.hr.less x)
  have g := hbody _ cdv A outer sh H E ds ω Qd Ed rfl hroom tk h (L2.start N vs) H (rel_start is hr)
  refine ⟨WSs _ (defBody st), pss_ws, ⟨fun pins s' I => thn (g pins s' I) (ends_mono (fun σ' H' ⟨t, ρ', ω', R, ω0, x, q⟩ => hQ .non ω0 .non H' q t (R.hr.less x) .non) (fun v H' ⟨t, t2, d, ω', hr', i, ω0, x, q⟩ => hQ d ω0 v H' q t (hr'.less x) i) (fun _ _ ⟨_, _, _, _, z⟩ => z.elim) (fun _ _ ⟨_, _, _, _, z⟩ => z.elim))⟩⟩
structure DefAt (K : PySem.W.Frag) (mg : Str → Option Value) (x : Str) (st : Stmt) (ps : List Str) : Prop where
  ex : ∃ (f : Addr) (fd : FuncData), mg x = some (.ref f) ∧ Fun K x x st f fd ∧ Binds K fd ps []
theorem cal_of {P : Program} {w : World} {K : PySem.W.Frag} {mg : Str → Option Value} {base : Heap} {x : Str} {st : Stmt} {N ps : List Str} {k : Nat} {s : DSp} (A : DefAt K mg x st ps) (S : FnScope N ps (defScope st)) (len : ∀ ds ω Q E, s ds ω Q E → ds.length = ps.length)
    (hbody : ∀ (X : Cx) (f : Addr) (cdv : Value) (A : Around) (outer : List Env) (sh : Shared) (H : Hp) (E : XK) (ds : List D) (ω : Om) (Qd : QE) (Ed : XD), X = cxOf (L2.CX P w) P w K mg base N x (defScope st) f cdv A outer sh H E → Room k X.A → XW X H (bodyX Ed) → s ds ω Qd Ed → GSs X H (defBody st) (startR N ds) ω (bodyP Qd)) :
    Cal P w K mg base (k + 1) x s := by
  obtain ⟨f, fd, hm, F, b⟩ := A.ex
  exact ⟨f, fd, ps, hm, F.kp, b, fn_ok F S len fun X cdv A outer sh H E ds ω Qd Ed => hbody X f cdv A outer sh H E ds ω Qd Ed⟩
section
variable {X : Cx} {H0 : Hp} {ρ : Rho} {ω ω' : Om} {P : GP}
theorem gs_doc {x : Str} {j : Nat} {pos pos' : Pos} (q : P.nx ρ ω) : GS X H0 (.Expr (.Constant (.str x) j pos) pos') ρ ω P := fun σ H R => ws_of ps_doc ⟨TK.refl H, ρ, ω, R, q⟩
theorem ge_neg {a : Expr} {pos : Pos} {Q : QE} (h : GE X H0 a ρ ω fun d ω1 => ∃ i, d = .int i ∧ Q (.int (-i)) ω1) : GE X H0 (.UnaryOp .USub a pos) ρ ω Q := fun σ H R =>
  we_of (pe_un un_neg pe_we) (thnE (h σ H R) fun v H1 ⟨t, d, w, R1, i, k, e, q⟩ => by subst e; cases i; exact ⟨k, rfl, t, _, w, R1, .int _, q⟩)
theorem gt_ev {e : Expr} {Q : QT} (b : Bool) (h : GT X H0 e ρ ω fun k ω1 => Ext ω ω1 ∧ k = b) (q : Q b ω) : GT X H0 e ρ ω Q := h.shrink.imp fun _ _ ⟨a, c⟩ => by subst a c; exact q
theorem ge_ev {e : Expr} {Q : QE} (d : D) (h : GE X H0 e ρ ω fun k ω1 => Ext ω ω1 ∧ k = d) (q : Q d ω) : GE X H0 e ρ ω Q := h.shrink.imp fun _ _ ⟨a, c⟩ => by subst a c; exact q
theorem tru_lst {a : Addr} {ds : List D} (h : ω a = some (.lst ds)) : tru ω (.ref a) = some (!ds.isEmpty) := by
  show (match ω a with
    | some (.lst ds) => some (!ds.isEmpty)
    | some (.rol ds) => some (!ds.isEmpty)
    | some (.dct kvs) => some (!kvs.isEmpty)
    | _ => none) = _
  rw [h]
theorem isT_lst {a : Addr} {ds : List D} {T : String} (h : ω a = some (.lst ds)) : isT T ω (.ref a) = some (decide ("list" = T) || (decide ("list" = "bool") && decide (T = "int"))) := by
  show ((match ω a with
    | some (.lst _) => some "list"
    | some (.rol _) => some "list"
    | some (.dct _) => some "dict"
    | _ => none).map _) = _
  rw [h] <;> rfl
theorem isT_str {d : D} {k : String} (h : kindD ω d = some k) : ∃ b, isT "str" ω d = some b ∧ (b = true → ∃ s, d = .str s) ∧ (b = false → ∀ s, d ≠ .str s) := by
  cases d with
  | str s => exact ⟨true, rfl, fun _ => ⟨s, rfl⟩, fun z => (nomatch z)⟩
  | ref a =>
    refine ⟨false, ?_, fun z => (nomatch z), fun _ s z => (nomatch z)⟩
    unfold isT
    rw [h]
    have h' : (match ω a with
      | some (.lst _) => some "list"
      | some (.rol _) => some "list"
      | some (.dct _) => some "dict"
      | _ => none) = some k := h
    split at h' <;> cases h' <;> decide
  | _ => exact ⟨false, by first | rfl | decide, fun z => (nomatch z), fun _ s z => (nomatch z)⟩
theorem isT_tup {d : D} {k : String} (h : kindD ω d = some k) : ∃ b, isT "tuple" ω d = some b ∧ (b = true → ∃ s, d = .tup s) ∧ (b = false → ∀ s, d ≠ .tup s) := by
  cases d with
  | tup s => exact ⟨true, rfl, fun _ => ⟨s, rfl⟩, fun z => (nomatch z)⟩
  | ref a =>
    refine ⟨false, ?_, fun z => (nomatch z), fun _ s z => (nomatch z)⟩
    unfold isT
    rw [h]
    have h' : (match ω a with
      | some (.lst _) => some "list"
      | some (.rol _) => some "list"
      | some (.dct _) => some "dict"
      | _ => none) = some k := h
    split at h' <;> cases h' <;> decide
  | _ => exact ⟨false, by first | rfl | decide, fun z => (nomatch z), fun _ s z => (nomatch z)⟩
theorem rt0 {Qd : QE} {d : D} (q : Qd d ω) : Rt Qd d ω := ⟨ω, Ext.refl ω, q⟩
theorem rt1 {Qd : QE} {d : D} (x : Ext ω ω') (q : Qd d ω) : Rt Qd d ω' := ⟨ω, x, q⟩
theorem bx0 {Ed : XD} {c : Value} {x : Option Addr} {ρ : Rho} (q : Ed c x ω) : bodyX Ed c x ρ ω := ⟨ω, Ext.refl ω, q⟩
theorem bx1 {Ed : XD} {c : Value} {x : Option Addr} {ρ : Rho} (e : Ext ω ω') (q : Ed c x ω) : bodyX Ed c x ρ ω' := ⟨ω, e, q⟩
end
theorem rtq {Qd : QE} {d a : D} {ω ω' : Om} (x : Ext ω ω') (q : Qd a ω) (e : a = d) : Rt Qd d ω' := ⟨ω, x, e ▸ q⟩
theorem names_exc {X : Cx} {x : Str} {C : Addr} (c : ExcC X.K X.mg x C) (hg : Gl X x) (hdb : (x == ("__debug__" : Str)) = false := by decide) : Names X x (.ref C) := ⟨hg, hdb, .inl c.g⟩
structure Bl (mg : Str → Option Value) : Prop where
  «isinstance» : mg "isinstance" = none
  «len» : mg "len" = none
  «min» : mg "min" = none
  «max» : mg "max" = none
  «sorted» : mg "sorted" = none
  «str» : mg "str" = none
  «int» : mg "int" = none
  «bool» : mg "bool" = none
  «tuple» : mg "tuple" = none
  «list» : mg "list" = none
  «range» : mg "range" = none
  «set» : mg "set" = none
  «dict» : mg "dict" = none
  «enumerate» : mg "enumerate" = none
theorem bb_isinstance : bootBuiltins "isinstance" = some (.builtin "isinstance") := by decide +kernel
theorem bb_len : bootBuiltins "len" = some (.builtin "len") := by decide +kernel
theorem bb_min : bootBuiltins "min" = some (.builtin "min") := by decide +kernel
theorem bb_max : bootBuiltins "max" = some (.builtin "max") := by decide +kernel
theorem bb_sorted : bootBuiltins "sorted" = some (.builtin "sorted") := by decide +kernel
theorem bb_str : bootBuiltins "str" = some (.type "str") := by decide +kernel
theorem bb_int : bootBuiltins "int" = some (.type "int") := by decide +kernel
theorem bb_bool : bootBuiltins "bool" = some (.type "bool") := by decide +kernel
theorem bb_tuple : bootBuiltins "tuple" = some (.type "tuple") := by decide +kernel
theorem bb_list : bootBuiltins "list" = some (.type "list") := by decide +kernel
theorem bb_range : bootBuiltins "range" = some (.type "range") := by decide +kernel
theorem bb_set : bootBuiltins "set" = some (.type "set") := by decide +kernel
theorem bb_dict : bootBuiltins "dict" = some (.type "dict") := by decide +kernel
theorem bb_enumerate : bootBuiltins "enumerate" = some (.type "enumerate") := by decide +kernel
end Q2
namespace Q2
open PySem PySem.Spec L2 SX
section
variable {X : Cx} {H0 : Hp} {ρ : Rho} {ω : Om} {P : GP}
theorem gss_len (i : Nat) {l : List Nat} {b : List Stmt} (h : ρ[i]? = some (some (.str l))) (q : l.length ≤ sizeLine → GSs X H0 b ρ ω P) : GSs X H0 b ρ ω P := fun σ H R =>
  let ⟨_, _, r⟩ := R.sl i _ h
  q (im_str r).2 σ H R
theorem ge_len (i : Nat) {l : List Nat} {e : Expr} {Q : QE} (h : ρ[i]? = some (some (.str l))) (q : l.length ≤ sizeLine → GE X H0 e ρ ω Q) : GE X H0 e ρ ω Q := fun σ H R =>
  let ⟨_, _, r⟩ := R.sl i _ h
  q (im_str r).2 σ H R
def Sc (ω : Om) (a : Addr) (ds : List D) : Prop := ω a = some (.rol ds) ∨ ω a = some (.lst ds)
theorem Sc.ext {ω ω' : Om} {a : Addr} {ds : List D} (h : Sc ω a ds) (e : Ext ω ω') : Sc ω' a ds := h.imp (e _ _) (e _ _)
theorem gc_lenA {a : Addr} {ds : List D} {Q : QE} (h : Sc ω a ds) (q : Q (.int ds.length) ω) : GC X H0 ρ (.builtin "len") [.ref a] ω Q := h.elim (fun h => gc_lenR h q) fun h => gc_lenL h q
theorem gi_A {a : Addr} {ds : List D} {i : Int} {d : D} {Q : QE} (h : Sc ω a ds) (e : atI ds i = some d) (q : Q d ω) : GI X H0 ρ (.ref a) (.int i) ω Q := h.elim (fun h => gi_rol h e q) fun h => gi_lst h e q
end
end Q2
namespace Q2
open PySem PySem.Spec L2 SX
def noLists (K : PySem.W.Frag) : Bool := K.all fun p => match p.2.cls with
  | .type t => !(t == "list")
  | _ => true
theorem mem_of_lookup {K : PySem.W.Frag} {a : Addr} {o : Obj} : K.lookup a = some o → ∃ b, (b, o) ∈ K := by
  induction K with
  | nil => intro h; cases h
  | cons p r ih =>
    intro h
    obtain ⟨b, u⟩ := p
    rw [List.lookup_cons] at h
    split at h
    · cases h; exact ⟨b, List.Mem.head _⟩
    · obtain ⟨c, hc⟩ := ih h
      exact ⟨c, List.Mem.tail _ hc⟩
theorem sql_rd {K : PySem.W.Frag} {H : Hp} {a : Addr} {xs : List V} (nl : noLists K = true) (h : SqL K H a xs) : Rd H a (.lst xs) := by
  rcases h with h | ⟨o, its, n, hk, hc, _⟩
  · exact h
  · obtain ⟨b, hb⟩ := mem_of_lookup hk
    have := List.all_eq_true.mp nl _ hb
    rw [show (b, o).2.cls = .type "list" from hc] at this
    simp at this
theorem ims_ints {K : PySem.W.Frag} {H : Hp} : ∀ ns : List Int, Ims K H (ns.map V.int) (ns.map D.int)
  | [] => .nil
  | n :: r => .cons (.int n) (ims_ints r)
theorem walkD {l : PySem.W.OpenLaw} {q : Program} {loose : List Str} {XP : (Str → Option Value) → Heap → Prop} {YP : World → Heap → Prop} {d : DefRec} {K : Params → PySem.W.Frag} {x : Str} {k : Nat} {sp : DSp}
    (hn : l.most = some 63) (hdf : d.params.defaults = []) (hr : Room k callerA) (hY : ∀ (w : World) (h : Heap), YP w h → (K w.params).In h) (nl : ∀ w : World, noLists (K w.params) = true)
    (F : ∀ (w : World) (mg : Str → Option Value) (fa : Addr) (h : Heap), (K w.params).In h → h.Ns mainGlobals mg → mg d.name = some (.ref fa) →
      ∃ fd : FuncData, (∀ (s : Shared) (u : Value), BindsTo s fd ⟨[u], []⟩ [(x, u)]) ∧ ∀ base : Heap, (K w.params).In base → base.Ns mainGlobals mg → FnOk l.prog w (K w.params) mg base (L2.CX l.prog w) k fa fd [x] (toSp (K w.params) sp))
    (hs : ∀ (a : Addr) (ns : List Int) (ω : Om), ω a = some (.rol (ns.map D.int)) → ns.length ≤ 63 → sp [.ref a] ω (fun d _ => d = .bl true) fun _ _ _ => False) :
    PySem.W.WalkO q loose XP YP l.row.toRowW d [] (fun f vs => PySem.call f vs) :=
  L2.walk_of (n := 63) (k := k) (x := x) (CX := fun w => L2.CX l.prog w) (sp := fun w => toSp (K w.params) sp) hn (by decide) hdf hr hY F
    (fun w H a ns hl _ hS => by
      refine ⟨[.ref a], put (fun _ => none) a (.rol (ns.map D.int)), fun d _ => d = .bl true, fun _ _ _ => False, .cons (.ref a) .nil, ?_, hs a ns _ put_same hl, ?_, ?_⟩
      · intro b m e
        by_cases hb : b = a
        · subst hb
          rw [put_same] at e
          cases e
          exact ⟨_, sql_rd (nl w) hS, ims_ints ns⟩
        · rw [put_ne hb] at e
          cases e
      · intro d ω' v H' e _ _ i
        subst e
        cases i
        rfl
      · intro c x ω' H' e
        exact e.elim)
    (fun w H s e s' z => by
      obtain ⟨_, _, _, _, _, _, _, _, _, _, _, _, z⟩ := z
      exact z.elim)
theorem defAt {K : PySem.W.Frag} {h : Heap} {mg : Str → Option Value} {x : Str} {st : Stmt} {ps : List Str} {f : Addr} {oc : Value} {od an : Option Addr} {sl : Array (Option Value)} {kV dc pm cd ct : Value} (X : K.In h) (G : h.Ns mainGlobals mg)
    (a : PySem.W.nsIn K mainGlobals x = some (some (.ref f))) (l : K.lookup f = some ⟨oc, od, .func (PySem.W.fnOf x x (defArgs st) (defBody st) (defScope st) .none kV dc pm an cd ct), sl⟩) (c : PySem.W.codeIn K cd x = true) (k : PySem.W.keepIn K (.ref f) = true)
    (hb : ∀ F : Fun K x x st f (PySem.W.fnOf x x (defArgs st) (defBody st) (defScope st) .none kV dc pm an cd ct), Binds K (PySem.W.fnOf x x (defArgs st) (defBody st) (defScope st) .none kV dc pm an cd ct) ps []) : DefAt K mg x st ps :=
  ⟨f, _, PySem.W.mg_of X G a, fun_mk l c k, hb (fun_mk l c k)⟩
theorem glob_str {K : PySem.W.Frag} {h : Heap} {mg : Str → Option Value} {x : Str} {l : List Nat} {u : Str} {t : Tok} (X : K.In h) (G : h.Ns mainGlobals mg) (a : PySem.W.nsIn K mainGlobals x = some (some (.str u t))) (e : u.cps.toList = l) (hl : l.length ≤ sizeLine := by decide) : Glob K mg x (.str l) := by
  obtain rfl : u = S l := by rw [← e, S_tl]
  exact ⟨_, .str (S l), PySem.W.mg_of X G a, ⟨t, rfl⟩, fun H => .str l hl⟩
theorem glob_int {K : PySem.W.Frag} {h : Heap} {mg : Str → Option Value} {x : Str} {n : Int} {t : Tok} (X : K.In h) (G : h.Ns mainGlobals mg) (a : PySem.W.nsIn K mainGlobals x = some (some (.int n t))) : Glob K mg x (.int n) :=
  ⟨_, .int n, PySem.W.mg_of X G a, ⟨t, rfl⟩, fun H => .int n⟩
theorem excC {K : PySem.W.Frag} {h : Heap} {mg : Str → Option Value} {x : Str} {C : Addr} (X : K.In h) (G : h.Ns mainGlobals mg) (a : PySem.W.nsIn K mainGlobals x = some (some (.ref C))) (k : PySem.W.keepIn K (.ref C) = true) (b : PySem.W.subIn K (.ref C) (.type "BaseException") = some true)
    (t : PySem.W.typeIn K (.ref C) = some (.type "type")) (m : PySem.W.excIn K C [.type "ValueError", .type "Exception", .type "BaseException", .type "object"] "ValueError.__new__" = true) : ExcC K mg x C := ⟨PySem.W.mg_of X G a, k, b, t, m⟩
end Q2
namespace Q2
open PySem PySem.Spec L2 SX
section
variable {X : Cx} {H0 : Hp} {ρ : Rho} {ω ω' : Om}
theorem atI_in {α : Type} {l : List α} {k : Int} (h0 : 0 ≤ k) (h1 : k < l.length) : ∃ x, atI l k = some x ∧ x ∈ l := by
  obtain ⟨n, rfl⟩ := Int.eq_ofNat_of_zero_le h0
  have hn : n < l.length := by omega
  refine ⟨l[n], ?_, List.getElem_mem hn⟩
  unfold atI ixN
  rw [if_pos (Int.natCast_nonneg n), if_pos (by omega)]
  simpa using List.getElem?_eq_getElem hn
theorem free_of {ω : Om} {p q : Addr} {m : MO} (h : put ω p m q = none) : ω q = none := by
  unfold put at h
  split at h
  · cases h
  · exact h
theorem ne_of_free {ω : Om} {p q : Addr} {m : MO} (h : ω p = some m) (g : ω q = none) : p ≠ q := fun e => by
  subst e
  rw [h] at g
  cases g
theorem all_nil {α : Type} {P : α → Prop} : ∀ x ∈ ([] : List α), P x := fun _ m => nomatch m
theorem all_cons {α : Type} {P : α → Prop} {a : α} {r : List α} (h : P a) (g : ∀ x ∈ r, P x) : ∀ x ∈ a :: r, P x := fun x m => by
  rcases List.mem_cons.mp m with rfl | m
  · exact h
  · exact g x m
theorem all_app {α : Type} {P : α → Prop} {a b : List α} (h : ∀ x ∈ a, P x) (g : ∀ x ∈ b, P x) : ∀ x ∈ a ++ b, P x := fun x m => by
  rcases List.mem_append.mp m with m | m
  · exact h x m
  · exact g x m
theorem gi_all {a : Addr} {ds : List D} {i : Int} {Q : QE} (P : D → Prop) (ha : ω a = some (.lst ds)) (h0 : 0 ≤ i) (h1 : i < ds.length) (hp : ∀ x ∈ ds, P x) (q : ∀ d, P d → Q d ω) : GI X H0 ρ (.ref a) (.int i) ω Q := by
  obtain ⟨x, e, m⟩ := atI_in h0 h1
  exact gi_lst ha e (q x (hp x m))
theorem gi_allE {a : Addr} {ds : List D} {i : Int} {Q : QE} (P : Om → D → Prop) (ha : ω a = some (.lst ds)) (h0 : 0 ≤ i) (h1 : i < ds.length) (hp : ∀ x ∈ ds, P ω x) (q : ∀ d, P ω d → Q d ω) : GI X H0 ρ (.ref a) (.int i) ω Q := gi_all (P ω) ha h0 h1 hp q
theorem gi_allG {a : Addr} {ds : List D} {i : Int} {Q : QE} (P : Om → D → Prop) (F : Om → Prop) (ha : ω a = some (.lst ds)) (h0 : 0 ≤ i) (h1 : i < ds.length) (hF : F ω) (hp : ∀ x ∈ ds, P ω x) (q : ∀ ω' d, F ω' → P ω' d → Q d ω') : GI X H0 ρ (.ref a) (.int i) ω Q := gi_all (P ω) ha h0 h1 hp fun d h => q ω d hF h
theorem gi_allT {ds : List D} {i : Int} {Q : QE} (P : D → Prop) (h0 : 0 ≤ i) (h1 : i < ds.length) (hp : ∀ x ∈ ds, P x) (q : ∀ d, P d → Q d ω) : GI X H0 ρ (.tup ds) (.int i) ω Q := by
  obtain ⟨x, e, m⟩ := atI_in h0 h1
  exact gi_tup e (q x (hp x m))
end
theorem Ims.rep {K : PySem.W.Frag} {H : Hp} {vs : List V} {ds : List D} (r : Ims K H vs ds) : ∀ n : Nat, Ims K H (List.replicate n vs).flatten (List.replicate n ds).flatten
  | 0 => .nil
  | n + 1 => by
    rw [List.replicate_succ, List.replicate_succ, List.flatten_cons, List.flatten_cons]
    exact r.append (Ims.rep r n)
section
variable {X : Cx} {H0 : Hp} {ρ : Rho} {ω ω' : Om}
theorem gb_mulT {ds : List D} {n : Int} {Q : QE} (hne : ds ≠ []) (h2 : 2 ≤ n) (h3 : n ≤ 1000) (hl : ds.length ≤ 1000) (q : Q (.tup (List.replicate n.toNat ds).flatten) ω) : GB X H0 ρ (binaryOp .Mult) (.tup ds) (.int n) ω Q := fun σ H x y R hx hy => by
  obtain ⟨a, xs, rfl, h1, r1⟩ := im_tup hx
  cases hy
  have hxs : xs ≠ [] := fun e => by
    subst e
    cases r1
    exact hne rfl
  refine ro_of op_repT ⟨a, n, xs, rfl, rfl, h1, hxs, h2, h3, by rw [r1.length]; exact hl, fun p hp => ?_⟩
  have e := same_new (o := .tup (List.replicate n.toNat xs).flatten) hp
  exact ⟨tk_same e, _, ω, R.same e, .tup (SqT.of upd_same) ((r1.rep _).mono (tk_same e)), q⟩
end
theorem cutD_le (xs : List D) (lo hi : Option Int) : (cutD xs lo hi).length ≤ xs.length := by
  unfold cutD
  rw [List.length_take, List.length_drop]
  omega
theorem cutD_take (xs : List D) (k : Nat) : cutD xs none (some (k : Int)) = xs.take k := by
  unfold cutD
  rw [HT.sIx_none, HT.sIx_nat]
  simp
theorem cutD_drop (xs : List D) (k : Nat) : cutD xs (some (k : Int)) none = xs.drop k := by
  unfold cutD
  rw [HT.sIx_none, HT.sIx_nat, List.take_of_length_le (by rw [List.length_drop]; omega)]
  by_cases h : k ≤ xs.length
  · rw [Nat.min_eq_left h]
  · rw [Nat.min_eq_right (by omega), List.drop_length, List.drop_of_length_le (by omega)]
mutual
def kn (ω : Om) : D → Bool
  | .tup ds => kns ω ds
  | .ref a => (kindD ω (.ref a)).isSome
  | _ => true
def kns (ω : Om) : List D → Bool
  | [] => true
  | d :: r => kn ω d && kns ω r
end
theorem kns_mem {ω : Om} : ∀ {ds : List D}, kns ω ds = true → ∀ d ∈ ds, kn ω d = true
  | [], _, d, m => by cases m
  | e :: r, h, d, m => by
    have h : (kn ω e && kns ω r) = true := h
    rw [Bool.and_eq_true] at h
    rcases List.mem_cons.mp m with rfl | m
    · exact h.1
    · exact kns_mem h.2 d m
theorem kns_of {ω : Om} : ∀ {ds : List D}, (∀ d ∈ ds, kn ω d = true) → kns ω ds = true
  | [], _ => rfl
  | e :: r, h => by
    show (kn ω e && kns ω r) = true
    rw [h e (List.mem_cons_self ..), kns_of fun d m => h d (List.mem_cons_of_mem _ m)]
    rfl
theorem kn_tup {ω : Om} {ds : List D} (h : kn ω (.tup ds) = true) : ∀ d ∈ ds, kn ω d = true := kns_mem h
theorem kn_kind {ω : Om} {d : D} (h : kn ω d = true) : ∃ k, kindD ω d = some k := by
  cases d with
  | ref a => exact Option.isSome_iff_exists.mp h
  | _ => exact ⟨_, rfl⟩
theorem kn_lst {ω : Om} {a : Addr} {ds : List D} (h : ω a = some (.lst ds)) : kn ω (.ref a) = true := by
  show (kindD ω (.ref a)).isSome = true
  simp [kindD, h]
theorem kns_one {ω : Om} {d : D} (h : kn ω d = true) : kns ω [d] = true := by
  show (kn ω d && true) = true
  rw [h]
  rfl
theorem kns_app {ω : Om} : ∀ {a b : List D}, kns ω a = true → kns ω b = true → kns ω (a ++ b) = true
  | [], _, _, h => h
  | d :: r, b, h, g => by
    have h : (kn ω d && kns ω r) = true := h
    rw [Bool.and_eq_true] at h
    show (kn ω d && kns ω (r ++ b)) = true
    rw [h.1, kns_app h.2 g]
    rfl
theorem kns_cons {ω : Om} {d : D} {r : List D} (h : kn ω d = true) (g : kns ω r = true) : kns ω (d :: r) = true := by
  show (kn ω d && kns ω r) = true
  rw [h, g]
  rfl
theorem kn_tupI {ω : Om} {ds : List D} (h : kns ω ds = true) : kn ω (.tup ds) = true := h
theorem kns_strs {ω : Om} (ps : List (List Nat)) : kns ω (ps.map D.str) = true := kns_of fun d m => by
  obtain ⟨x, _, rfl⟩ := List.mem_map.mp m
  rfl
theorem kns_cut {ω : Om} {ds : List D} (lo hi : Option Int) (h : kns ω ds = true) : kns ω (cutD ds lo hi) = true := kns_of fun d m => by
  unfold cutD at m
  exact kns_mem h d (List.mem_of_mem_drop (List.mem_of_mem_take m))
theorem kind_ext {ω ω' : Om} {d : D} {k : String} (x : Ext ω ω') (h : kindD ω d = some k) : kindD ω' d = some k := by
  cases d with
  | ref a =>
    unfold kindD at h ⊢
    cases e : ω a with
    | none => simp [e] at h
    | some m =>
      have e2 := x a m e
      simp only [e, e2] at h ⊢
      exact h
  | _ => exact h
mutual
theorem kn_ext {ω ω' : Om} (x : Ext ω ω') : ∀ d : D, kn ω d = true → kn ω' d = true
  | .tup ds, h => kns_ext x ds h
  | .ref a, h => by
    obtain ⟨k, hk⟩ := Option.isSome_iff_exists.mp h
    exact Option.isSome_iff_exists.mpr ⟨k, kind_ext x hk⟩
  | .non, _ => rfl
  | .bl _, _ => rfl
  | .int _, _ => rfl
  | .str _, _ => rfl
theorem kns_ext {ω ω' : Om} (x : Ext ω ω') : ∀ ds : List D, kns ω ds = true → kns ω' ds = true
  | [], _ => rfl
  | d :: r, h => by
    have h : (kn ω d && kns ω r) = true := h
    rw [Bool.and_eq_true] at h
    show (kn ω' d && kns ω' r) = true
    rw [kn_ext x d h.1, kns_ext x r h.2]
    rfl
end
def tupB : D → Bool
  | .tup _ => true
  | _ => false
def strB : D → Bool
  | .str _ => true
  | _ => false
def intB : D → Bool
  | .int _ => true
  | .bl _ => true
  | _ => false
def blB : D → Bool
  | .bl _ => true
  | _ => false
theorem tupB_iff {d : D} (h : tupB d = true) : ∃ ds, d = .tup ds := by
  cases d with
  | tup ds => exact ⟨ds, rfl⟩
  | _ => cases h
theorem strB_iff {d : D} (h : strB d = true) : ∃ s, d = .str s := by
  cases d with
  | str ds => exact ⟨ds, rfl⟩
  | _ => cases h
theorem kind_ref {ω : Om} {a : Addr} {k : String} (h : kindD ω (.ref a) = some k) : k = "list" ∨ k = "dict" := by
  have h' : (match ω a with
    | some (.lst _) => some "list"
    | some (.rol _) => some "list"
    | some (.dct _) => some "dict"
    | _ => none) = some k := h
  split at h' <;> cases h' <;> simp
theorem isT_kn {ω : Om} {d : D} (h : kn ω d = true) : isT "tuple" ω d = some (tupB d) ∧ isT "str" ω d = some (strB d) ∧ isT "int" ω d = some (intB d) ∧ isT "bool" ω d = some (blB d) := by
  cases d with
  | ref a =>
    obtain ⟨k, hk⟩ := Option.isSome_iff_exists.mp h
    unfold isT
    rw [hk]
    rcases kind_ref hk with rfl | rfl <;> exact ⟨rfl, rfl, rfl, rfl⟩
  | _ => exact ⟨rfl, rfl, rfl, rfl⟩
theorem it_tup {ω : Om} {d : D} (h : kn ω d = true) : isT "tuple" ω d = some (tupB d) := (isT_kn h).1
theorem it_str {ω : Om} {d : D} (h : kn ω d = true) : isT "str" ω d = some (strB d) := (isT_kn h).2.1
theorem it_int {ω : Om} {d : D} (h : kn ω d = true) : isT "int" ω d = some (intB d) := (isT_kn h).2.2.1
theorem it_bl {ω : Om} {d : D} (h : kn ω d = true) : isT "bool" ω d = some (blB d) := (isT_kn h).2.2.2
def unStr : Value → Option (List Nat)
  | .str u _ => some u.cps.toList
  | _ => none
theorem vals_strs : ∀ {vs : List Value} {ls : List (List Nat)}, vs.map unStr = ls.map some → Vals (ls.map fun l => V.str (S l)) vs
  | [], [], _ => .nil
  | [], _ :: _, h => by simp at h
  | _ :: _, [], h => by simp at h
  | v :: vs, l :: ls, h => by
    simp only [List.map_cons, List.cons.injEq] at h
    refine .cons ?_ (vals_strs h.2)
    cases v with
    | str u t =>
      have e : u.cps.toList = l := Option.some.inj h.1
      refine ⟨t, ?_⟩
      rw [← e, S_tl]
    | _ => cases h.1
theorem ims_strs {K : PySem.W.Frag} {H : Hp} : ∀ {ls : List (List Nat)}, ls.all (fun l => decide (l.length ≤ 1000)) = true → Ims K H (ls.map fun l => V.str (S l)) (ls.map D.str)
  | [], _ => .nil
  | l :: r, h => by
    rw [List.all_cons, Bool.and_eq_true] at h
    have h1 := of_decide_eq_true h.1
    exact .cons (.str l (Nat.le_trans h1 (by decide))) (ims_strs h.2)
theorem glob_strs {K : PySem.W.Frag} {h : Heap} {mg : Str → Option Value} {x : Str} {p : Addr} {od : Option Addr} {its : Array Value} {n : Nat} {sl : Array (Option Value)} {ls : List (List Nat)} (X : K.In h) (G : h.Ns mainGlobals mg) (a : PySem.W.nsIn K mainGlobals x = some (some (.ref p))) (l : K.lookup p = some ⟨.type "tuple", od, .seq its n, sl⟩) (e : its.toList.map unStr = ls.map some) (z : (decide (its.size ≤ 1000) && ls.all (fun l => decide (l.length ≤ 1000))) = true) : Glob K mg x (.tup (ls.map D.str)) := by
  rw [Bool.and_eq_true] at z
  refine ⟨_, .ref p, PySem.W.mg_of X G a, rfl, fun H => .tup (xs := ls.map fun l => V.str (S l)) (.inr ⟨_, its, n, l, rfl, rfl, ?_, vals_strs e⟩) (ims_strs z.2)⟩
  have := of_decide_eq_true z.1
  exact Nat.le_trans this (by decide)
end Q2
namespace Q2
open PySem PySem.Spec L2 SX
def fputD (f : Str) (d : D) : List (Str × D) → List (Str × D)
  | [] => [(f, d)]
  | (g, x) :: r => if g = f then (g, d) :: r else (g, x) :: fputD f d r
theorem KD.fput {K : PySem.W.Frag} {H : Hp} {f : Str} {v : V} {d : D} (i : Im K H v d) : ∀ {gs : List (Str × V)} {fs : List (Str × D)}, KD K H gs fs → KD K H (putF f v gs) (fputD f d fs)
  | [], [], _ => .cons ⟨rfl, i⟩ .nil
  | (g, x) :: r, (g2, y) :: z, .cons ⟨e, j⟩ t => by
    have e : g = g2 := e
    subst e
    show KD K H (if g = f then (g, v) :: r else (g, x) :: putF f v r) (if g = f then (g, d) :: z else (g, y) :: fputD f d z)
    by_cases h : g = f
    · rw [if_pos h, if_pos h]
      exact .cons ⟨rfl, i⟩ t
    · rw [if_neg h, if_neg h]
      exact .cons ⟨rfl, j⟩ (KD.fput i t)
theorem KD.look {K : PySem.W.Frag} {H : Hp} {f : Str} {d : D} : ∀ {gs : List (Str × V)} {fs : List (Str × D)}, KD K H gs fs → fs.lookup f = some d → ∃ v, gs.lookup f = some v ∧ Im K H v d
  | [], [], _, h => by cases h
  | (g, x) :: r, (g2, y) :: z, .cons ⟨e, j⟩ t, h => by
    have e : g = g2 := e
    subst e
    rw [List.lookup_cons] at h ⊢
    split at h
    · cases h
      exact ⟨x, rfl, j⟩
    · exact KD.look t h
theorem KD.nolook {K : PySem.W.Frag} {H : Hp} {f : Str} : ∀ {gs : List (Str × V)} {fs : List (Str × D)}, KD K H gs fs → fs.lookup f = none → gs.lookup f = none
  | [], [], _, _ => rfl
  | (g, x) :: r, (g2, y) :: z, .cons ⟨e, j⟩ t, h => by
    have e : g = g2 := e
    subst e
    rw [List.lookup_cons] at h ⊢
    split at h
    · cases h
    · exact KD.nolook t h
def valD (kvs : List (Key × D)) (k : Key) : Option D := (kvs.find? fun kv => decide (kv.1 = k)).map (·.2)
def putD (kvs : List (Key × D)) (k : Key) (d : D) : List (Key × D) := if (kvs.any fun kv => decide (kv.1 = k)) = true then kvs.map (fun kv => if kv.1 = k then (kv.1, d) else kv) else kvs ++ [(k, d)]
def dropD (kvs : List (Key × D)) (k : Key) : List (Key × D) := kvs.filter fun kv => decide (kv.1 ≠ k)
theorem valD_cons (k g : Key) (d : D) (r : List (Key × D)) : valD ((g, d) :: r) k = if g = k then some d else valD r k := by
  unfold valD
  by_cases h : g = k
  · rw [if_pos h, List.find?_cons_of_pos (by simpa using h)]; rfl
  · rw [if_neg h, List.find?_cons_of_neg (by simpa using h)]
theorem KD.val {K : PySem.W.Frag} {H : Hp} {k : Key} : ∀ {gs : List (Key × V)} {fs : List (Key × D)}, KD K H gs fs → (valD fs k = none → valV gs k = none) ∧ ∀ d, valD fs k = some d → ∃ v, valV gs k = some v ∧ Im K H v d
  | [], [], _ => ⟨fun _ => rfl, fun d h => by cases h⟩
  | (g, x) :: r, (g2, y) :: z, .cons ⟨e, j⟩ t => by
    have e : g = g2 := e
    subst e
    rw [valD_cons]
    by_cases h : g = k
    · rw [if_pos h, valV_pos h]
      exact ⟨fun n => (nomatch n), fun d n => (by cases n; exact ⟨x, rfl, j⟩)⟩
    · rw [if_neg h, valV_neg h]
      exact KD.val t
theorem KD.any {K : PySem.W.Frag} {H : Hp} {p : Key → Bool} : ∀ {gs : List (Key × V)} {fs : List (Key × D)}, KD K H gs fs → (gs.any fun kv => p kv.1) = fs.any fun kv => p kv.1
  | [], [], _ => rfl
  | (g, x) :: r, (g2, y) :: z, .cons ⟨e, j⟩ t => by
    have e : g = g2 := e
    subst e
    rw [List.any_cons, List.any_cons, KD.any t]
theorem KD.mapv {K : PySem.W.Frag} {H : Hp} {k : Key} {v : V} {d : D} (i : Im K H v d) : ∀ {gs : List (Key × V)} {fs : List (Key × D)}, KD K H gs fs → KD K H (gs.map fun kv => if kv.1 = k then (kv.1, v) else kv) (fs.map fun kv => if kv.1 = k then (kv.1, d) else kv)
  | [], [], _ => .nil
  | (g, x) :: r, (g2, y) :: z, .cons ⟨e, j⟩ t => by
    have e : g = g2 := e
    subst e
    rw [List.map_cons, List.map_cons]
    refine .cons ?_ (KD.mapv i t)
    by_cases h : g = k
    · rw [if_pos h, if_pos h]; exact ⟨rfl, i⟩
    · rw [if_neg h, if_neg h]; exact ⟨rfl, j⟩
theorem KD.app {K : PySem.W.Frag} {H : Hp} {b : List (Key × V)} {c : List (Key × D)} (q : KD K H b c) : ∀ {gs : List (Key × V)} {fs : List (Key × D)}, KD K H gs fs → KD K H (gs ++ b) (fs ++ c)
  | [], [], _ => q
  | _ :: _, _ :: _, .cons h t => .cons h (KD.app q t)
theorem KD.put {K : PySem.W.Frag} {H : Hp} {k : Key} {v : V} {d : D} {gs : List (Key × V)} {fs : List (Key × D)} (r : KD K H gs fs) (i : Im K H v d) : KD K H (putK gs k v) (putD fs k d) := by
  unfold putK putD
  rw [KD.any (p := fun x => decide (x = k)) r]
  split
  · exact KD.mapv i r
  · exact KD.app (.cons ⟨rfl, i⟩ .nil) r
theorem KD.drop {K : PySem.W.Frag} {H : Hp} {k : Key} : ∀ {gs : List (Key × V)} {fs : List (Key × D)}, KD K H gs fs → KD K H (dropK gs k) (dropD fs k)
  | [], [], _ => .nil
  | (g, x) :: r, (g2, y) :: z, .cons ⟨e, j⟩ t => by
    have e : g = g2 := e
    subst e
    have ih : KD K H (dropK r k) (dropD z k) := KD.drop t
    unfold dropK dropD at ih ⊢
    by_cases h : g = k
    · rw [List.filter_cons_of_neg (by simp [h]), List.filter_cons_of_neg (by simp [h])]; exact ih
    · rw [List.filter_cons_of_pos (by simp [h]), List.filter_cons_of_pos (by simp [h])]; exact .cons ⟨rfl, j⟩ ih
def keyD : D → Option Key
  | .int i => some (Sum.inl i)
  | .str s => some (Sum.inr (S s))
  | _ => none
theorem im_key {K : PySem.W.Frag} {H : Hp} {v : V} {d : D} {k : Key} (i : Im K H v d) (e : keyD d = some k) : v = kV k := by
  cases i <;> cases e <;> rfl
section
variable {X : Cx} {H0 : Hp} {ρ : Rho} {ω ω' : Om} {P : GP}
theorem ge_dnew {pos : Pos} {Q : QE} (q : ∀ p, ω p = none → Q (.ref p) (put ω p (.dct []))) : GE X H0 (.Dict [] [] pos) ρ ω Q := fun σ H R => we_of pe_dnewK fun p hp => by
  have e := same_new (o := HO.dK []) hp
  exact ⟨tk_same e, .ref p, _, R.move (tk_same e) (R.hr.new (m := .dct []) hp ⟨[], upd_same, .nil⟩), .ref p, q p (R.hr.free hp)⟩
theorem dget_of {K : PySem.W.Frag} {H : Hp} {a : Addr} {kd : D} {v : V} {k : Key} {gs : List (Key × V)} (h : H a = some (.dK gs)) (i : Im K H v kd) (e : keyD kd = some k) : DGet H a v (valV gs k) := by
  rw [im_key i e]
  exact DGet.k h
theorem gb_din {a : Addr} {kd : D} {k : Key} {kvs : List (Key × D)} {Q : QE} (hu : X.A.units + 64 < cLine) (w : ω a = some (.dct kvs)) (e : keyD kd = some k) (q : Q (.bl (valD kvs k).isSome) ω) : GB X H0 ρ (compareOp .In) kd (.ref a) ω Q := fun σ H x y R hx hy => by
  cases hy
  obtain ⟨gs, h, r⟩ := R.hr _ _ w
  intro pins s σ' v u I rx ry
  cases ry
  have hv := KD.val (k := k) r
  refine d_in (by omega) I (dget_of h hx e) rx fun s3 I3 => ⟨.bl (valV gs k).isSome, H, I3, rfl, TK.refl H, .bl (valD kvs k).isSome, ω, R, ?_, q⟩
  cases ev : valD kvs k with
  | none => rw [hv.1 ev]; exact .bl _
  | some d => obtain ⟨v', e', _⟩ := hv.2 d ev; rw [e']; exact .bl _
theorem gb_dnotin {a : Addr} {kd : D} {k : Key} {kvs : List (Key × D)} {Q : QE} (hu : X.A.units + 64 < cLine) (w : ω a = some (.dct kvs)) (e : keyD kd = some k) (q : Q (.bl (!(valD kvs k).isSome)) ω) : GB X H0 ρ (compareOp .NotIn) kd (.ref a) ω Q := fun σ H x y R hx hy => by
  cases hy
  obtain ⟨gs, h, r⟩ := R.hr _ _ w
  intro pins s σ' v u I rx ry
  cases ry
  have hv := KD.val (k := k) r
  refine d_notIn (by omega) I (dget_of h hx e) rx fun s3 I3 => ⟨.bl (!(valV gs k).isSome), H, I3, rfl, TK.refl H, .bl (!(valD kvs k).isSome), ω, R, ?_, q⟩
  cases ev : valD kvs k with
  | none => rw [hv.1 ev]; exact .bl _
  | some d => obtain ⟨v', e', _⟩ := hv.2 d ev; rw [e']; exact .bl _
theorem ge_dget {o i : Expr} {pos : Pos} {Q : QE} (hu : X.A.units + 64 < cLine) (hs : NoSl i) (h : GE X H0 o ρ ω fun d ω1 => GE X H0 i ρ ω1 fun kd ω2 => ∃ a kvs k v, d = .ref a ∧ ω2 a = some (.dct kvs) ∧ keyD kd = some k ∧ valD kvs k = some v ∧ Q v ω2) : GE X H0 (.Subscript o i pos) ρ ω Q := fun σ H R =>
  we_of (pe_dget (by omega) pe_we pe_we hs) (thnE (h σ H R) fun x H1 ⟨t1, d, ω1, R1, i1, h1⟩ => thnE (h1 σ H1 R1) fun y H2 ⟨t2, kd, ω2, R2, i2, a, kvs, k, v, e1, w, e2, e3, q⟩ => by
    subst e1
    cases i1
    obtain ⟨gs, g, r⟩ := R2.hr _ _ w
    obtain ⟨u, ev, iv⟩ := (KD.val (k := k) r).2 v e3
    exact ⟨a, u, rfl, by rw [← ev]; exact dget_of g i2 e2, t1.trans t2, v, ω2, R2, iv, q⟩)
theorem gs_dput {o i value : Expr} {pos pos' : Pos} (hu : X.A.units + 64 < cLine) (h : GE X H0 value ρ ω fun y ω1 => GE X H0 o ρ ω1 fun d ω2 => GE X H0 i ρ ω2 fun kd ω3 => ∃ a kvs k, d = .ref a ∧ ω3 a = some (.dct kvs) ∧ keyD kd = some k ∧ kvs.length < sizeLine ∧ P.nx ρ (put ω3 a (.dct (putD kvs k y))))
    (hs : swapsWith value (some (.Subscript o i pos')) pos.line X.env = pure false := by rfl) : GS X H0 (.Assign [.Subscript o i pos'] value pos) ρ ω P := fun σ H R =>
  ws_of (ps_dput (by omega) pe_we pe_we pe_we hs) (thnE (h σ H R) fun v H1 ⟨t1, y, ω1, R1, i1, h1⟩ => thnE (h1 σ H1 R1) fun x H2 ⟨t2, d, ω2, R2, i2, h2⟩ => thnE (h2 σ H2 R2) fun kv H3 ⟨t3, kd, ω3, R3, i3, a, kvs, k, e1, w, e2, hl, q⟩ => by
    subst e1
    cases i2
    obtain ⟨gs, g, r⟩ := R3.hr _ _ w
    have tp := tk_upd (K := X.K) (o' := HO.dK (putK gs k v)) g trivial
    have iy := (i1.mono (t2.trans t3)).mono tp
    refine ⟨a, upd H3 a (.dK (putK gs k v)), rfl, by rw [im_key i3 e2]; exact DPut.k g (by rw [r.length]; exact hl), ((t1.trans t2).trans t3).trans tp, ρ, _, R3.move tp (R3.hr.put (m := .dct (putD kvs k y)) g trivial ⟨_, upd_same, (r.mono tp).put iy⟩), q⟩)
theorem gc_lenD {a : Addr} {kvs : List (Key × D)} {Q : QE} (w : ω a = some (.dct kvs)) (q : Q (.int kvs.length) ω) : GC X H0 ρ (.builtin "len") [.ref a] ω Q := fun σ H vs R is => by
  obtain ⟨v, rfl, i⟩ := ims1 is
  cases i
  obtain ⟨gs, g, r⟩ := R.hr _ _ w
  refine rcl_of call_lenD ⟨a, gs, rfl, g, ?_⟩
  rw [r.length]
  exact vp0 R (.int _) q
theorem ge_dgetD {o e f : Expr} {apos cpos : Pos} {Q : QE} (hu : X.A.units + 64 < cLine) (h : GE X H0 o ρ ω fun d ω1 => ∃ a, d = .ref a ∧ (∃ kvs, ω1 a = some (.dct kvs)) ∧ GE X H0 e ρ ω1 fun kd ω2 => GE X H0 f ρ ω2 fun z ω3 => ∃ kvs k, ω3 a = some (.dct kvs) ∧ keyD kd = some k ∧ Q ((valD kvs k).getD z) ω3)
    (hb : attributeBase o "get" X.env (eval o X.env) = eval o X.env := by rfl)
    (hf : ((backTo cpos (starEach [e, f] X.env)).all (fun x => !x.1) && (backToKw cpos (keywordEach [] X.env)).all (fun x => x.1.isSome) && decide (([e, f] : List Expr).length + ([] : List Keyword).length + (if ([] : List Keyword).isEmpty then 0 else 1) < 30)) = true := by rfl)
    (hl : (apos.endLine == cpos.line) = true := by rfl) (ht : backTo cpos (starEach [e, f] X.env) = [(false, eval e X.env), (false, eval f X.env)] := by rfl) : GE X H0 (.Call (.Attribute o "get" apos) [e, f] [] cpos) ρ ω Q := fun σ H R =>
  we_of (pe_dget2 (by omega) pe_we pe_we pe_we ⟨hb, hf, hl, ht⟩) (thnE (h σ H R) fun x H1 ⟨t1, d, ω1, R1, i1, a, e1, ⟨kvs, w⟩, h1⟩ => by
    subst e1
    cases i1
    obtain ⟨gs0, g0, _⟩ := R1.hr _ _ w
    refine ⟨a, rfl, .inl ⟨gs0, .inl g0⟩, thnE (h1 σ H1 R1) fun y H2 ⟨t2, kd, ω2, R2, i2, h2⟩ => thnE (h2 σ H2 R2) fun z H3 ⟨t3, zd, ω3, R3, i3, kvs3, k, w3, e2, q⟩ => ?_⟩
    obtain ⟨gs, g, r⟩ := R3.hr _ _ w3
    have hv := KD.val (k := k) r
    refine ⟨_, dget_of g (i2.mono t3) e2, (t1.trans t2).trans t3, _, ω3, R3, ?_, q⟩
    cases ev : valD kvs3 k with
    | none => rw [hv.1 ev]; exact i3
    | some d => obtain ⟨v', e', iv⟩ := hv.2 d ev; rw [e']; exact iv)
theorem ge_dpop {o e : Expr} {apos cpos : Pos} {Q : QE} (h : GE X H0 o ρ ω fun d ω1 => ∃ a, d = .ref a ∧ (∃ kvs, ω1 a = some (.dct kvs)) ∧ GE X H0 e ρ ω1 fun kd ω2 => ∃ kvs k v, ω2 a = some (.dct kvs) ∧ keyD kd = some k ∧ valD kvs k = some v ∧ Q v (put ω2 a (.dct (dropD kvs k))))
    (hb : attributeBase o "pop" X.env (eval o X.env) = eval o X.env := by rfl)
    (hf : ((backTo cpos (starEach [e] X.env)).all (fun x => !x.1) && (backToKw cpos (keywordEach [] X.env)).all (fun x => x.1.isSome) && decide (([e] : List Expr).length + ([] : List Keyword).length + (if ([] : List Keyword).isEmpty then 0 else 1) < 30)) = true := by rfl)
    (hl : (apos.endLine == cpos.line) = true := by rfl) (ht : backTo cpos (starEach [e] X.env) = [(false, eval e X.env)] := by rfl) : GE X H0 (.Call (.Attribute o "pop" apos) [e] [] cpos) ρ ω Q := fun σ H R =>
  we_of (pe_dpop1 pe_we pe_we ⟨hb, hf, hl, ht⟩) (thnE (h σ H R) fun x H1 ⟨t1, d, ω1, R1, i1, a, e1, ⟨kvs, w⟩, h1⟩ => by
    subst e1
    cases i1
    obtain ⟨gs0, g0, _⟩ := R1.hr _ _ w
    refine ⟨a, rfl, .inl ⟨gs0, .inl g0⟩, thnE (h1 σ H1 R1) fun y H2 ⟨t2, kd, ω2, R2, i2, kvs2, k, v, w2, e2, e3, q⟩ => ?_⟩
    obtain ⟨gs, g, r⟩ := R2.hr _ _ w2
    obtain ⟨u, ev, iv⟩ := (KD.val (k := k) r).2 v e3
    have tp := tk_upd (K := X.K) (o' := HO.dK (dropK gs k)) g trivial
    exact ⟨gs, k, u, g, im_key i2 e2, ev, (t1.trans t2).trans tp, v, _, R2.move tp (R2.hr.put (m := .dct (dropD kvs2 k)) g trivial ⟨_, upd_same, (r.mono tp).drop⟩), iv.mono tp, q⟩)
theorem ge_fld {C : Addr} {e : Expr} {f : Str} {pos : Pos} {Q : QE} (c : Cls X.K C) (n : NoAttr X.K C f) (h : GE X H0 e ρ ω fun d ω1 => ∃ a dx fs v, d = .ref a ∧ ω1 a = some (.ins C dx fs) ∧ fs.lookup f = some v ∧ Q v ω1) (hb : attributeBase e f X.env (eval e X.env) = eval e X.env := by rfl) : GE X H0 (.Attribute e f pos) ρ ω Q := fun σ H R =>
  we_of (pe_fld pe_we hb) (thnE (h σ H R) fun x H1 ⟨t1, d, ω1, R1, i1, a, dx, fs, v, e1, w, e2, q⟩ => by
    subst e1
    cases i1
    obtain ⟨gs, g, r⟩ := R1.hr _ _ w
    obtain ⟨u, eu, iu⟩ := KD.look r e2
    exact ⟨a, C, dx, gs, u, rfl, g, c, n, eu, t1, v, ω1, R1, iu, q⟩)
theorem gs_fld {C : Addr} {o value : Expr} {f : Str} {pos pos' : Pos} (c : Cls X.K C) (n : NoAttr X.K C f) (h : GE X H0 value ρ ω fun y ω1 => GE X H0 o ρ ω1 fun d ω2 => ∃ a dx fs, d = .ref a ∧ ω2 a = some (.ins C dx fs) ∧ fs.length < 1000 ∧ P.nx ρ (put ω2 a (.ins C dx (fputD f y fs))))
    (hs : swapsWith value (some (.Attribute o f pos')) pos.line X.env = pure false := by rfl) : GS X H0 (.Assign [.Attribute o f pos'] value pos) ρ ω P := fun σ H R =>
  ws_of (ps_fld pe_we pe_we hs) (thnE (h σ H R) fun y H1 ⟨t1, yd, ω1, R1, i1, h1⟩ => thnE (h1 σ H1 R1) fun x H2 ⟨t2, d, ω2, R2, i2, a, dx, fs, e1, w, hl, q⟩ => by
    subst e1
    cases i2
    obtain ⟨gs, g, r⟩ := R2.hr _ _ w
    have tp := tk_upd (K := X.K) (o' := HO.ins C dx (putF f y gs)) g trivial
    have iy := (i1.mono t2).mono tp
    exact ⟨a, C, dx, gs, rfl, g, c, n, by rw [r.length]; exact hl, (t1.trans t2).trans tp, ρ, _, R2.move tp (R2.hr.put (m := .ins C dx (fputD f yd fs)) g trivial ⟨_, upd_same, KD.fput iy (r.mono tp)⟩), q⟩)
end
structure MCal (P : Program) (w : World) (K : PySem.W.Frag) (mg : Str → Option Value) (base : Heap) (k : Nat) (C : Addr) (m : Str) (s : DSp) : Prop where
  ex : ∃ (f : Addr) (fd : FuncData) (ps : List Str), Meth K C m f ∧ Binds K fd ps [] ∧ FnOk P w K mg base (L2.CX P w) k f fd ps (toSp K s)
structure NCal (P : Program) (w : World) (K : PySem.W.Frag) (mg : Str → Option Value) (base : Heap) (k : Nat) (x : Str) (C : Addr) (s : DSp) : Prop where
  ex : mg x = some (.ref C) ∧ ∃ (f : Addr) (fd : FuncData) (ps : List Str), Mk K C f ∧ Binds K fd ps [] ∧ FnOk P w K mg base (L2.CX P w) k f fd ps (toSp K s)
section
variable {X : Cx} {H0 : Hp} {ρ : Rho} {ω ω' : Om} {P : GP}
theorem ge_meth {pl : Sem Bool} {k : Nat} {C : Addr} {m : Str} {s : DSp} {o e : Expr} {es : List Expr} {apos pos : Pos} {Ex : XR} {Q : QE} (M : MCal X.prog X.w X.K X.mg X.base k C m s) (c : Cls X.K C) (hr : Room k X.A) (tk : XW X H0 Ex)
    (h : GE X H0 o ρ ω fun d ω1 => ∃ a dx fs, d = .ref a ∧ ω1 a = some (.ins C dx fs) ∧ fs.lookup m = none ∧ GA X H0 (e :: es) ρ ω1 fun ds ω2 => s (.ref a :: ds) ω2 Q fun c x ω3 => Ex c x ρ ω3)
    (hst : starEach (e :: es) X.env = (false, eval e X.env) :: starEach es X.env := by rfl) (hpl : (backTo pos (starEach es X.env)).any (·.1) = false := by rfl)
    (ht : eval (.Call (.Attribute o m apos) (e :: es) [] pos) X.env = (eval o X.env >>= fun ov => standAt apos.atName >>= fun _ => holding [ov] (getMethod ov m pl) >>= fun r => callWith pos r.1 r.2 (backTo pos (starEach (e :: es) X.env)) (backToKw pos (keywordEach [] X.env))) := by rfl) : GE X H0 (.Call (.Attribute o m apos) (e :: es) [] pos) ρ ω Q := fun σ H R => by
  obtain ⟨f, fd, ps, hm, hb, F⟩ := M.ex
  refine ⟨fun pins s0 I => PySem.W.methodCall_KW (pl := pl) (thn ((h σ H R).go pins s0 I) fun u s1 ⟨x, H1, I1, rx, t1, d, ω1, R1, i1, a, dx, fs, e1, w, l, q⟩ => ?_) ht⟩
  subst e1
  cases i1
  cases rx
  obtain ⟨gs, g, r⟩ := R1.hr _ _ w
  refine getmeth_ok I1 g c hm (KD.nolook r l) (PySem.W.callWith_K (first := [.ref a]) (h₀ := X.base) I.ok.mod.kin hm.kp (thn ((q σ H1 R1).go pos pins s1 I1) fun us s2 ⟨vs, H2, I2, rv, t2, ds, ω2, R2, is, sp⟩ => ⟨I2.kIn, ?_⟩) hst hpl)
  exact run_fnS (E := fun σ' cls d H' => ∃ ρ ω, Rel X.K H0 σ' H' ρ ω ∧ Ex cls d ρ ω) (us := .ref a :: us) (vs := .ref a :: vs) F hr hb (passAt tk σ) I2 (.cons rfl rv) ⟨.ref a :: ds, ω2, _, _, .cons (.ref a) is, R2.hr, sp, fun d ω' v H' qd t3 hr2 i => ⟨(t1.trans t2).trans t3, d, ω', R2.move t3 hr2, i, qd⟩, fun c x ω' H' ed t3 hr2 => ⟨ρ, ω', R2.move t3 hr2, ed⟩⟩
theorem ge_meth0 {pl : Sem Bool} {k : Nat} {C : Addr} {m : Str} {s : DSp} {o : Expr} {apos pos : Pos} {Ex : XR} {Q : QE} (M : MCal X.prog X.w X.K X.mg X.base k C m s) (c : Cls X.K C) (hr : Room k X.A) (tk : XW X H0 Ex)
    (h : GE X H0 o ρ ω fun d ω1 => ∃ a dx fs, d = .ref a ∧ ω1 a = some (.ins C dx fs) ∧ fs.lookup m = none ∧ s [.ref a] ω1 Q fun c x ω3 => Ex c x ρ ω3)
    (ht : eval (.Call (.Attribute o m apos) [] [] pos) X.env = (eval o X.env >>= fun ov => standAt apos.atName >>= fun _ => holding [ov] (getMethod ov m pl) >>= fun r => callWith pos r.1 r.2 (backTo pos (starEach [] X.env)) (backToKw pos (keywordEach [] X.env))) := by rfl) : GE X H0 (.Call (.Attribute o m apos) [] [] pos) ρ ω Q := fun σ H R => by
  obtain ⟨f, fd, ps, hm, hb, F⟩ := M.ex
  refine ⟨fun pins s0 I => PySem.W.methodCall_KW (pl := pl) (thn ((h σ H R).go pins s0 I) fun u s1 ⟨x, H1, I1, rx, t1, d, ω1, R1, i1, a, dx, fs, e1, w, l, q⟩ => ?_) ht⟩
  subst e1
  cases i1
  cases rx
  obtain ⟨gs, g, r⟩ := R1.hr _ _ w
  refine getmeth_ok I1 g c hm (KD.nolook r l) (PySem.W.callWith_K0 (first := [.ref a]) I1.kIn hm.kp ?_)
  exact run_fnS (E := fun σ' cls d H' => ∃ ρ ω, Rel X.K H0 σ' H' ρ ω ∧ Ex cls d ρ ω) (us := [.ref a]) (vs := [.ref a]) F hr hb (passAt tk σ) I1 (.cons rfl .nil) ⟨[.ref a], ω1, _, _, .cons (.ref a) .nil, R1.hr, q, fun d ω' v H' qd t3 hr2 i => ⟨t1.trans t3, d, ω', R1.move t3 hr2, i, qd⟩, fun c x ω' H' ed t3 hr2 => ⟨ρ, ω', R1.move t3 hr2, ed⟩⟩
theorem mk_run {CX : CXT} {k : Nat} {f C : Addr} {fd : FuncData} {ps : List Str} {sp : Sp} {E : St → XK} {pins : List (Addr × Obj)} {σ : St} {H : Hp} {s : Shared} {Q : VK} {us : List Value} {vs : List V} (M : Mk X.K C f) (F : FnOk X.prog X.w X.K X.mg X.base CX k f fd ps sp) (hr : Room (k + 1) X.A) (hb : Binds X.K fd ps []) (hx : PassesAt CX X σ (E σ)) (I : Inv X pins σ H s) (r : Vals vs us)
    (h : ∀ x dx, H x = none → H dx = none → dx ≠ x → sp (.ref x :: vs) (upd (upd H dx (.own x)) x (.ins C dx [])) (fun v H2 => v = .non ∧ Q (.ref x) H2) (E σ)) : wpAny (model X.prog X.w) X.A (call (.ref C) us) (EP X pins σ Q) X.xe s := by
  have z := h (s.heap.objs.size + 1) s.heap.objs.size (I.hok.fresh (Nat.le_succ _)) (I.hok.fresh (Nat.le_refl _)) (Nat.ne_of_lt (Nat.lt_succ_self _))
  have J := Inv.made (C := C) I
  have rr : Vals (V.ref (s.heap.objs.size + 1) :: vs) (Value.ref (s.heap.objs.size + 1) :: us) := .cons rfl r
  have len : (Value.ref (s.heap.objs.size + 1) :: us).length = ps.length := rr.length.symm.trans (F.len _ _ _ _ z)
  have b := hb _ (Value.ref (s.heap.objs.size + 1) :: us) J.kIn (by rw [List.append_nil]; exact len)
  rw [List.append_nil] at b
  refine wpAny_call (make_map (f := f) I.kIn M.makes M.init (beq_iff_eq.mp M.fn) (codeAny_mono (F.run _ X.stack _ _ ⟨Value.ref (s.heap.objs.size + 1) :: us, []⟩ (Value.ref (s.heap.objs.size + 1) :: us) _ _ (E σ) (hr.make C us []) (J.env0.make C us []) b rr z) fun q s' y => ?_))
  cases q with
  | error e => exact hx pins _ _ e s' J y
  | ok fl =>
    cases fl with
    | ret u =>
      obtain ⟨v, H', J2, rv, ev, q3⟩ := J.after y
      subst ev
      exact ⟨rv, ⟨V.ref (s.heap.objs.size + 1), H', J2, rfl, q3⟩⟩
    | _ => exact False.elim y
theorem made_rel {K : PySem.W.Frag} {H : Hp} {ω : Om} {x dx C : Addr} (h1 : H x = none) (h2 : H dx = none) (hne : dx ≠ x) (r : HRel K H ω) : TK K H (upd (upd H dx (.own x)) x (.ins C dx [])) ∧ HRel K (upd (upd H dx (.own x)) x (.ins C dx [])) (put ω x (.ins C dx [])) := by
  have s1 := same_new (o := HO.own x) h2
  have h3 : upd H dx (.own x) x = none := by rw [L2.upd_ne hne.symm]; exact h1
  have s2 := same_new (o := HO.ins C dx []) h3
  exact ⟨(tk_same s1).trans (tk_same s2), (r.same s1).new (m := .ins C dx []) h3 ⟨[], upd_same, .nil⟩⟩
theorem ge_make {k : Nat} {C : Addr} {x : Str} {s : DSp} {e : Expr} {es : List Expr} {p pos : Pos} {Ex : XR} {Q : QE} (N : NCal X.prog X.w X.K X.mg X.base k x C s) (hr : Room (k + 1) X.A) (tk : XW X H0 Ex) (hg : Gl X x)
    (h : GA X H0 (e :: es) ρ ω fun ds ω1 => ∀ a dx, ω1 a = none → s (.ref a :: ds) (put ω1 a (.ins C dx [])) (fun d ω2 => d = .non ∧ Q (.ref a) ω2) fun c x ω3 => Ex c x ρ ω3)
    (hdb : (x == ("__debug__" : Str)) = false := by decide) (he : starEach (e :: es) X.env = (false, eval e X.env) :: starEach es X.env := by rfl) (hpl : (backTo pos (starEach es X.env)).any (·.1) = false := by rfl) : GE X H0 (.Call (.Name x p) (e :: es) [] pos) ρ ω Q := fun σ H R => by
  obtain ⟨hm, f, fd, ps, M, hb, F⟩ := N.ex
  refine ⟨fun pins s0 I => wpAny_Call_Name_kw (ld_glob I hg hm ?_ hdb)⟩
  refine PySem.W.callWith_K (h₀ := X.base) I.ok.mod.kin M.kp (thn ((h σ H R).go pos pins s0 I) fun us s1 ⟨vs, H1, I1, rv, t1, ds, ω1, R1, is, q⟩ => ⟨I1.kIn, ?_⟩) he hpl
  refine mk_run (E := fun σ' cls d H' => ∃ ρ ω, Rel X.K H0 σ' H' ρ ω ∧ Ex cls d ρ ω) M F hr hb (passAt tk σ) I1 rv fun a dx g1 g2 g3 => ?_
  obtain ⟨t2, hr2⟩ := made_rel (C := C) g1 g2 g3 R1.hr
  have R2 := R1.move t2 hr2
  refine ⟨.ref a :: ds, _, _, _, .cons (.ref a) (is.mono t2), hr2, q a dx (R1.hr.free g1), fun d ω' v H' ⟨e1, qd⟩ t3 hr3 i => ?_, fun c x ω' H' ed t3 hr3 => ⟨ρ, ω', R2.move t3 hr3, ed⟩⟩
  subst e1
  cases i
  exact ⟨rfl, (t1.trans t2).trans t3, .ref a, ω', R2.move t3 hr3, .ref a, qd⟩
theorem ge_make0 {k : Nat} {C : Addr} {x : Str} {s : DSp} {p pos : Pos} {Ex : XR} {Q : QE} (N : NCal X.prog X.w X.K X.mg X.base k x C s) (hr : Room (k + 1) X.A) (tk : XW X H0 Ex) (hg : Gl X x)
    (h : ∀ a dx, ω a = none → s [.ref a] (put ω a (.ins C dx [])) (fun d ω2 => d = .non ∧ Q (.ref a) ω2) fun c x ω3 => Ex c x ρ ω3) (hdb : (x == ("__debug__" : Str)) = false := by decide) : GE X H0 (.Call (.Name x p) [] [] pos) ρ ω Q := fun σ H R => by
  obtain ⟨hm, f, fd, ps, M, hb, F⟩ := N.ex
  refine ⟨fun pins s0 I => wpAny_Call_Name_kw (ld_glob I hg hm ?_ hdb)⟩
  refine PySem.W.callWith_K0 I.kIn M.kp (mk_run (E := fun σ' cls d H' => ∃ ρ ω, Rel X.K H0 σ' H' ρ ω ∧ Ex cls d ρ ω) (us := []) (vs := []) M F hr hb (passAt tk σ) I .nil fun a dx g1 g2 g3 => ?_)
  obtain ⟨t2, hr2⟩ := made_rel (C := C) g1 g2 g3 R.hr
  have R2 := R.move t2 hr2
  refine ⟨[.ref a], _, _, _, .cons (.ref a) .nil, hr2, h a dx (R.hr.free g1), fun d ω' v H' ⟨e1, qd⟩ t3 hr3 i => ?_, fun c x ω' H' ed t3 hr3 => ⟨ρ, ω', R2.move t3 hr3, ed⟩⟩
  subst e1
  cases i
  exact ⟨rfl, t2.trans t3, .ref a, ω', R2.move t3 hr3, .ref a, qd⟩
theorem suite_back {X Y : Cx} {H0 H H1 : Hp} {σ σ1 : St} {ρ ρ1 : Rho} {ω ω1 : Om} {P : GP} {b : List Stmt} (ek : Y.K = X.K) (R : Rel X.K H0 σ H ρ ω) (R1 : Rel X.K H σ1 H1 ρ1 ω1) (R2 : Rel Y.K H σ1 H1 ρ1 ω1) (g : GSs Y H b ρ1 ω1 P) : WSs Y b (EN X H0 H P) σ1 H1 := by
  refine ⟨fun pins s I => thn ((g σ1 H1 R2).go pins s I) ?_⟩
  have r1 := R.tk
  have r2 := R1.tk
  refine ends_mono (fun _ _ ⟨a, ρ3, ω3, R3, q⟩ => ?_) (fun _ _ ⟨a, b, q⟩ => ?_) (fun _ _ ⟨a, ρ3, ω3, R3, q⟩ => ?_) fun _ _ ⟨a, ρ3, ω3, R3, q⟩ => ?_ <;> rw [ek] at *
  · exact ⟨r2.trans a, ρ3, ω3, R3.based (r1.trans (r2.trans a)), q⟩
  · exact ⟨r2.trans a, r1.trans (r2.trans a), q⟩
  · exact ⟨r2.trans a, ρ3, ω3, R3.based (r1.trans (r2.trans a)), q⟩
  · exact ⟨r2.trans a, ρ3, ω3, R3.based (r1.trans (r2.trans a)), q⟩
theorem gs_try2 {x1 x2 : Str} {c1 c2 : Value} {body su1 su2 : List Stmt} {a0 b0 : Stmt} {np1 np2 pos p1 p2 : Pos} {Ex1 Ex : XR} (hs : X.stack = X.env :: X.outer) (hf : X.env.frame = some X.env.locals) (hc1 : Names X x1 c1) (hc2 : Names X x2 c2) (tk : XW X H0 Ex)
    (h1 : ∀ Hb pn xe, XW (X.tr pn xe) Hb Ex1 → PassesOwn (model X.prog X.w) X.A X.env xe → GSs (X.tr pn xe) Hb body ρ ω P)
    (h2 : ∀ cls d ρ' ω', Ex1 cls d ρ' ω' → ∃ b, PySem.W.exmOne X.K cls c1 = some b ∧ (b = true → ∀ Hb a oe pn, Zc cls d oe → (∃ vs, oe.data = .fields vs) → GSs (X.suite a ((a, oe) :: pn)) Hb (a0 :: su1) ρ' ω' P) ∧ (b = false → ∃ b', PySem.W.exmOne X.K cls c2 = some b' ∧ (b' = true → ∀ Hb a oe pn, Zc cls d oe → (∃ vs, oe.data = .fields vs) → GSs (X.suite a ((a, oe) :: pn)) Hb (b0 :: su2) ρ' ω' P) ∧ (b' = false → Ex cls d ρ' ω'))) :
    GS X H0 (.Try body [.ExceptHandler (some (.Name x1 np1)) none (a0 :: su1) p1, .ExceptHandler (some (.Name x2 np2)) none (b0 :: su2) p2] [] [] pos) ρ ω P := fun σ H R => by
  refine ws_of (ps_try_many (Wout := fun cls d σ' H' => ∃ ρ ω, Rel X.K H0 σ' H' ρ ω ∧ Ex cls d ρ ω) (tb := fun W D σ H => ∀ pn xe, Takes (X.tr pn xe) W → PassesOwn (model X.prog X.w) X.A X.env xe → WSs (X.tr pn xe) body D σ H)
    (l := [(c1, fun a cls d D σ H => ∀ oe pn, Zc cls d oe → (∃ vs, oe.data = .fields vs) → WSs (X.suite a ((a, oe) :: pn)) (a0 :: su1) D σ H), (c2, fun a cls d D σ H => ∀ oe pn, Zc cls d oe → (∃ vs, oe.data = .fields vs) → WSs (X.suite a ((a, oe) :: pn)) (b0 :: su2) D σ H)])
    hs hf tk (fun W pn xe t p => ⟨fun pins sh σ H D I h => h pn xe t p pins sh I⟩) (.cons hc1 (fun a oe cls d pn hz hd => ⟨fun pins sh σ H D I h => h oe pn hz hd pins sh I⟩) (.cons hc2 (fun a oe cls d pn hz hd => ⟨fun pins sh σ H D I h => h oe pn hz hd pins sh I⟩) .nil))) ?_
  intro pn xe t p
  have R' : Rel X.K H σ H ρ ω := R.based (TK.refl H)
  have tk1 : XW (X.tr pn xe) H Ex1 := t.imp fun cls d σ1 H1 ⟨ρ1, ω1, R1, q⟩ => by
    obtain ⟨b, e, hy, hn⟩ := h2 cls d ρ1 ω1 q
    refine ⟨b, e, fun hb a ha oe pn hz hd => ?_, fun hb => ?_⟩
    · exact suite_back (Y := X.suite a ((a, oe) :: pn)) rfl R R1 R1 (hy hb H a oe pn hz hd)
    · obtain ⟨b', e', hy', hn'⟩ := hn hb
      exact ⟨b', e', fun hb' a ha oe pn hz hd => suite_back (Y := X.suite a ((a, oe) :: pn)) rfl R R1 R1 (hy' hb' H a oe pn hz hd), fun hb' => ⟨ρ1, ω1, R1.based (R.tk.trans R1.tk), hn' hb'⟩⟩
  exact suite_back (Y := X.tr pn xe) rfl R R' R' (h1 H pn xe tk1 p)
end
structure MAt (K : PySem.W.Frag) (C : Addr) (m qual : Str) (st : Stmt) (ps : List Str) : Prop where
  ex : ∃ (f : Addr) (fd : FuncData), Meth K C m f ∧ Fun K m qual st f fd ∧ Binds K fd ps []
structure NAt (K : PySem.W.Frag) (mg : Str → Option Value) (x : Str) (C : Addr) (qual : Str) (st : Stmt) (ps : List Str) : Prop where
  ex : mg x = some (.ref C) ∧ ∃ (f : Addr) (fd : FuncData), Mk K C f ∧ Fun K "__init__" qual st f fd ∧ Binds K fd ps []
theorem mcal_of {P : Program} {w : World} {K : PySem.W.Frag} {mg : Str → Option Value} {base : Heap} {C : Addr} {m qual : Str} {st : Stmt} {N ps : List Str} {k : Nat} {s : DSp} (A : MAt K C m qual st ps) (S : FnScope N ps (defScope st)) (len : ∀ ds ω Q E, s ds ω Q E → ds.length = ps.length)
    (hbody : ∀ (X : Cx) (f : Addr) (cdv : Value) (A : Around) (outer : List Env) (sh : Shared) (H : Hp) (E : XK) (ds : List D) (ω : Om) (Qd : QE) (Ed : XD), X = cxOf (L2.CX P w) P w K mg base N qual (defScope st) f cdv A outer sh H E → Room k X.A → XW X H (bodyX Ed) → s ds ω Qd Ed → GSs X H (defBody st) (startR N ds) ω (bodyP Qd)) : MCal P w K mg base (k + 1) C m s := by
  obtain ⟨f, fd, hm, F, b⟩ := A.ex
  exact ⟨f, fd, ps, hm, b, fn_ok F S len fun X cdv A outer sh H E ds ω Qd Ed => hbody X f cdv A outer sh H E ds ω Qd Ed⟩
theorem ncal_of {P : Program} {w : World} {K : PySem.W.Frag} {mg : Str → Option Value} {base : Heap} {C : Addr} {x qual : Str} {st : Stmt} {N ps : List Str} {k : Nat} {s : DSp} (A : NAt K mg x C qual st ps) (S : FnScope N ps (defScope st)) (len : ∀ ds ω Q E, s ds ω Q E → ds.length = ps.length)
    (hbody : ∀ (X : Cx) (f : Addr) (cdv : Value) (A : Around) (outer : List Env) (sh : Shared) (H : Hp) (E : XK) (ds : List D) (ω : Om) (Qd : QE) (Ed : XD), X = cxOf (L2.CX P w) P w K mg base N qual (defScope st) f cdv A outer sh H E → Room k X.A → XW X H (bodyX Ed) → s ds ω Qd Ed → GSs X H (defBody st) (startR N ds) ω (bodyP Qd)) : NCal P w K mg base (k + 1) x C s := by
  obtain ⟨hg, f, fd, hm, F, b⟩ := A.ex
  exact ⟨hg, f, fd, ps, hm, b, fn_ok F S len fun X cdv A outer sh H E ds ω Qd Ed => hbody X f cdv A outer sh H E ds ω Qd Ed⟩
theorem lkD_here {k : Str} {v : D} {r : List (Str × D)} : List.lookup k ((k, v) :: r) = some v := by simp [List.lookup]
theorem lkD_past {k g : Str} {v : D} {r : List (Str × D)} (h : (k == g) = false) : List.lookup k ((g, v) :: r) = List.lookup k r := by simp [List.lookup, h]
theorem fput_here {f : Str} {v x : D} {r : List (Str × D)} : fputD f v ((f, x) :: r) = (f, v) :: r := if_pos rfl
theorem fput_past {f g : Str} {v x : D} {r : List (Str × D)} (h : ¬ g = f) : fputD f v ((g, x) :: r) = (g, x) :: fputD f v r := if_neg h
theorem fputD_len (f : Str) (v : D) : ∀ fs : List (Str × D), (fputD f v fs).length ≤ fs.length + 1
  | [] => Nat.le_refl _
  | (g, x) :: r => by
    have := fputD_len f v r
    show (if g = f then (g, v) :: r else (g, x) :: fputD f v r).length ≤ _
    split
    · rw [List.length_cons, List.length_cons]; omega
    · rw [List.length_cons, List.length_cons]; omega
theorem mk_at {K : PySem.W.Frag} {C f : Addr} {m qual : Str} {st : Stmt} {ps : List Str} {oc : Value} {od an : Option Addr} {sl : Array (Option Value)} {kV dc pm cd ct : Value} (a : PySem.W.findIn K (.ref C) m = some (some (.ref f))) (i : PySem.W.isFn K (.ref f) = true)
    (l : K.lookup f = some ⟨oc, od, .func (PySem.W.fnOf m qual (defArgs st) (defBody st) (defScope st) .none kV dc pm an cd ct), sl⟩) (c : PySem.W.codeIn K cd qual = true) (k : PySem.W.keepIn K (.ref f) = true)
    (hb : ∀ F : Fun K m qual st f (PySem.W.fnOf m qual (defArgs st) (defBody st) (defScope st) .none kV dc pm an cd ct), Binds K (PySem.W.fnOf m qual (defArgs st) (defBody st) (defScope st) .none kV dc pm an cd ct) ps []) : MAt K C m qual st ps :=
  ⟨f, _, ⟨a, i, k⟩, fun_mk l c k, hb (fun_mk l c k)⟩
theorem mk_nat {K : PySem.W.Frag} {h : Heap} {mg : Str → Option Value} {x : Str} {C f : Addr} {qual : Str} {st : Stmt} {ps : List Str} {oc : Value} {od an : Option Addr} {sl : Array (Option Value)} {kV dc pm cd ct : Value} (X : K.In h) (G : h.Ns mainGlobals mg) (g : PySem.W.nsIn K mainGlobals x = some (some (.ref C))) (mk : PySem.W.makesIn K C = true) (kc : PySem.W.keepIn K (.ref C) = true)
    (a : PySem.W.findIn K (.ref C) "__init__" = some (some (.ref f))) (i : PySem.W.isFn K (.ref f) = true) (l : K.lookup f = some ⟨oc, od, .func (PySem.W.fnOf "__init__" qual (defArgs st) (defBody st) (defScope st) .none kV dc pm an cd ct), sl⟩) (c : PySem.W.codeIn K cd qual = true) (k : PySem.W.keepIn K (.ref f) = true)
    (hb : ∀ F : Fun K "__init__" qual st f (PySem.W.fnOf "__init__" qual (defArgs st) (defBody st) (defScope st) .none kV dc pm an cd ct), Binds K (PySem.W.fnOf "__init__" qual (defArgs st) (defBody st) (defScope st) .none kV dc pm an cd ct) ps []) : NAt K mg x C qual st ps :=
  ⟨PySem.W.mg_of X G g, f, _, ⟨mk, a, i, kc⟩, fun_mk l c k, hb (fun_mk l c k)⟩
end Q2
namespace Q2
open PySem PySem.Spec L2 SX
section
variable {X : Cx} {H0 : Hp} {ρ : Rho} {ω ω' : Om}
theorem gb_mulL {a : Addr} {ds : List D} {n : Int} {Q : QE} (w : ω a = some (.lst ds)) (h1 : 0 ≤ n) (h2 : n ≤ 1000) (hl : ds.length * n.toNat ≤ sizeLine) (q : ∀ p, ω p = none → Q (.ref p) (put ω p (.lst (List.replicate n.toNat ds).flatten))) : GB X H0 ρ (binaryOp .Mult) (.ref a) (.int n) ω Q := fun σ H x y R hx hy => by
  cases hx; cases hy
  obtain ⟨xs, g, r⟩ := R.hr _ _ w
  refine ro_of op_rep ⟨a, n, xs, rfl, rfl, g, by omega, by omega, by rw [r.length]; exact hl, fun p hp => ?_⟩
  have e := same_new (o := .lst (List.replicate n.toNat xs).flatten) hp
  exact ⟨tk_same e, .ref p, _, R.move (tk_same e) (R.hr.new (m := .lst (List.replicate n.toNat ds).flatten) hp ⟨_, upd_same, (r.rep _).mono (tk_same e)⟩), .ref p, q p (R.hr.free hp)⟩
end
end Q2
namespace Q2
open PySem PySem.Spec L2 SX
theorem fputD_le {f : Str} {v : D} {fs : List (Str × D)} {n : Nat} (h : fs.length ≤ n) : (fputD f v fs).length ≤ n + 1 := Nat.le_trans (fputD_len f v fs) (Nat.succ_le_succ h)
theorem fputD_no {f g : Str} {v : D} (hg : (g == f) = false) : ∀ {fs : List (Str × D)}, fs.lookup g = none → (fputD f v fs).lookup g = none
  | [], _ => by
    show List.lookup g [(f, v)] = none
    rw [lkD_past hg]
    rfl
  | (k, x) :: r, h => by
    show List.lookup g (if k = f then (k, v) :: r else (k, x) :: fputD f v r) = none
    by_cases e : k = f
    · rw [if_pos e]
      subst e
      rw [lkD_past hg] at h ⊢
      exact h
    · rw [if_neg e]
      rw [List.lookup_cons] at h ⊢
      split at h
      · cases h
      · exact fputD_no hg h
def Keep (ω ω' : Om) (p : Addr) : Prop := ∀ b m, ω b = some m → b ≠ p → ω' b = some m
theorem keep_refl {ω : Om} {p : Addr} : Keep ω ω p := fun _ _ h _ => h
theorem keep_put {ω ω' : Om} {p : Addr} {m : MO} (h : Keep ω ω' p) : Keep ω (put ω' p m) p := fun b u e n => by
  rw [put_ne n]; exact h b u e n
theorem keep_new {ω ω' : Om} {p q : Addr} {m : MO} (h : Keep ω ω' p) (f : ω' q = none) : Keep ω (put ω' q m) p := fun b u e n => Ext.new f b u (h b u e n)
theorem keep_ext {ω ω' : Om} {p : Addr} {m : MO} (h : Keep (put ω p m) ω' p) (f : ω p = none) : Ext ω ω' := fun b u e => by
  have n : b ≠ p := fun z => by
    subst z
    rw [f] at e
    cases e
  exact h b u (by rw [put_ne n]; exact e) n
end Q2
namespace Q2
open PySem PySem.Spec L2 SX
theorem rngD_at {lo : Int} {n i : Nat} {d : D} (h : (rngD lo n)[i]? = some d) : i < n ∧ d = .int (lo + (i : Nat)) := by
  unfold rngD at h
  rw [List.getElem?_map] at h
  rcases Nat.lt_or_ge i n with g | g
  · rw [List.getElem?_range g] at h
    exact ⟨g, (Option.some.inj h).symm⟩
  · rw [List.getElem?_eq_none (by rw [List.length_range]; exact g)] at h
    cases h
theorem kind_mut {ω : Om} {p : Addr} {a b : List D} (h : ω p = some (.lst a)) (d : D) : kindD (put ω p (.lst b)) d = kindD ω d := by
  cases d with
  | ref q =>
    by_cases e : q = p
    · subst e
      simp [kindD, put, h]
    · simp [kindD, put_ne e]
  | _ => rfl
mutual
theorem kn_mut {ω : Om} {p : Addr} {a b : List D} (h : ω p = some (.lst a)) : ∀ d : D, kn ω d = true → kn (put ω p (.lst b)) d = true
  | .tup ds, g => kns_mut h ds g
  | .ref q, g => by
    show (kindD (put ω p (.lst b)) (.ref q)).isSome = true
    rw [kind_mut h]
    exact g
  | .non, _ => rfl
  | .bl _, _ => rfl
  | .int _, _ => rfl
  | .str _, _ => rfl
theorem kns_mut {ω : Om} {p : Addr} {a b : List D} (h : ω p = some (.lst a)) : ∀ ds : List D, kns ω ds = true → kns (put ω p (.lst b)) ds = true
  | [], _ => rfl
  | d :: r, g => by
    have g : (kn ω d && kns ω r) = true := g
    rw [Bool.and_eq_true] at g
    show (kn (put ω p (.lst b)) d && kns (put ω p (.lst b)) r) = true
    rw [kn_mut h d g.1, kns_mut h r g.2]
    rfl
end
end Q2
namespace Q2
open PySem PySem.Spec L2
section
variable {X : Cx} {H0 : Hp} {ρ : Rho} {ω ω' : Om} {P : GP}
theorem gs_tryN {body : List Stmt} {h0 : ExceptHandler} {hds : List ExceptHandler} {pos : Pos}
    (h1 : ∀ Hb pn xe, XW (X.tr pn xe) Hb (fun _ _ _ _ => False) → PassesOwn (model X.prog X.w) X.A X.env xe → GSs (X.tr pn xe) Hb body ρ ω P) : GS X H0 (.Try body (h0 :: hds) [] [] pos) ρ ω P := fun σ H R => ⟨fun pins s I => by
  have ok := I.ok
  have g := (suite_back (Y := X.tr (X.pn ++ pins) fun _ _ => False) (H0 := H0) rfl R (R.based (TK.refl H)) (R.based (TK.refl H)) (h1 H _ _ xw0 (fun _ _ z => False.elim z))).go [] s (I.toTry _)
  refine wpAny_Try_except (wpAny_mono g (fun f s1 q => ?_) fun _ _ z => z.elim)
  cases f with
  | next =>
    obtain ⟨σ1, H1, J, q⟩ := q
    exact wpAny_execs_nil ⟨σ1, H1, J.ofTry ok, q⟩
  | ret u =>
    obtain ⟨v, σ1, H1, J, r, q⟩ := q
    exact ⟨v, σ1, H1, J.ofTry ok, r, q⟩
  | _ =>
    obtain ⟨σ1, H1, J, q⟩ := q
    exact ⟨σ1, H1, J.ofTry ok, q⟩⟩
theorem gs_fldaug {C : Addr} {o value : Expr} {f : Str} {op : Operator} {pos tpos : Pos} (c : Cls X.K C) (n : NoAttr X.K C f)
    (h : GE X H0 o ρ ω fun d ω1 => ∃ a dx fs v, d = .ref a ∧ ω1 a = some (.ins C dx fs) ∧ fs.lookup f = some v ∧ GE X H0 value ρ ω1 fun y ω2 => GBi X H0 ρ op v y ω2 fun r ω3 => ∃ dx' fs', ω3 a = some (.ins C dx' fs') ∧ fs'.length < 1000 ∧ P.nx ρ (put ω3 a (.ins C dx' (fputD f r fs')))) :
    GS X H0 (.AugAssign (.Attribute o f tpos) op value pos) ρ ω P := fun σ H R =>
  ws_of (ps_fldaug pe_we pe_we (ip_rp X op)) (thnE (h σ H R) fun x H1 ⟨t1, d, ω1, R1, i1, a, dx, fs, v, e1, w, e2, h2⟩ => by
    subst e1
    cases i1
    obtain ⟨gs, g, r⟩ := R1.hr _ _ w
    obtain ⟨u, eu, iu⟩ := KD.look r e2
    refine ⟨a, C, dx, gs, u, rfl, g, c, n, eu, thnE (h2 σ H1 R1) fun y H2 ⟨t2, yd, ω2, R2, i2, h3⟩ => ?_⟩
    intro pins s σ' p1 p2 I ra rb
    refine thn (h3 σ H2 u y R2 (iu.mono t2) i2 pins s σ' p1 p2 I ra rb) fun _ _ ⟨z, H3, J, rz, t3, zd, ω3, R3, i3, dx', fs', w3, hl, q⟩ => ⟨z, H3, J, rz, ?_⟩
    obtain ⟨gs3, g3, r3⟩ := R3.hr _ _ w3
    have tp := tk_upd (K := X.K) (o' := HO.ins C dx' (putF f z gs3)) g3 trivial
    exact ⟨dx', gs3, g3, by rw [r3.length]; exact hl, ((t1.trans t2).trans t3).trans tp, ρ, _, R3.move tp (R3.hr.put (m := .ins C dx' (fputD f zd fs')) g3 trivial ⟨_, upd_same, KD.fput (i3.mono tp) (r3.mono tp)⟩), q⟩)
theorem gc_strS {s : List Nat} {Q : QE} (q : Q (.str s) ω) : GC X H0 ρ (.type "str") [.str s] ω Q := fun σ H vs R is => by
  obtain ⟨v, rfl, a⟩ := ims1 is
  cases a with
  | str _ hl => exact rcl_of SkE.call_str_str ⟨_, rfl, vp0 R (.str _ hl) q⟩
theorem dp_lst {K : PySem.W.Frag} {H : Hp} {ω : Om} (hr : HRel K H ω) {a : Addr} {as : List D} (w : ω a = some (.lst as)) (ha : as.all (pl 12) = true) : ∃ ps, pys as = some ps ∧ (PyData.list ps).canLay0 = true ∧ (PyData.list ps).depth ≤ 13 ∧ Dp K H (.ref a) (.list ps) := by
  obtain ⟨xs, h1, r1⟩ := hr _ _ w
  obtain ⟨p, e1, e2, e3⟩ := pl_py 13 (.tup as) ha
  have e1 : (pys as).map PyData.tuple = some p := e1
  cases g1 : pys as with
  | none => rw [g1] at e1; cases e1
  | some ps =>
    rw [g1] at e1
    cases e1
    exact ⟨ps, rfl, e2, e3, .lst (SqL.of h1) (ims_dp _ _ _ r1 g1)⟩
theorem dp_tupL {K : PySem.W.Frag} {H : Hp} {ω : Om} (hr : HRel K H ω) {a : Addr} {la as : List D} {x : V} (i : Im K H x (.tup (.ref a :: as))) (w : ω a = some (.lst la)) (ha : la.all (pl 12) = true) (ha2 : as.all (pl 12) = true) :
    ∃ ps qs, pys la = some ps ∧ pys as = some qs ∧ SeqAt.shaped (.tuple (.list ps :: qs)) = true ∧ Dp K H x (.tuple (.list ps :: qs)) := by
  obtain ⟨a0, xs, rfl, h, r⟩ := im_tup i
  obtain ⟨ps, e1, e2, e3, e4⟩ := dp_lst hr w ha
  obtain ⟨p, f1, f2, f3⟩ := pl_py 13 (.tup as) ha2
  have f1 : (pys as).map PyData.tuple = some p := f1
  cases g1 : pys as with
  | none => rw [g1] at f1; cases f1
  | some qs =>
    rw [g1] at f1
    cases f1
    cases r with
    | cons i1 r1 =>
      cases i1
      refine ⟨ps, qs, e1, rfl, ?_, .tup h (.cons e4 (ims_dp _ _ _ r1 g1))⟩
      refine pl_shaped (n := 14) (by decide) ?_ ?_
      · show ((PyData.list ps).canLay0 && PyData.canLayAll0 qs) = true
        have f2 : PyData.canLayAll0 qs = true := f2
        rw [e2, f2]
        rfl
      · have f3 : PyData.depthAll qs + 1 ≤ 13 := f3
        show max (PyData.list ps).depth (PyData.depthAll qs) + 1 ≤ 14
        omega
theorem gb_neTL {a b : Addr} {la lb as bs : List D} {Q : QE} (hu : X.A.units + 64 < cLine) (wa : ω a = some (.lst la)) (wb : ω b = some (.lst lb)) (ha : la.all (pl 12) = true) (hb : lb.all (pl 12) = true) (ha2 : as.all (pl 12) = true) (hb2 : bs.all (pl 12) = true)
    (k : Q (.bl (!(eqDs la lb && eqDs as bs))) ω) : GB X H0 ρ (compareOp .NotEq) (.tup (.ref a :: as)) (.tup (.ref b :: bs)) ω Q := fun σ H x y R hx hy => by
  obtain ⟨ps, qs, e1, e2, e3, e4⟩ := dp_tupL R.hr hx wa ha ha2
  obtain ⟨ps', qs', f1, f2, f3, f4⟩ := dp_tupL R.hr hy wb hb hb2
  refine ro_of (op_neD hu) ⟨_, _, e4, f4, e3, f3, ?_⟩
  refine vp0 R (.bl _) ?_
  have e : PyData.eqv (.tuple (.list ps :: qs)) (.tuple (.list ps' :: qs')) = (eqDs la lb && eqDs as bs) := by
    show (PyData.eqv (.list ps) (.list ps') && PyData.eqvAll qs qs') = _
    rw [show PyData.eqv (.list ps) (.list ps') = eqDs la lb from eqv_eqDs la lb ps ps' 12 12 ha hb e1 f1, eqv_eqDs as bs qs qs' 12 12 ha2 hb2 e2 f2]
  rw [e]; exact k
theorem gb_eqTL {a b : Addr} {la lb as bs : List D} {Q : QE} (hu : X.A.units + 64 < cLine) (wa : ω a = some (.lst la)) (wb : ω b = some (.lst lb)) (ha : la.all (pl 12) = true) (hb : lb.all (pl 12) = true) (ha2 : as.all (pl 12) = true) (hb2 : bs.all (pl 12) = true)
    (k : Q (.bl (eqDs la lb && eqDs as bs)) ω) : GB X H0 ρ (compareOp .Eq) (.tup (.ref a :: as)) (.tup (.ref b :: bs)) ω Q := fun σ H x y R hx hy => by
  obtain ⟨ps, qs, e1, e2, e3, e4⟩ := dp_tupL R.hr hx wa ha ha2
  obtain ⟨ps', qs', f1, f2, f3, f4⟩ := dp_tupL R.hr hy wb hb hb2
  refine ro_of (op_eqD hu) ⟨_, _, e4, f4, e3, f3, ?_⟩
  refine vp0 R (.bl _) ?_
  have e : PyData.eqv (.tuple (.list ps :: qs)) (.tuple (.list ps' :: qs')) = (eqDs la lb && eqDs as bs) := by
    show (PyData.eqv (.list ps) (.list ps') && PyData.eqvAll qs qs') = _
    rw [show PyData.eqv (.list ps) (.list ps') = eqDs la lb from eqv_eqDs la lb ps ps' 12 12 ha hb e1 f1, eqv_eqDs as bs qs qs' 12 12 ha2 hb2 e2 f2]
  rw [e]; exact k
end
end Q2
namespace Q2
open PySem PySem.Spec L2 SX
section
variable {X : Cx} {H0 : Hp} {ρ : Rho} {ω ω' : Om} {P : GP}
theorem gs_daug {o i value : Expr} {op : Operator} {pos tpos : Pos} (hu : X.A.units + 64 < cLine)
    (h : GE X H0 o ρ ω fun d ω1 => GE X H0 i ρ ω1 fun kd ω2 => ∃ a kvs k v, d = .ref a ∧ ω2 a = some (.dct kvs) ∧ keyD kd = some k ∧ valD kvs k = some v ∧ GE X H0 value ρ ω2 fun y ω3 => GBi X H0 ρ op v y ω3 fun r ω4 => ∃ kvs', ω4 a = some (.dct kvs') ∧ kvs'.length < sizeLine ∧ P.nx ρ (put ω4 a (.dct (putD kvs' k r))))
    (ha : ∀ ov iv new, augStore i ov iv new = (do holding [new, ov, iv] (setItem ov iv new); release [new, ov, iv] []; pure .next) := by intro _ _ _; rfl) :
    GS X H0 (.AugAssign (.Subscript o i tpos) op value pos) ρ ω P := fun σ H R =>
  ws_of (ps_daug (by omega) pe_we pe_we pe_we (ip_rp X op) ha) (thnE (h σ H R) fun x H1 ⟨t1, d, ω1, R1, i1, h1⟩ => thnE (h1 σ H1 R1) fun y H2 ⟨t2, kd, ω2, R2, i2, a, kvs, k, v, e1, w, e2, e3, h2⟩ => by
    subst e1
    cases i1
    obtain ⟨gs, g, r⟩ := R2.hr _ _ w
    obtain ⟨u, ev, iv⟩ := (KD.val (k := k) r).2 v e3
    refine ⟨a, u, rfl, by rw [← ev]; exact dget_of g i2 e2, thnE (h2 σ H2 R2) fun y2 H3 ⟨t3, yd, ω3, R3, i3, h3⟩ => ?_⟩
    intro pins s σ' p1 p2 I ra rb
    refine thn (h3 σ H3 u y2 R3 (iv.mono t3) i3 pins s σ' p1 p2 I ra rb) fun _ _ ⟨z, H4, J, rz, t4, zd, ω4, R4, i4, kvs', w4, hl, q⟩ => ⟨z, H4, J, rz, ?_⟩
    obtain ⟨gs4, g4, r4⟩ := R4.hr _ _ w4
    have tp := tk_upd (K := X.K) (o' := HO.dK (putK gs4 k z)) g4 trivial
    exact ⟨_, by rw [im_key i2 e2]; exact DPut.k g4 (by rw [r4.length]; exact hl), (((t1.trans t2).trans t3).trans t4).trans tp, ρ, _, R4.move tp (R4.hr.put (m := .dct (putD kvs' k zd)) g4 trivial ⟨_, upd_same, (r4.mono tp).put (i4.mono tp)⟩), q⟩)
theorem gb_notInN {o : Option (List Nat)} {s : List Nat} {d : D} {Q : QE} (hd : d = match o with | none => .non | some s => .str s) (q : Q (.bl (!(o.isNone || decide (o = some s)))) ω) : GB X H0 ρ (compareOp .NotIn) d (.tup [.non, .str s]) ω Q := fun σ H u w R hx hy => by
  subst hd
  obtain ⟨a, xs, rfl, h1, r1⟩ := im_tup hy
  have e : xs = [V.non, .str (S s)] := by
    cases r1 with
    | cons i1 r1 =>
      cases r1 with
      | cons i2 r2 =>
        cases r2
        rw [im_non i1, (im_str i2).1]
  subst e
  cases o with
  | none =>
    cases im_non hx
    refine ro_of op_notIn_seq ⟨a, _, rfl, .inr h1, rfl, rfl, ?_⟩
    rw [if_pos rfl]
    exact vp0 R (.bl _) q
  | some t =>
    obtain ⟨hu, _⟩ := im_str hx
    subst hu
    refine ro_of op_notIn_seq ⟨a, _, rfl, .inr h1, rfl, rfl, ?_⟩
    rw [if_pos rfl]
    have e : inV (V.str (S t)) [V.non, .str (S s)] = ((some t).isNone || decide (some t = some s)) := by
      show (false || (S s == S t || false)) = (false || decide (some t = some s))
      rw [Bool.eq_iff_iff]
      simp only [Bool.false_or, Bool.or_false, beq_iff_eq, decide_eq_true_eq, Option.some.injEq]
      exact ⟨fun h => (S_inj h).symm, fun h => by rw [h]⟩
    rw [e]
    exact vp0 R (.bl _) q
theorem rising_pw : ∀ (p : Str) (l : List Str), PyProof.Rows.risingS p l = true → (p :: l).Pairwise (fun a b => a.cps.toList ≤ b.cps.toList)
  | p, [], _ => by simp
  | p, x :: r, h => by
    have h' : (!ltCps x.cps.toList p.cps.toList && PyProof.Rows.risingS x r) = true := h
    rw [Bool.and_eq_true, PyProof.Rows.ltCps_eq] at h'
    have ih := rising_pw x r h'.2
    have hx : p.cps.toList ≤ x.cps.toList := by
      have := h'.1
      simp only [Bool.not_eq_true', decide_eq_false_iff_not] at this
      exact List.not_lt.mp this
    refine List.pairwise_cons.mpr ⟨fun y hy => ?_, ih⟩
    rcases List.mem_cons.mp hy with rfl | hy
    · exact hx
    · exact List.le_trans hx ((List.pairwise_cons.mp ih).1 y hy)
theorem sorted_pw (l : List Str) (h : PyProof.Rows.sortedS l = true) : l.Pairwise (fun a b => a.cps.toList ≤ b.cps.toList) := by
  cases l with
  | nil => exact List.Pairwise.nil
  | cons x r => exact rising_pw x r h
theorem map_S_tl : ∀ l : List Str, (l.map fun s => s.cps.toList).map S = l
  | [] => rfl
  | x :: r => by rw [List.map_cons, List.map_cons, map_S_tl r, S_tl]
theorem tl_S (l : List Nat) : (S l).cps.toList = l := S_inj (by rw [S_tl])
theorem gc_sortedD {a : Addr} {kvs : List (Key × D)} {ks : List (List Nat)} {Q : QE} (hc : X.calm = true) (w : ω a = some (.dct kvs)) (hk : kvs.map (·.1) = ks.map fun k => Sum.inr (S k)) (hl : ks.length < 64) (hz : ∀ k ∈ ks, k.length ≤ sizeLine)
    (q : ∀ ys : List (List Nat), ys.Perm ks → ys.Pairwise (· ≤ ·) → ∀ p, ω p = none → Q (.ref p) (put ω p (.lst (ys.map D.str)))) : GC X H0 ρ (.builtin "sorted") [.ref a] ω Q := fun σ H vs R is => by
  obtain ⟨v, rfl, i⟩ := ims1 is
  cases i
  obtain ⟨gs, g, r⟩ := R.hr _ _ w
  have hks : gs.map (·.1) = (ks.map S).map Sum.inr := by
    have e : ∀ {gs : List (Key × V)} {fs : List (Key × D)}, KD X.K H gs fs → gs.map (·.1) = fs.map (·.1) := fun {gs fs} r => by
      induction r with
      | nil => rfl
      | cons h _ ih => rw [List.map_cons, List.map_cons, ih, h.1]
    rw [e r, hk, List.map_map]
    rfl
  refine rcl_of (call_sortedD hc) ⟨a, gs, ks.map S, rfl, .inl g, hks, by rw [List.length_map]; exact hl, fun ys p hp hs hn => ?_⟩
  have hys := map_S_tl ys
  have hp2 : (ys.map fun s => s.cps.toList).Perm ks := by
    have := hp.map fun s => s.cps.toList
    rw [List.map_map] at this
    have e : (ks.map ((fun s : Str => s.cps.toList) ∘ S)) = ks := by
      conv => rhs; rw [← List.map_id ks]
      exact List.map_congr_left fun k _ => tl_S k
    rw [e] at this
    exact this
  have q := q _ hp2 (List.pairwise_map.mpr (sorted_pw ys hs)) p (R.hr.free hn)
  have e1 := same_new (o := .lst (ys.map V.str)) hn
  refine ⟨tk_same e1, .ref p, _, R.move (tk_same e1) (R.hr.new (m := .lst ((ys.map fun s => s.cps.toList).map D.str)) hn ⟨_, upd_same, ?_⟩), .ref p, q⟩
  have := Ims.of_strs (K := X.K) (H := upd H p (.lst (ys.map V.str))) (ys := ys.map fun s => s.cps.toList) fun y m => hz y (hp2.mem_iff.mp m)
  rw [hys] at this
  exact this
theorem sorted_uniq {a b : List (List Nat)} (h : a.Perm b) (ha : a.Pairwise (· ≤ ·)) (hb : b.Pairwise (· ≤ ·)) : a = b :=
  List.Perm.eq_of_pairwise (fun x y _ _ h1 h2 => List.le_antisymm h1 h2) ha hb h
def GPs (X : Cx) (H0 : Hp) (ρ : Rho) : List (Option Expr) → List Expr → Om → (List (D × D) → Om → Prop) → Prop
  | [], [], ω, Q => Q [] ω
  | some k :: ks, v :: vs, ω, Q => GE X H0 k ρ ω fun dk ω1 => GE X H0 v ρ ω1 fun dv ω2 => GPs X H0 ρ ks vs ω2 fun ps ω3 => Q ((dk, dv) :: ps) ω3
  | _, _, _, _ => False
def trsOf (X : Cx) : List (Option Expr) → List Expr → List (TE × TE)
  | some k :: ks, v :: vs => (WE X k, WE X v) :: trsOf X ks vs
  | _, _ => []
def PD (K : PySem.W.Frag) (H : Hp) : List (V × V) → List (D × D) → Prop := Paired fun p d => Im K H p.1 d.1 ∧ Im K H p.2 d.2
theorem gps_nil {Q : List (D × D) → Om → Prop} (q : Q [] ω) : GPs X H0 ρ [] [] ω Q := q
theorem gps_cons {k v : Expr} {ks : List (Option Expr)} {vs : List Expr} {Q : List (D × D) → Om → Prop} (h : GE X H0 k ρ ω fun dk ω1 => GE X H0 v ρ ω1 fun dv ω2 => GPs X H0 ρ ks vs ω2 fun ps ω3 => Q ((dk, dv) :: ps) ω3) : GPs X H0 ρ (some k :: ks) (v :: vs) ω Q := h
theorem gps_run {σ : St} : ∀ (ks : List (Option Expr)) (vs : List Expr) {ω : Om} {H : Hp} {Q : List (D × D) → Om → Prop}, GPs X H0 ρ ks vs ω Q → Rel X.K H0 σ H ρ ω → ∀ Q' : List (V × V) → Hp → Prop,
    (∀ ps H' ds ω', TK X.K H H' → Rel X.K H0 σ H' ρ ω' → PD X.K H' ps ds → Q ds ω' → Q' ps H') → tPairs (trsOf X ks vs) σ H Q'
  | [], [], ω, H, Q, h, R, Q', k => k [] H [] ω (TK.refl H) R .nil h
  | some a :: ks, b :: vs, ω, H, Q, h, R, Q', k =>
    thnE (h σ H R) fun x H1 ⟨t1, d, ω1, R1, i1, h1⟩ => thnE (h1 σ H1 R1) fun y H2 ⟨t2, e, ω2, R2, i2, h2⟩ => gps_run ks vs h2 R2 _ fun ps H3 ds ω3 t3 R3 pi q =>
      k ((x, y) :: ps) H3 ((d, e) :: ds) ω3 ((t1.trans t2).trans t3) R3 (.cons ⟨(i1.mono t2).mono t3, i2.mono t3⟩ pi) q
  | [], _ :: _, _, _, _, h, _, _, _ => h.elim
  | some _ :: _, [], _, _, _, h, _, _, _ => h.elim
  | none :: _, _, _, _, _, h, _, _, _ => by cases ‹List Expr› <;> exact h.elim
theorem gps_pps {pos : Pos} : ∀ (ks : List (Option Expr)) (vs : List Expr), ks.all (·.isSome) = true → ks.length = vs.length → PPs X pos ks vs (trsOf X ks vs)
  | [], [], _, _ => pps_nil
  | some a :: ks, b :: vs, h, l => pps_cons pe_we pe_we (gps_pps ks vs (by simpa using h) (by simpa using l))
  | [], _ :: _, _, l => by cases l
  | some _ :: _, [], _, l => by cases l
  | none :: _, _, h, _ => by simp at h
def mergeD (kvs more : List (Key × D)) : List (Key × D) := more.foldl (fun acc kv => putD acc kv.1 kv.2) kvs
theorem KD.merge {K : PySem.W.Frag} {H : Hp} : ∀ {more : List (Key × V)} {md : List (Key × D)} {kvs : List (Key × V)} {kd : List (Key × D)}, KD K H more md → KD K H kvs kd → KD K H (mergeK kvs more) (mergeD kd md)
  | _, _, _, _, .nil, q => q
  | p :: ps, d :: ds, kvs, kd, .cons h t, q => by
    have := q.put (k := p.1) h.2
    have e : KD K H (putK kvs p.1 p.2) (putD kd d.1 d.2) := by rw [← h.1]; exact this
    show KD K H (mergeK (putK kvs p.1 p.2) ps) (mergeD (putD kd d.1 d.2) ds)
    exact KD.merge t e
theorem pd_keys {K : PySem.W.Frag} {H : Hp} : ∀ {ps : List (V × V)} {ds : List (D × D)} {kvs : List (Key × D)}, PD K H ps ds → ds.map (fun d => (keyD d.1, d.2)) = kvs.map (fun kv => (some kv.1, kv.2)) → ∃ gs : List (Key × V), ps = gs.map (fun kv => (kV kv.1, kv.2)) ∧ KD K H gs kvs
  | [], [], [], .nil, _ => ⟨[], rfl, .nil⟩
  | p :: ps, d :: ds, kv :: kvs, .cons h t, e => by
    simp only [List.map_cons, List.cons.injEq, Prod.mk.injEq] at e
    obtain ⟨gs, e1, e2⟩ := pd_keys t e.2
    refine ⟨(kv.1, p.2) :: gs, ?_, .cons ⟨rfl, by rw [← e.1.2]; exact h.2⟩ e2⟩
    rw [List.map_cons, ← e1, ← im_key h.1 e.1.1]
  | [], [], _ :: _, .nil, e => by cases e
  | p :: ps, d :: ds, [], .cons h t, e => by cases e
theorem ge_disp {keys : List (Option Expr)} {values : List Expr} {pos : Pos} {Q : QE} (hall : keys.all (·.isSome) = true) (hl : keys.length = values.length) (h0 : keys ≠ []) (h15 : keys.length ≤ 15)
    (h : ∀ p, ω p = none → GPs X H0 ρ keys values (put ω p (.dct [])) fun ps ω2 => ω2 p = some (.dct []) ∧ ∃ kvs : List (Key × D), ps.map (fun d => (keyD d.1, d.2)) = kvs.map (fun kv => (some kv.1, kv.2)) ∧ kvs.length ≤ 15 ∧ Q (.ref p) (put ω2 p (.dct (mergeD [] kvs)))) :
    GE X H0 (.Dict keys values pos) ρ ω Q := fun σ H R => by
  refine we_of (pe_disp (gps_pps keys values hall hl) hall hl h0 h15) fun p hp => ?_
  have e1 := same_new (o := .dK []) hp
  have R1 : Rel X.K H0 σ (upd H p (.dK [])) ρ (put ω p (.dct [])) := R.move (tk_same e1) (R.hr.new (m := .dct []) hp ⟨[], upd_same, .nil⟩)
  refine gps_run keys values (h p (R.hr.free hp)) R1 _ fun ps H2 ds ω2 t2 R2 pi ⟨w, kvs, ek, l15, q⟩ => ?_
  obtain ⟨gs0, g0, r0⟩ := R2.hr _ _ w
  cases r0
  obtain ⟨gs, eg, rg⟩ := pd_keys pi ek
  have tp := tk_upd (K := X.K) (o' := HO.dK (mergeK [] gs)) g0 trivial
  exact ⟨g0, gs, eg, by rw [KD.length rg]; exact l15, ((tk_same e1).trans t2).trans tp, .ref p, _, R2.move tp (R2.hr.put (m := .dct (mergeD [] kvs)) g0 trivial ⟨_, upd_same, KD.merge (rg.mono tp) .nil⟩), .ref p, q⟩
theorem gs_par (i j : Nat) {x y : Str} {a b : Expr} {px py pt pos : Pos} {kt k2 pt2} (hc : X.calm = true) (hN : X.N.Nodup) (hi : X.N[i]? = some x) (hj : X.N[j]? = some y) (hij : i ≠ j) (hx : X.env.scope.names.lookup x = some .local) (hy : X.env.scope.names.lookup y = some .local)
    (h : GA X H0 [a, b] ρ ω fun ds ω1 => ∃ d e, ds = [d, e] ∧ P.nx ((ρ.set i (some d)).set j (some e)) ω1)
    (hw : swappedStores [.Tuple [.Name x px, .Name y py] kt pt] (.Tuple [a, b] k2 pt2) X.env = pure (some [x, y]) := by rfl) (hs : swapsWithSole [.Tuple [.Name x px, .Name y py] kt pt] (.Tuple [a, b] k2 pt2) pos.line X.env = pure false := by rfl) :
    GS X H0 (.Assign [.Tuple [.Name x px, .Name y py] kt pt] (.Tuple [a, b] k2 pt2) pos) ρ ω P := fun σ H R =>
  ws_of (ps_par hc hN hi hj hij hx hy pa_wa hw hs) (thnA (h σ H R) fun vs H1 ⟨t1, ds, ω1, R1, is, d, e, e1, q⟩ => by
    subst e1
    obtain ⟨v, w, rfl, iv, iw⟩ := ims2 is
    exact ⟨v, w, rfl, t1, _, ω1, (R1.set iv).set iw, q⟩)
theorem lc_st {scope : Scope} {vs js : List Nat} {split : D → Option (List D)} {elt : Expr} {Q : QE} {ds : List D} {G : Om → Prop} {ω1 : Om} (f : Nat → D) (J : Addr → Nat → Om → Prop) (hz : ds.length ≤ sizeLine)
    (h0 : ∀ p, ω1 p = none → J p 0 (put ω1 p (.lst []))) (hG : ∀ p i ω', J p i ω' → G ω')
    (hs : ∀ p i d ω', ω1 p = none → ds[i]? = some d → J p i ω' → ω' p = some (.lst ((List.range i).map f)) → ∃ es, split d = some es ∧ ∀ s H C cl fp, GE (bl X scope s H C cl fp) H0 elt (setR (wipeR ρ vs) js es) ω' fun r ω3 => r = f i ∧ ω3 p = some (.lst ((List.range i).map f)) ∧ J p (i + 1) (put ω3 p (.lst ((List.range (i + 1)).map f))))
    (hf : ∀ p ω', ω1 p = none → J p ds.length ω' → ω' p = some (.lst ((List.range ds.length).map f)) → Q (.ref p) ω') : LcOk X H0 scope vs js split elt [] ρ Q ds G ω1 := by
  refine ⟨hz, fun p hp => ⟨fun i acc ω' => J p i ω' ∧ acc = (List.range i).map f ∧ ω' p = some (.lst acc), ⟨h0 p hp, rfl, put_same⟩, fun i acc ω' h => ⟨h.2.2, by rw [h.2.1, List.length_map, List.length_range]; exact Nat.le_refl _, hG p i ω' h.1⟩, fun i d acc ω' hd h => ?_, fun acc ω' h => ?_⟩⟩
  · obtain ⟨h1, rfl, h3⟩ := h
    obtain ⟨es, e1, g⟩ := hs p i d ω' hp hd h1 h3
    refine ⟨es, e1, fun s H C cl fp => ?_⟩
    refine ⟨fun _ s H C cl fp => GE.imp (g s H C cl fp) fun r ω3 q => ?_, fun z => by cases z⟩
    obtain ⟨rfl, q2, q3⟩ := q
    refine ⟨_, q2, by rw [List.length_map, List.length_range]; exact Nat.le_refl _, ?_, ?_, ?_⟩
    · rw [List.range_succ, List.map_append] at q3
      exact q3
    · rw [List.range_succ, List.map_append]
      rfl
    · rw [put_same]
  · obtain ⟨h1, rfl, h3⟩ := h
    exact hf p ω' hp h1 h3
theorem gb_neLe {a b : Addr} {as bs : List D} {Q : QE} (hu : X.A.units + 64 < cLine) (wa : ω a = some (.lst as)) (wb : ω b = some (.lst bs)) (ha : as.all (pl 12) = true) (e : as = bs) (k : Q (.bl false) ω) : GB X H0 ρ (compareOp .NotEq) (.ref a) (.ref b) ω Q := by
  subst e
  refine gb_neL hu wa wb ha ha ?_
  rw [(eqDs_iff _ _).mpr rfl]
  exact k
theorem gb_eqLe {a b : Addr} {as bs : List D} {Q : QE} (hu : X.A.units + 64 < cLine) (wa : ω a = some (.lst as)) (wb : ω b = some (.lst bs)) (ha : as.all (pl 12) = true) (e : as = bs) (k : Q (.bl true) ω) : GB X H0 ρ (compareOp .Eq) (.ref a) (.ref b) ω Q := by
  subst e
  refine gb_eqL hu wa wb ha ha ?_
  rw [(eqDs_iff _ _).mpr rfl]
  exact k
theorem gb_neDe {a b : D} {Q : QE} (hu : X.A.units + 64 < cLine) (ha : pl 12 a = true) (e : a = b) (k : Q (.bl false) ω) : GB X H0 ρ (compareOp .NotEq) a b ω Q := by
  subst e
  refine gb_neP hu ha ha ?_
  rw [(eqD_iff _ _).mpr rfl]
  exact k
theorem gb_eqDe {a b : D} {Q : QE} (hu : X.A.units + 64 < cLine) (ha : pl 12 a = true) (e : a = b) (k : Q (.bl true) ω) : GB X H0 ρ (compareOp .Eq) a b ω Q := by
  subst e
  refine gb_eqP hu ha ha ?_
  rw [(eqD_iff _ _).mpr rfl]
  exact k
end
end Q2
namespace Aw
open PySem PySem.Spec L2 Q2 SX
def lSIGNS : List Nat := [32, 33, 34, 35, 36, 38, 39, 40, 41, 42, 43, 44, 45, 46, 47, 48, 49, 50, 51, 52, 53, 54, 55, 56, 57, 58, 59, 60, 61, 62, 63, 64, 65, 66, 67, 68, 69, 70, 71, 72, 73, 74, 75, 76, 77, 78, 79, 80, 81, 82, 83, 84, 85, 86, 87, 88, 89, 90, 91, 92, 93, 94, 95, 96, 97, 98, 99, 100, 101, 102, 103, 104, 105, 106, 107, 108, 109, 110, 111, 112, 113, 114, 115, 116, 117, 118, 119, 120, 121, 122, 123, 124, 125, 126]
def lSG1 : List Nat := lSIGNS.take 63
def lSG2 : List Nat := lSIGNS.drop 63
def lSMALL : List Nat := [97, 98, 99, 100, 101, 102, 103, 104, 105, 106, 107, 108, 109, 110, 111, 112, 113, 114, 115, 116, 117, 118, 119, 120, 121, 122]
def lFIG : List Nat := [48, 49, 50, 51, 52, 53, 54, 55, 56, 57]
def lLET : List Nat := lSMALL ++ [45]
def lPLAIN : List Nat := lSMALL ++ lFIG ++ [45, 95, 46]
def isSg (c : Nat) : Bool := decide (32 ≤ c) && decide (c ≤ 126) && decide (c ≠ 37)
def isDig (c : Nat) : Bool := decide (48 ≤ c) && decide (c ≤ 57)
def isSml (c : Nat) : Bool := decide (97 ≤ c) && decide (c ≤ 122)
def isPl (c : Nat) : Bool := isSml c || isDig c || decide (c = 45) || decide (c = 95) || decide (c = 46)
theorem mem_by {l : List Nat} {p : Nat → Bool} (n : Nat) (h1 : (List.range n).all (fun c => decide (c ∈ l) == p c) = true) (h2 : l.all (· < n) = true) (h3 : ∀ c, n ≤ c → p c = false) (c : Nat) : decide (c ∈ l) = p c := by
  by_cases h : c < n
  · exact eq_of_beq (List.all_eq_true.mp h1 c (List.mem_range.mpr h))
  · rw [h3 c (by omega)]
    refine decide_eq_false fun z => h ?_
    have := List.all_eq_true.mp h2 c z
    simpa using this
theorem mem_SIGNS (c : Nat) : decide (c ∈ lSIGNS) = isSg c := mem_by 127 (by decide +kernel) (by decide +kernel) (fun c h => by simp [isSg]; omega) c
theorem mem_PLAIN (c : Nat) : decide (c ∈ lPLAIN) = isPl c := mem_by 123 (by decide +kernel) (by decide +kernel) (fun c h => by simp [isPl, isSml, isDig]; omega) c
theorem mem_FIG (c : Nat) : decide (c ∈ lFIG) = isDig c := mem_by 58 (by decide +kernel) (by decide +kernel) (fun c h => by simp [isDig]; omega) c
theorem mem_SMALL (c : Nat) : decide (c ∈ lSMALL) = isSml c := mem_by 123 (by decide +kernel) (by decide +kernel) (fun c h => by simp [isSml]; omega) c
def isT1 (c : Nat) : Bool := isSg c || decide (c = 10)
def okT (l : List Nat) : Bool := l.all isT1
def chOf : D → Nat
  | .str (c :: _) => c
  | _ => 0
theorem chOf_ch (c : Nat) : chOf (chD c) = c := rfl
def isTextD (d : D) (m : Int) : Bool := match d with
  | .str s => decide ((s.length : Int) ≤ m) && okT s
  | _ => false
def strLe (d : D) (m : Int) : Bool := match d with
  | .str s => decide ((s.length : Int) ≤ m)
  | _ => false
theorem strLe_str {d : D} {m : Int} (h : strLe d m = true) : ∃ s, d = .str s := by
  cases d with
  | str s => exact ⟨s, rfl⟩
  | _ => cases h
theorem strLe_no {d : D} {m : Int} (h : ∀ s, d ≠ .str s) : strLe d m = false := by
  cases d with
  | str s => exact absurd rfl (h s)
  | _ => rfl
theorem isText_no {d : D} {m : Int} (h : strLe d m = false) : isTextD d m = false := by
  cases d with
  | str s =>
    have h : decide ((s.length : Int) ≤ m) = false := h
    show (decide ((s.length : Int) ≤ m) && okT s) = false
    rw [h] <;> rfl
  | _ => rfl
theorem not_filter {l : List Nat} {p : Nat → Bool} {f : D → D} {g : D → Bool} (hg : ∀ c, g (chD c) = p c) : (!(!((((l.map chD).filter g).map f).isEmpty))) = l.all (fun c => !p c) := by
  rw [Bool.not_not, Bool.eq_iff_iff, List.isEmpty_iff, List.map_eq_nil_iff, List.filter_eq_nil_iff, List.all_eq_true]
  simp [hg]
def idx (c : Nat) : Nat := if c < 37 then c - 32 else c - 33
theorem idx_find : ∀ c ∈ lSIGNS, lSIGNS.findIdx? (· == c) = some (idx c) := by decide +kernel
theorem idx_lt {c : Nat} (h : isSg c = true) : idx c < 94 := by
  simp [isSg] at h
  unfold idx
  split <;> omega
def qs (c : Nat) : List Nat := if isPl c then [c] else if c = 10 then [126, 57, 57] else [126, 48 + idx c / 10, 48 + idx c % 10]
def quoteL (l : List Nat) : List Nat := l.flatMap qs
theorem zfill2 : ∀ k < 94, Txt.zfill (S (TL.numL k)) 2 = S [48 + k / 10, 48 + k % 10] := by decide +kernel
theorem qs_len (c : Nat) : (qs c).length ≤ 3 := by
  unfold qs
  split
  · exact Nat.succ_le_succ (Nat.zero_le _)
  · split <;> exact Nat.le_refl 3
theorem qs_ne (c : Nat) : qs c ≠ [] := by
  unfold qs
  split
  · simp
  · split <;> simp
def isFig (l : List Nat) (m : Int) : Bool := decide (1 ≤ (l.length : Int)) && decide ((l.length : Int) ≤ m) && l.all isDig && (!decide (l.head? = some 48) || decide (l.length = 1))
theorem qs_pl {c : Nat} (h : isPl c = true) : qs c = [c] := if_pos h
theorem qs_np {c : Nat} (h : isPl c = false) (h2 : c ≠ 10) : qs c = [126, 48 + idx c / 10, 48 + idx c % 10] := by
  unfold qs
  rw [if_neg (by rw [h]; exact Bool.false_ne_true), if_neg h2]
theorem numL_len2 {k : Nat} (h : k < 94) : k < 10 ^ 18 := Nat.lt_of_lt_of_le h (by decide)
theorem isT_sg {c : Nat} (h : isT1 c = true) (h2 : c ≠ 10) : isSg c = true := by
  unfold isT1 at h
  simpa [h2] using h
theorem sg_mem {c : Nat} (h : isSg c = true) : c ∈ lSIGNS := of_decide_eq_true ((mem_SIGNS c).trans h)
theorem quote_join (l : List Nat) : joinL [] (l.map qs) = quoteL l := by
  rw [joinL_nil]
  unfold quoteL
  rw [List.flatMap_def]
theorem quote_len (l : List Nat) : (quoteL l).length ≤ 3 * l.length := by
  induction l with
  | nil => exact Nat.le_refl 0
  | cons c r ih =>
    show (qs c ++ quoteL r).length ≤ _
    have := qs_len c
    rw [List.length_append, List.length_cons]
    omega
theorem sum_qs (l : List Nat) : ((l.map qs).map (·.length)).sum ≤ 3 * l.length := by
  induction l with
  | nil => exact Nat.le_refl 0
  | cons c r ih =>
    have := qs_len c
    simp only [List.map_cons, List.sum_cons, List.length_cons]
    omega
theorem filter_true {α : Type} (l : List α) : l.filter (fun _ => true) = l := List.filter_eq_self.mpr fun _ _ => rfl
theorem isText_str {d : D} {m : Int} (h : isTextD d m = true) : ∃ l, d = .str l ∧ (l.length : Int) ≤ m ∧ okT l = true := by
  cases d with
  | str l =>
    have h : (decide ((l.length : Int) ≤ m) && okT l) = true := h
    rw [Bool.and_eq_true, decide_eq_true_eq] at h
    exact ⟨l, rfl, h.1, h.2⟩
  | _ => cases h
theorem all_filter {l : List Nat} {p : Nat → Bool} {f : D → D} {g : D → Bool} (hg : ∀ c, g (chD c) = p c) : (((l.map chD).filter g).map f).isEmpty = l.all (fun c => !p c) := by
  have := not_filter (l := l) (p := p) (f := f) (g := g) hg
  rwa [Bool.not_not] at this
def allSg : List Nat := lSIGNS ++ [10]
def dec (ch : List Nat) : Option Nat := allSg.find? fun c => qs c == ch
theorem mem_allSg (c : Nat) : c ∈ allSg ↔ isT1 c = true := by
  unfold allSg isT1
  rw [List.mem_append, Bool.or_eq_true, ← mem_SIGNS]
  simp
theorem dec_some {ch : List Nat} {c : Nat} (h : dec ch = some c) : qs c = ch ∧ isT1 c = true := by
  have h1 := List.find?_some h
  exact ⟨eq_of_beq h1, (mem_allSg c).mp (List.mem_of_find?_eq_some h)⟩
theorem dec_qs : ∀ c ∈ allSg, dec (qs c) = some c := by decide +kernel
theorem dec_none {ch : List Nat} (h : ∀ c, isT1 c = true → qs c ≠ ch) : dec ch = none := by
  unfold dec
  rw [List.find?_eq_none]
  intro c hc
  simpa using h c ((mem_allSg c).mp hc)
theorem dec_one {c : Nat} (h : c ≠ 126) : dec [c] = if isPl c then some c else none := by
  by_cases hp : isPl c = true
  · rw [if_pos hp]
    have hm : c ∈ allSg := by
      rw [mem_allSg]
      simp [isPl, isSml, isDig] at hp
      simp [isT1, isSg]
      omega
    have := dec_qs c hm
    rwa [qs_pl hp] at this
  · rw [if_neg hp]
    refine dec_none fun x _ e => ?_
    unfold qs at e
    split at e
    · rename_i hx
      cases e
      exact hp hx
    · split at e
      · cases e
      · cases e
def dig2 (a b : Nat) : Bool := isDig a && isDig b
theorem dec_tilde_no {l : List Nat} (h : ∀ a b, l = [a, b] → dig2 a b = false) : dec (126 :: l) = none := by
  refine dec_none fun x hx e => ?_
  unfold qs at e
  split at e
  · rename_i hp
    cases e
    revert hp
    decide
  · rename_i hp
    split at e
    · cases e
      have := h 57 57 rfl
      revert this
      decide
    · rename_i hne
      cases e
      have hs := isT_sg hx hne
      have hi := idx_lt hs
      have := h _ _ rfl
      simp [dig2, isDig] at this
      omega
def dec2 (a b : Nat) : Option Nat := if a = 57 ∧ b = 57 then some 10 else
  let n := 10 * (a - 48) + (b - 48)
  if n < 94 then (let c := lSIGNS.getD n 0; if isPl c then none else some c) else none
theorem dec_two : ∀ a < 58, 48 ≤ a → ∀ b < 58, 48 ≤ b → dec [126, a, b] = dec2 a b := by decide +kernel
theorem unq_dec {l : List Nat} {n : Nat} : (l.drop n).length ≤ l.length := by rw [List.length_drop]; omega
def unq (l : List Nat) : Option (List Nat) := match l with
  | [] => some []
  | c :: r => if c = 126 then (match dec (126 :: r.take 2) with
      | some x => (unq (r.drop 2)).map (x :: ·)
      | none => none) else (match dec [c] with
      | some x => (unq r).map (x :: ·)
      | none => none)
termination_by l.length
decreasing_by
  · simp only [List.length_drop, List.length_cons]; omega
  · simp only [List.length_cons]; omega
theorem unq_nil : unq [] = some [] := by unfold unq; rfl
theorem unq_tilde (r : List Nat) : unq (126 :: r) = match dec (126 :: r.take 2) with
    | some x => (unq (r.drop 2)).map (x :: ·)
    | none => none := by
  conv => lhs; unfold unq
  rw [if_pos rfl]
theorem unq_cons {c : Nat} (h : c ≠ 126) (r : List Nat) : unq (c :: r) = match dec [c] with
    | some x => (unq r).map (x :: ·)
    | none => none := by
  conv => lhs; unfold unq
  rw [if_neg h]
def unqD (d : D) : Option (List Nat) := match d with
  | .str s => (unq s).bind fun l => if l.length ≤ 200 then some l else none
  | _ => none
theorem unq_quote : ∀ l : List Nat, okT l = true → unq (quoteL l) = some l
  | [], _ => unq_nil
  | c :: r, h => by
    have h : (isT1 c && okT r) = true := h
    rw [Bool.and_eq_true] at h
    have ih := unq_quote r h.2
    have hm := dec_qs c ((mem_allSg c).mpr h.1)
    show unq (qs c ++ quoteL r) = some (c :: r)
    by_cases hp : isPl c = true
    · rw [qs_pl hp] at hm ⊢
      have hne : c ≠ 126 := by rintro rfl; revert hp; decide
      show unq (c :: quoteL r) = _
      rw [unq_cons hne, hm, ih] <;> rfl
    · have hp' : isPl c = false := by simpa using hp
      by_cases h10 : c = 10
      · subst h10
        show unq (126 :: (57 :: 57 :: quoteL r)) = _
        rw [unq_tilde]
        have e : dec (126 :: (57 :: 57 :: quoteL r).take 2) = some 10 := hm
        rw [e]
        show (unq (quoteL r)).map _ = _
        rw [ih] <;> rfl
      · rw [qs_np hp' h10] at hm ⊢
        show unq (126 :: ((48 + idx c / 10) :: (48 + idx c % 10) :: quoteL r)) = _
        rw [unq_tilde]
        have e : dec (126 :: ((48 + idx c / 10) :: (48 + idx c % 10) :: quoteL r).take 2) = some c := hm
        rw [e]
        show (unq (quoteL r)).map _ = _
        rw [ih] <;> rfl
theorem unqD_quote {l : List Nat} (h : okT l = true) (hl : l.length ≤ 200) : unqD (.str (quoteL l)) = some l := by
  show (unq (quoteL l)).bind _ = _
  rw [unq_quote l h]
  show (if l.length ≤ 200 then some l else none) = _
  rw [if_pos hl]
theorem quote_unq : ∀ (n : Nat) (l x : List Nat), l.length ≤ n → unq l = some x → quoteL x = l ∧ okT x = true
  | n, [], x, _, h => by
    rw [unq_nil] at h
    cases h
    exact ⟨rfl, rfl⟩
  | 0, c :: r, x, hn, h => by simp at hn
  | n + 1, c :: r, x, hn, h => by
    by_cases hc : c = 126
    · subst hc
      rw [unq_tilde] at h
      cases hd : dec (126 :: r.take 2) with
      | none => rw [hd] at h; cases h
      | some y =>
        rw [hd] at h
        have h : (unq (r.drop 2)).map (y :: ·) = some x := h
        cases hu : unq (r.drop 2) with
        | none => rw [hu] at h; cases h
        | some z =>
          rw [hu] at h
          cases h
          obtain ⟨e1, e2⟩ := dec_some hd
          obtain ⟨f1, f2⟩ := quote_unq n (r.drop 2) z (by simp only [List.length_drop, List.length_cons] at hn ⊢; omega) hu
          refine ⟨?_, ?_⟩
          · show qs y ++ quoteL z = _
            rw [e1, f1]
            show 126 :: (r.take 2 ++ r.drop 2) = _
            rw [List.take_append_drop]
          · show (isT1 y && okT z) = true
            rw [e2, f2] <;> rfl
    · rw [unq_cons hc] at h
      cases hd : dec [c] with
      | none => rw [hd] at h; cases h
      | some y =>
        rw [hd] at h
        have h : (unq r).map (y :: ·) = some x := h
        cases hu : unq r with
        | none => rw [hu] at h; cases h
        | some z =>
          rw [hu] at h
          cases h
          obtain ⟨e1, e2⟩ := dec_some hd
          obtain ⟨f1, f2⟩ := quote_unq n r z (by simp only [List.length_cons] at hn; omega) hu
          refine ⟨?_, ?_⟩
          · show qs y ++ quoteL z = _
            rw [e1, f1] <;> rfl
          · show (isT1 y && okT z) = true
            rw [e2, f2] <;> rfl
end Aw
namespace Aw
open PySem PySem.Spec L2 Q2 SX
theorem atI_nat {α : Type} {xs : List α} {n : Nat} {y : α} (h : xs[n]? = some y) : atI xs (n : Int) = some y := by
  have hn : n < xs.length := by
    rcases Nat.lt_or_ge n xs.length with g | g
    · exact g
    · rw [List.getElem?_eq_none g] at h; cases h
  unfold atI ixN
  rw [if_pos (Int.ofNat_nonneg n), if_pos (by omega)]
  simpa using h
theorem atI_0 {α : Type} {x : α} {xs : List α} : atI (x :: xs) 0 = some x := atI_nat (n := 0) rfl
theorem atI_1 {α : Type} {x y : α} {xs : List α} : atI (x :: y :: xs) 1 = some y := atI_nat (n := 1) rfl
def offP (l : List Nat) : Bool := match l with
  | [a, b] => !(dig2 a b && decide (10 * (a - 48) + (b - 48) < 94))
  | _ => true
theorem fig2 (a b : Nat) : isFig (if lstripL [48] [a, b] = [] then [48] else lstripL [48] [a, b]) 2 = dig2 a b := by
  by_cases ha : a = 48
  · subst ha
    by_cases hb : b = 48
    · subst hb; decide
    · have e : lstripL [48] [48, b] = [b] := by simp [lstripL, hb]
      rw [e]
      simp [isFig, dig2, hb, isDig]
  · have e : lstripL [48] [a, b] = [a, b] := by simp [lstripL, ha]
    rw [e]
    simp [isFig, dig2, ha]
theorem val2 {a b : Nat} (h : dig2 a b = true) : (NumText.digitsVal [a, b] : Nat) = 10 * (a - 48) + (b - 48) := by
  simp [dig2, isDig] at h
  simp [NumText.digitsVal]
  omega
theorem offP_two {l : List Nat} (h : l.length = 2) : ∃ a b, l = [a, b] := by
  match l, h with
  | [a, b], _ => exact ⟨a, b, rfl⟩
theorem offP_no {l : List Nat} (h : l.length ≠ 2) : offP l = true := by
  unfold offP
  split
  · simp at h
  · rfl
theorem dec_line : dec [126, 57, 57] = some 10 := by decide +kernel
theorem dec_off {l : List Nat} (h : offP l = true) (hn : l ≠ [57, 57]) : dec (126 :: l) = none := by
  by_cases h2 : ∃ a b, l = [a, b] ∧ dig2 a b = true
  · obtain ⟨a, b, rfl, hd⟩ := h2
    have ho : (!(dig2 a b && decide (10 * (a - 48) + (b - 48) < 94))) = true := h
    rw [hd] at ho
    simp [dig2, isDig] at hd
    rw [dec_two a (by omega) (by omega) b (by omega) (by omega)]
    simp at ho
    unfold dec2
    rw [if_neg (by rintro ⟨rfl, rfl⟩; exact hn rfl)]
    show (if _ then _ else _) = _
    rw [if_neg (by omega)]
  · refine dec_tilde_no fun a b e => ?_
    cases hd : dig2 a b
    · rfl
    · exact absurd ⟨a, b, e, hd⟩ h2
theorem dec_on {a b : Nat} (h : offP [a, b] = false) : dec [126, a, b] = if isPl (lSIGNS.getD (10 * (a - 48) + (b - 48)) 0) then none else some (lSIGNS.getD (10 * (a - 48) + (b - 48)) 0) := by
  have ho : (!(dig2 a b && decide (10 * (a - 48) + (b - 48) < 94))) = false := h
  simp at ho
  obtain ⟨hd, hv⟩ := ho
  simp [dig2, isDig] at hd
  rw [dec_two a (by omega) (by omega) b (by omega) (by omega)]
  unfold dec2
  rw [if_neg (by rintro ⟨rfl, rfl⟩; simp at hv)]
  show (if _ then _ else _) = _
  rw [if_pos hv]
theorem sign_at {k : Nat} (h : k < 94) : atI lSIGNS (k : Int) = some (lSIGNS.getD k 0) := by
  refine atI_nat ?_
  have hk : k < lSIGNS.length := h
  rw [List.getElem?_eq_getElem hk]
  simp [List.getD, hk]
end Aw
namespace Aw
open PySem PySem.Spec L2 Q2 SX
def UnqI (l : List Nat) (k : Nat) (f : List Nat) : Prop := unq l = (unq (l.drop k)).map (f ++ ·)
theorem UnqI.start (l : List Nat) : UnqI l 0 [] := by
  unfold UnqI
  simp
theorem UnqI.tilde {l f : List Nat} {k : Nat} (h : UnqI l k f) (hc : l[k]? = some 126) : (∀ x, dec (126 :: (l.drop (k + 1)).take 2) = some x → UnqI l (k + 1 + 2) (f ++ [x])) ∧ (dec (126 :: (l.drop (k + 1)).take 2) = none → unq l = none) := by
  unfold UnqI at h ⊢
  have e : l.drop k = 126 :: l.drop (k + 1) := by
    have hk := List.getElem?_eq_some_iff.mp hc
    rw [List.drop_eq_getElem_cons hk.1, hk.2]
  rw [e, unq_tilde] at h
  refine ⟨fun x hx => ?_, fun hx => ?_⟩
  · rw [hx] at h
    rw [h]
    show Option.map _ (Option.map _ (unq ((l.drop (k + 1)).drop 2))) = _
    rw [List.drop_drop, Option.map_map]
    congr 1
    funext y
    simp
  · rw [hx] at h
    exact h
theorem UnqI.plain {l f : List Nat} {k c : Nat} (h : UnqI l k f) (hc : l[k]? = some c) (hn : c ≠ 126) : (isPl c = true → UnqI l (k + 1) (f ++ [c])) ∧ (isPl c = false → unq l = none) := by
  unfold UnqI at h ⊢
  have e : l.drop k = c :: l.drop (k + 1) := by
    have hk := List.getElem?_eq_some_iff.mp hc
    rw [List.drop_eq_getElem_cons hk.1, hk.2]
  rw [e, unq_cons hn, dec_one hn] at h
  refine ⟨fun x => ?_, fun x => ?_⟩
  · rw [x] at h
    rw [h]
    show Option.map _ (Option.map _ (unq (l.drop (k + 1)))) = _
    rw [Option.map_map]
    congr 1
    funext y
    simp
  · rw [x] at h
    exact h
theorem UnqI.fin {l f : List Nat} {k : Nat} (h : UnqI l k f) (hk : l.length ≤ k) : unq l = some f := by
  unfold UnqI at h
  rw [List.drop_eq_nil_of_le hk, unq_nil] at h
  simpa using h
theorem unqD_none {l : List Nat} (h : unq l = none) : unqD (.str l) = none := by
  show (unq l).bind _ = none
  rw [h]
  rfl
theorem unqD_long {l f : List Nat} (h : unq l = some f) (hl : 200 < f.length) : unqD (.str l) = none := by
  show (unq l).bind _ = none
  rw [h]
  show (if _ then _ else _) = _
  rw [if_neg (by omega)]
theorem unqD_some {l f : List Nat} (h : unq l = some f) (hl : f.length ≤ 200) : unqD (.str l) = some f := by
  show (unq l).bind _ = _
  rw [h]
  show (if _ then _ else _) = _
  rw [if_pos hl]
theorem unqD_ns {d : D} (h : ∀ s, d ≠ .str s) : unqD d = none := by
  cases d with
  | str s => exact absurd rfl (h s)
  | _ => rfl
theorem join_ones (f : List Nat) : joinL [] (f.map fun c => [c]) = f := by
  have h : ∀ l : List Nat, joinL [] (l.map fun c => [c]) = l := by
    intro l
    induction l with
    | nil => rfl
    | cons a b ih => cases b with
      | nil => rfl
      | cons c d => show [a] ++ [] ++ joinL [] ((c :: d).map fun c => [c]) = _; rw [ih]; rfl
  exact h f
theorem sum_ones (f : List Nat) : ((f.map fun c => [c]).map (·.length)).sum = f.length := by
  induction f with
  | nil => rfl
  | cons a b ih => simp only [List.map_cons, List.sum_cons, ih, List.length_cons, List.length_nil]; omega
end Aw
namespace Aw
open PySem PySem.Spec L2 Q2 SX
theorem cutL_two (l : List Nat) (k : Nat) : cutL l (some ((k : Nat) : Int)) (some (((k + 2 : Nat)) : Int)) = (l.drop k).take 2 := by
  rw [cutL_mid, List.drop_take]
  congr 1
  omega
theorem cutL_two_le (l : List Nat) (k : Nat) : (cutL l (some ((k : Nat) : Int)) (some (((k + 2 : Nat)) : Int))).length ≤ 2 := by
  rw [cutL_two, List.length_take]
  omega
end Aw
namespace Aw
open PySem PySem.Spec L2 Q2 SX
def intOf : D → Int
  | .int k => k
  | _ => 0
def cellF (ns : List Int) (k : Nat) : Int := ns.getD k 0
def seedF (s k : Int) : Int := ((s * 1103515245 + 7919 * k + 12345) % 2147483647) ^ (5 : Int).toNat % 2147483647
def pickF (s m : Int) : Int := s / 97 % m
theorem seedF_lo (s k : Int) : 0 ≤ seedF s k := by unfold seedF; omega
theorem pickF_lo {s m : Int} (h : 0 < m) : 0 ≤ pickF s m := Int.emod_nonneg _ (by omega)
theorem pickF_hi {s m : Int} (h : 0 < m) : pickF s m < m := Int.emod_lt_of_pos _ h
def lawSigns (s : Int) (b : Bool) : List Nat := (if s / 5 % 3 = 0 then lPLAIN else lSIGNS) ++ (if b = true ∧ s / 7 % 2 = 0 then [10, 10, 10] else [])
def manyF (s m : Int) : Int := if pickF s 3 = 0 then s / 11 % (m + 1) else if pickF s 3 = 1 then s / 11 % 4 else m
def textF (s m : Int) (b : Bool) : List Nat := (List.range (min (manyF s m) m).toNat).map fun k => (lawSigns s b).getD (pickF (seedF s (k : Nat)) ((lawSigns s b).length : Nat)).toNat 0
theorem lawSigns_len (s : Int) (b : Bool) : 39 ≤ (lawSigns s b).length := by
  unfold lawSigns
  rw [List.length_append]
  have h1 : lPLAIN.length = 39 := by decide
  have h2 : lSIGNS.length = 94 := by decide
  split <;> omega
theorem lawSigns_ok (s : Int) (b : Bool) : ∀ c ∈ lawSigns s b, isT1 c = true := by
  intro c hc
  have h1 : ∀ c ∈ lPLAIN, isT1 c = true := by decide
  have h2 : ∀ c ∈ lSIGNS, isT1 c = true := by decide
  have h3 : ∀ c ∈ [10, 10, 10], isT1 c = true := by decide
  unfold lawSigns at hc
  rcases List.mem_append.mp hc with h | h
  · split at h
    · exact h1 c h
    · exact h2 c h
  · split at h
    · exact h3 c h
    · cases h
theorem getD_mem {l : List Nat} {k : Nat} (h : k < l.length) : l.getD k 0 ∈ l := by
  rw [List.getD_eq_getElem?_getD, List.getElem?_eq_getElem h]
  exact List.getElem_mem h
theorem at_pick {l : List Nat} {s : Int} (h : 0 < l.length) : atI l (pickF s (l.length : Nat)) = some (l.getD (pickF s (l.length : Nat)).toNat 0) := by
  have h1 := pickF_lo (s := s) (m := (l.length : Nat)) (by omega)
  have h2 := pickF_hi (s := s) (m := (l.length : Nat)) (by omega)
  obtain ⟨k, hk⟩ : ∃ k : Nat, pickF s (l.length : Nat) = (k : Int) := ⟨_, (Int.toNat_of_nonneg h1).symm⟩
  rw [hk] at h2 ⊢
  refine atI_nat ?_
  have h3 : k < l.length := by omega
  rw [Int.toNat_natCast, List.getD_eq_getElem?_getD, List.getElem?_eq_getElem h3]
  rfl
theorem textF_len (s m : Int) (b : Bool) : (textF s m b).length ≤ m.toNat := by
  unfold textF
  rw [List.length_map, List.length_range]
  omega
theorem textF_ok (s m : Int) (b : Bool) : okT (textF s m b) = true := by
  refine List.all_eq_true.mpr fun c hc => ?_
  obtain ⟨k, _, rfl⟩ := List.mem_map.mp hc
  have h1 := lawSigns_len s b
  refine lawSigns_ok s b _ (getD_mem ?_)
  have h2 := pickF_hi (s := seedF s (k : Nat)) (m := ((lawSigns s b).length : Nat)) (by omega)
  omega
theorem cell_at {ns : List Int} {k : Nat} (h : k < ns.length) : atI (ns.map D.int) (k : Nat) = some (.int (cellF ns k)) := by
  refine atI_nat ?_
  rw [List.getElem?_map, List.getElem?_eq_getElem h]
  simp [cellF, List.getD_eq_getElem?_getD, List.getElem?_eq_getElem h]
theorem cell_no {ns : List Int} {k : Nat} (h : ns.length ≤ k) : cellF ns k = 0 := by
  simp [cellF, List.getD_eq_getElem?_getD, List.getElem?_eq_none h]
theorem many_at (s m : Int) : atI [D.int (s / 11 % (m + 1)), D.int (s / 11 % 4), D.int m] (pickF s 3) = some (.int (manyF s m)) := by
  have h1 := pickF_lo (s := s) (m := 3) (by omega)
  have h2 := pickF_hi (s := s) (m := 3) (by omega)
  unfold manyF
  rcases (show pickF s 3 = 0 ∨ pickF s 3 = 1 ∨ pickF s 3 = 2 by omega) with h | h | h <;> rw [h]
  · rfl
  · rfl
  · rfl
theorem manyF_lo (s m : Int) (h : 0 ≤ m) : 0 ≤ manyF s m := by
  unfold manyF
  split
  · exact Int.emod_nonneg _ (by omega)
  · split <;> omega
theorem min_if (i j : Int) : (if j < i then j else i) = min i j := by split <;> omega
theorem signs_app : lSG1 ++ lSG2 = lSIGNS := List.take_append_drop 63 lSIGNS
def lqs (c : Nat) : List Nat := if c ∈ lPLAIN then [c] else 126 :: (if c = 10 then [57, 57] else (List.replicate (2 - (TL.numL (idx c)).length) 48 ++ TL.numL (idx c)))
theorem lqs_qs : ∀ c ∈ allSg, lqs c = qs c := by decide +kernel
end Aw
namespace Aw
open PySem PySem.Spec L2 Q2 SX
theorem qt_len (l : List Nat) (i : Nat) : (quoteL (l.take i)).length ≤ 3 * l.length := by
  have h1 := quote_len (l.take i)
  have h2 : (l.take i).length ≤ l.length := by rw [List.length_take]; omega
  omega
theorem qt_succ {l : List Nat} {i c : Nat} (h : l[i]? = some c) : quoteL (l.take (i + 1)) = quoteL (l.take i) ++ qs c := by
  unfold quoteL
  rw [List.take_succ, h]
  simp
end Aw
namespace Aw
open PySem PySem.Spec L2 Q2 SX
theorem num2 : ∀ k, k < 94 → (TL.numL k).length ≤ 2 := by decide +kernel
theorem rep_eq (n c : Nat) : (List.replicate n [c]).flatten = List.replicate n c := by
  induction n with
  | zero => rfl
  | succ n ih => rw [List.replicate_succ, List.flatten_cons, ih]; rfl
theorem rep_len {c : Nat} (n : Nat) : (List.replicate n [c]).flatten.length = n := by rw [rep_eq, List.length_replicate]
end Aw
namespace Aw
open PySem PySem.Spec L2 Q2 SX
theorem okT_app (a b : List Nat) : okT (a ++ b) = (okT a && okT b) := List.all_append
theorem okT_take {l : List Nat} {n : Nat} (h : okT l = true) : okT (l.take n) = true := List.all_eq_true.mpr fun c hc => List.all_eq_true.mp h c (List.mem_of_mem_take hc)
end Aw
namespace Aw
open PySem PySem.Spec L2 Q2 SX
theorem cutL_toI (l : List Nat) {k : Int} (h : 0 ≤ k) : cutL l none (some k) = l.take k.toNat := by
  obtain ⟨n, rfl⟩ := Int.eq_ofNat_of_zero_le h
  exact cutL_to l n
theorem cutL_fromI (l : List Nat) {k : Int} (h : 0 ≤ k) : cutL l (some k) none = l.drop k.toNat := by
  obtain ⟨n, rfl⟩ := Int.eq_ofNat_of_zero_le h
  exact cutL_from l n
theorem six {α : Type} {a b c d e f : α} {k : Int} (h0 : 0 ≤ k) (h6 : k < 6) : ∃ x, atI [a, b, c, d, e, f] k = some x ∧ (x = a ∨ x = b ∨ x = c ∨ x = d ∨ x = e ∨ x = f) := by
  rcases (show k = 0 ∨ k = 1 ∨ k = 2 ∨ k = 3 ∨ k = 4 ∨ k = 5 by omega) with h | h | h | h | h | h <;> subst h
  · exact ⟨a, rfl, by simp⟩
  · exact ⟨b, rfl, by simp⟩
  · exact ⟨c, rfl, by simp⟩
  · exact ⟨d, rfl, by simp⟩
  · exact ⟨e, rfl, by simp⟩
  · exact ⟨f, rfl, by simp⟩
theorem isTextD_long {l : List Nat} {m : Int} (h : m < l.length) : isTextD (.str l) m = false := by
  show (decide ((l.length : Int) ≤ m) && okT l) = false
  rw [decide_eq_false (by omega)]
  rfl
theorem isTextD_bad {l : List Nat} {m : Int} (h : okT l = false) : isTextD (.str l) m = false := by
  show (decide ((l.length : Int) ≤ m) && okT l) = false
  rw [h, Bool.and_false]
end Aw
namespace Aw
open PySem PySem.Spec L2 Q2 SX
theorem nb1 {b : Bool} (h : (!b) = true) : b = false := by cases b <;> first | rfl | cases h
theorem nb0 {b : Bool} (h : (!b) = false) : b = true := by cases b <;> first | rfl | cases h
def sizeS : List Nat := [115, 105, 122, 101]
def piecesS : List Nat := [112, 105, 101, 99, 101, 115]
def toS : List Nat := [116, 111]
def ownL : List (List Nat) := [sizeS, piecesS]
def dOWN : D := .tup (ownL.map D.str)
def rowL (s : List Nat) (m : Int) : Bool := decide ((s.length : Int) ≤ m) && okT s && !decide (10 ∈ s)
def isRowD (d : D) (m : Int) : Bool := match d with
  | .str s => rowL s m
  | _ => false
def hnA (s : List Nat) : Bool := decide (1 ≤ s.length) && decide (s.length ≤ 10) && !decide (s ∈ ownL)
def hnC (c : Nat) : Bool := isSml c || decide (c = 45)
def hnL (s : List Nat) : Bool := hnA s && s.all hnC
def isHNameD (d : D) : Bool := match d with
  | .str s => hnL s
  | _ => false
def hnAD (d : D) : Bool := match d with
  | .str s => hnA s
  | _ => false
def hvM (n : List Nat) : Int := if n = toS then 330 else 30
def hvL (n s : List Nat) : Bool := rowL s (hvM n) && decide (stripL [32] s = s)
def isHValD (n : List Nat) (d : D) : Bool := match d with
  | .str s => hvL n s
  | _ => false
def isHeadD (d : D) : Bool := match d with
  | .tup [.str n, v] => hnL n && isHValD n v
  | _ => false
def isHeadsD (d : D) : Bool := match d with
  | .tup hs => decide (hs.length ≤ 8) && hs.all isHeadD
  | _ => false
abbrev Hd := List Nat × List Nat
abbrev hdD (h : Hd) : D := .tup [.str h.1, .str h.2]
abbrev hsD (hs : List Hd) : D := .tup (hs.map hdD)
def okH (h : Hd) : Bool := hnL h.1 && hvL h.1 h.2
theorem isHeadD_iff {d : D} (h : isHeadD d = true) : ∃ x : Hd, d = hdD x ∧ okH x = true := by
  unfold isHeadD at h
  split at h
  · rename_i n v
    rw [Bool.and_eq_true] at h
    cases v with
    | str s => exact ⟨(n, s), rfl, by unfold okH; rw [h.1]; exact h.2⟩
    | _ => simp [isHValD] at h
  · cases h
theorem isHeadD_hd (x : Hd) : isHeadD (hdD x) = okH x := rfl
theorem heads_of : ∀ {ds : List D}, ds.all isHeadD = true → ∃ hs : List Hd, ds = hs.map hdD ∧ hs.all okH = true
  | [], _ => ⟨[], rfl, rfl⟩
  | d :: r, h => by
    rw [List.all_cons, Bool.and_eq_true] at h
    obtain ⟨x, rfl, hx⟩ := isHeadD_iff h.1
    obtain ⟨hs, rfl, hh⟩ := heads_of h.2
    exact ⟨x :: hs, rfl, by rw [List.all_cons, hx, hh]; rfl⟩
theorem isHeads_of {d : D} (h : isHeadsD d = true) : ∃ hs : List Hd, d = hsD hs ∧ hs.length ≤ 8 ∧ hs.all okH = true := by
  cases d with
  | tup ds =>
    have h : (decide (ds.length ≤ 8) && ds.all isHeadD) = true := h
    rw [Bool.and_eq_true] at h
    obtain ⟨hs, rfl, hh⟩ := heads_of h.2
    have := of_decide_eq_true h.1
    rw [List.length_map] at this
    exact ⟨hs, rfl, this, hh⟩
  | _ => cases h
theorem isHeads_hs (hs : List Hd) : isHeadsD (hsD hs) = (decide (hs.length ≤ 8) && hs.all okH) := by
  show (decide ((hs.map hdD).length ≤ 8) && (hs.map hdD).all isHeadD) = _
  rw [List.length_map, List.all_map]
  rfl
theorem isHName_str {d : D} (h : isHNameD d = true) : ∃ s, d = .str s ∧ hnL s = true := by
  cases d with
  | str s => exact ⟨s, rfl, h⟩
  | _ => cases h
theorem isHVal_str {n : List Nat} {d : D} (h : isHValD n d = true) : ∃ s, d = .str s ∧ hvL n s = true := by
  cases d with
  | str s => exact ⟨s, rfl, h⟩
  | _ => cases h
theorem isRow_str {d : D} {m : Int} (h : isRowD d m = true) : ∃ s, d = .str s ∧ rowL s m = true := by
  cases d with
  | str s => exact ⟨s, rfl, h⟩
  | _ => cases h
theorem hnAD_str {d : D} (h : hnAD d = true) : ∃ s, d = .str s ∧ hnA s = true := by
  cases d with
  | str s => exact ⟨s, rfl, h⟩
  | _ => cases h
theorem hd_kn (ω : Om) (x : Hd) : kn ω (hdD x) = true := rfl
theorem hs_kn (ω : Om) (hs : List Hd) : kn ω (hsD hs) = true := kns_of fun d m => by
  obtain ⟨x, _, rfl⟩ := List.mem_map.mp m
  rfl
theorem row_okT {s : List Nat} {m : Int} (h : rowL s m = true) : okT s = true := by
  unfold rowL at h
  simp at h
  exact h.1.2
theorem hn_ok {s : List Nat} (h : hnL s = true) : okT s = true := by
  unfold hnL at h
  rw [Bool.and_eq_true] at h
  refine List.all_eq_true.mpr fun c m => ?_
  have := List.all_eq_true.mp h.2 c m
  simp [hnC, isSml] at this
  simp [isT1, isSg]
  omega
theorem hv_ok {n s : List Nat} (h : hvL n s = true) : okT s = true := by
  unfold hvL at h
  rw [Bool.and_eq_true] at h
  exact row_okT h.1
theorem hn_len {s : List Nat} (h : hnL s = true) : s.length ≤ 10 := by
  unfold hnL hnA at h
  simp at h
  exact h.1.1.2
theorem hv_len {n s : List Nat} (h : hvL n s = true) : s.length ≤ 330 := by
  unfold hvL rowL hvM at h
  simp at h
  have := h.1.1.1
  split at this <;> omega
theorem pl_okS {l : List Nat} (n : Nat) (h : okT l = true) : pl n (.str l) = true := by
  unfold pl
  refine List.all_eq_true.mpr fun c m => decide_eq_true ?_
  have := List.all_eq_true.mp h c m
  simp [isT1, isSg] at this
  omega
theorem pl_hd {x : Hd} (n : Nat) (h : okH x = true) : pl (n + 1) (hdD x) = true := by
  unfold okH at h
  rw [Bool.and_eq_true] at h
  show (pl n (.str x.1) && (pl n (.str x.2) && true)) = true
  rw [pl_okS n (hn_ok h.1), pl_okS n (hv_ok h.2)]
  rfl
theorem pl_hs {hs : List Hd} (n : Nat) (h : hs.all okH = true) : pl (n + 2) (hsD hs) = true := by
  show ((hs.map hdD).all (pl (n + 1))) = true
  rw [List.all_map]
  exact List.all_eq_true.mpr fun x m => pl_hd n (List.all_eq_true.mp h x m)
def valsOf (hs : List Hd) (n : List Nat) : List (List Nat) := (hs.filter fun h => decide (h.1 = n)).map (·.2)
def valOf (hs : List Hd) (n : List Nat) : D := match hs.find? (fun h => decide (h.1 = n)) with
  | some h => .str h.2
  | none => .non
def withoutH (hs : List Hd) (n : List Nat) : List Hd := hs.filter fun h => !decide (h.1 = n)
def putF (n t : List Nat) : List Hd → Bool → List Hd
  | [], true => []
  | [], false => [(n, t)]
  | h :: r, done => if h.1 = n then (if done then putF n t r true else (n, t) :: putF n t r true) else h :: putF n t r done
def putH (hs : List Hd) (n t : List Nat) : List Hd := putF n t hs false
def len2D (d : D) : Bool := match d with
  | .tup [_, _] => true
  | _ => false
def hd1D (d : D) : Bool := match d with
  | .tup [n, _] => isHNameD n
  | _ => false
theorem hd1D_of {d : D} (h : hd1D d = true) : ∃ n v, d = .tup [.str n, v] ∧ hnL n = true := by
  unfold hd1D at h
  split at h
  · rename_i n v
    obtain ⟨s, rfl, hs⟩ := isHName_str h
    exact ⟨s, v, rfl, hs⟩
  · cases h
theorem hd1D_no {d : D} (h : hd1D d = false) : isHeadD d = false := by
  unfold isHeadD
  split
  · rename_i n v
    have h : hnL n = false := h
    rw [h]; rfl
  · rfl
theorem two_of {ds : List D} (h : ds.length = 2) : ∃ x y, ds = [x, y] := by
  match ds, h with
  | [x, y], _ => exact ⟨x, y, rfl⟩
theorem hd1D_len {ds : List D} (h : ds.length ≠ 2) : hd1D (.tup ds) = false := by
  unfold hd1D
  split
  · rename_i e
    cases e
    simp at h
  · rfl
def lookD (n t : D) : Bool := match n with
  | .str s => hnL s && isHValD s t
  | _ => false
theorem lookD_no {n t : D} (h : isHNameD n = false) : lookD n t = false := by
  cases n with
  | str s =>
    have h : hnL s = false := h
    show (hnL s && _) = false
    rw [h]; rfl
  | _ => rfl
theorem hv_nil (s : List Nat) : hvL s [] = true := by
  unfold hvL rowL hvM
  split <;> decide
theorem look_nil (n : D) : lookD n (.str []) = isHNameD n := by
  cases n with
  | str s =>
    show (hnL s && hvL s []) = hnL s
    rw [hv_nil, Bool.and_true]
  | _ => rfl
theorem find_take {hs : List Hd} {n : List Nat} {i : Nat} {x : Hd} (h : hs[i]? = some x) (hn : ∀ y ∈ hs.take i, y.1 ≠ n) : (x.1 = n → valOf hs n = .str x.2) ∧ (x.1 ≠ n → ∀ y ∈ hs.take (i + 1), y.1 ≠ n) := by
  refine ⟨fun e => ?_, fun e y m => ?_⟩
  · have hi : i < hs.length := by
      rcases Nat.lt_or_ge i hs.length with g | g
      · exact g
      · rw [List.getElem?_eq_none g] at h; cases h
    have e1 : hs = hs.take i ++ x :: hs.drop (i + 1) := by
      have hx : hs[i] = x := by
        rw [List.getElem?_eq_getElem hi] at h
        exact Option.some.inj h
      rw [← hx, List.getElem_cons_drop, List.take_append_drop]
    have e2 : hs.find? (fun h => decide (h.1 = n)) = some x := by
      rw [e1, List.find?_append]
      have e3 : (hs.take i).find? (fun h => decide (h.1 = n)) = none := List.find?_eq_none.mpr fun y m => by simpa using hn y m
      rw [e3]
      rw [Option.none_or, List.find?_cons_of_pos (by simpa using e)]
    unfold valOf
    rw [e2]
  · rw [List.take_succ, h] at m
    rcases List.mem_append.mp m with m | m
    · exact hn y m
    · have : y = x := by simpa using m
      subst this
      exact e
theorem find_no {hs : List Hd} {n : List Nat} (hn : ∀ y ∈ hs.take hs.length, y.1 ≠ n) : valOf hs n = .non := by
  rw [List.take_length] at hn
  have e3 : hs.find? (fun h => decide (h.1 = n)) = none := List.find?_eq_none.mpr fun y m => by simpa using hn y m
  unfold valOf
  rw [e3]
theorem map_at {hs : List Hd} {i : Nat} {d : D} (h : (hs.map hdD)[i]? = some d) : ∃ x, hs[i]? = some x ∧ d = hdD x := by
  rw [List.getElem?_map] at h
  cases e : hs[i]? with
  | none => rw [e] at h; cases h
  | some x => rw [e] at h; cases h; exact ⟨x, rfl, rfl⟩
theorem all_take {α : Type} {l : List α} {p : α → Bool} {i : Nat} {x : α} (h : l[i]? = some x) (ht : (l.take i).all p = true) (hx : p x = true) : (l.take (i + 1)).all p = true := by
  rw [List.take_succ, h, List.all_append, ht]
  simp [hx]
theorem all_no {α : Type} {l : List α} {p : α → Bool} {i : Nat} {x : α} (h : l[i]? = some x) (hx : p x = false) : l.all p = false := by
  rw [List.all_eq_false]
  exact ⟨x, List.mem_of_getElem? h, by rw [hx]; exact Bool.false_ne_true⟩
def fstL (d : D) : List Nat := match d with
  | .tup (.str a :: _) => a
  | _ => []
def sndD (d : D) : D := match d with
  | .tup [_, b] => b
  | _ => .non
theorem vals_eq (hs : List Hd) (n : List Nat) : (((hs.map hdD).filter fun d => decide (fstL d = n)).map fun d => sndD d) = (valsOf hs n).map D.str := by
  unfold valsOf
  rw [List.filter_map, List.map_map, List.map_map]
  rfl
theorem without_eq (hs : List Hd) (n : List Nat) : (((hs.map hdD).filter fun d => !decide (fstL d = n)).map fun d => d) = (withoutH hs n).map hdD := by
  unfold withoutH
  rw [List.map_id', List.filter_map]
  rfl
theorem drop_at {α : Type} {l : List α} {i : Nat} {x : α} (h : l[i]? = some x) : l.drop i = x :: l.drop (i + 1) := by
  have hi : i < l.length := by
    rcases Nat.lt_or_ge i l.length with g | g
    · exact g
    · rw [List.getElem?_eq_none g] at h; cases h
  have hx : l[i] = x := by
    rw [List.getElem?_eq_getElem hi] at h
    exact Option.some.inj h
  rw [← hx, List.getElem_cons_drop]
theorem putF_skip {n t : List Nat} {x : Hd} {r : List Hd} {d : Bool} (h : x.1 ≠ n) : putF n t (x :: r) d = x :: putF n t r d := by
  conv => lhs; unfold putF
  cases d <;> rw [if_neg h]
theorem putF_new {n t : List Nat} {x : Hd} {r : List Hd} (h : x.1 = n) : putF n t (x :: r) false = (n, t) :: putF n t r true := by
  conv => lhs; unfold putF
  rw [if_pos h]; rfl
theorem putF_old {n t : List Nat} {x : Hd} {r : List Hd} (h : x.1 = n) : putF n t (x :: r) true = putF n t r true := by
  conv => lhs; unfold putF
  rw [if_pos h]; rfl
theorem putF_ok {n t : List Nat} (h : okH (n, t) = true) : ∀ (hs : List Hd) (d : Bool), hs.all okH = true → (putF n t hs d).all okH = true
  | [], true, _ => rfl
  | [], false, _ => by show (okH (n, t) && true) = true; rw [h]; rfl
  | x :: r, d, hh => by
    rw [List.all_cons, Bool.and_eq_true] at hh
    by_cases e : x.1 = n
    · cases d with
      | true => rw [putF_old e]; exact putF_ok h r true hh.2
      | false => rw [putF_new e, List.all_cons, h, putF_ok h r true hh.2]; rfl
    · rw [putF_skip e, List.all_cons, hh.1, putF_ok h r d hh.2]; rfl
theorem putH_ok {hs : List Hd} {n t : List Nat} (h : okH (n, t) = true) (hh : hs.all okH = true) : (putH hs n t).all okH = true := putF_ok h hs false hh
theorem okH_iff {n t : List Nat} : okH (n, t) = (hnL n && hvL n t) := rfl
theorem look_str {n t : D} (h : lookD n t = true) : ∃ s tx, n = .str s ∧ t = .str tx ∧ okH (s, tx) = true := by
  cases n with
  | str s =>
    have h : (hnL s && isHValD s t) = true := h
    rw [Bool.and_eq_true] at h
    obtain ⟨tx, rfl, hv⟩ := isHVal_str h.2
    refine ⟨s, tx, rfl, rfl, ?_⟩
    rw [okH_iff, h.1, hv]
    rfl
  | _ => cases h
theorem len2_eq (ss : List D) : decide ((ss.length : Int) = 2) = len2D (.tup ss) := by
  match ss with
  | [] => rfl
  | [_] => rfl
  | [_, _] => rfl
  | a :: b :: c :: r =>
    show decide (((r.length + 1 + 1 + 1 : Nat) : Int) = 2) = false
    exact decide_eq_false (by omega)
theorem len2_of {d : D} (h : len2D d = true) : ∃ y v, d = .tup [y, v] := by
  unfold len2D at h
  split at h
  · exact ⟨_, _, rfl⟩
  · cases h
theorem len2_no {d : D} (h : tupB d = false) : len2D d = false := by
  cases d with
  | tup _ => cases h
  | _ => rfl
theorem hsk {ω : Om} (hs : List Hd) : kns ω (hs.map hdD) = true := hs_kn ω hs
end Aw
namespace Q2
open PySem PySem.Spec L2 SX
abbrev enO (p : Addr) : Obj := { cls := .type "enumerate", data := .fields #[.none, .bool false, .ref p, rawInt 0, .none, .none] }
theorem mk_enum {v : Value} {o : Obj} {Hyp : Heap → Prop} (B : Begins v o Hyp) : Meets (Builtin.«enumerate.__new__» ⟨[.type "enumerate", v], []⟩) (fun _ R s => Hyp s.heap ∧ R (.ok (.ret (.ref (s.heap.push o).objs.size))) { s with heap := (s.heap.push o).push (enO s.heap.objs.size) }) :=
  .of_wp fun pr wo Ar Rt s hy => by
    obtain ⟨m, gs, dr, tn, ot⟩ := s; obtain ⟨b1, hy⟩ := hy
    have hsubE := sub_enumerate
    have q1 : ∀ {A' : Around} {E : Value → Shared → Prop} {Q : Value → Shared → Prop}, Q (.ref m.objs.size) ⟨m.push o, gs, dr, tn, ot⟩ → wpAny (model pr wo) A' (pyIter v) Q E ⟨m, gs, dr, tn, ot⟩ := fun z => B.iter pr wo _ _ ⟨m, gs, dr, tn, ot⟩ _ b1 z
    wp_walk using q1
    refine wpAny_stack_any fun sk => wpAny_pure ?_
    split
    · rename_i cl _ _ _ _ _
      cases (cl == Value.type "enumerate") <;> (wp_walk using q1; exact ⟨_, rfl, hy⟩)
    · wp_walk using q1; exact ⟨_, rfl, hy⟩
theorem new_enum {pr : Program} {wo : World} {Ar : Around} {Ex : Value → Shared → Prop} {s : Shared} {v : Value} {o : Obj} {Hyp : Heap → Prop} {Q : Value → Shared → Prop} (B : Begins v o Hyp) (b1 : Hyp s.heap) (q : ∀ h', IsEnum h' (s.heap.objs.size + 1) s.heap.objs.size 0 .none → h'.get? s.heap.objs.size = some o → h'.objs.size = s.heap.objs.size + 2 → (∀ b o, s.heap.get? b = some o → h'.get? b = some o) → Q (.ref (s.heap.objs.size + 1)) { s with heap := h' }) :
    wpAny (model pr wo) Ar (call (.type "enumerate") [v]) Q Ex s := by
  refine callType_new F.called_enumerate (by decide) (F.typeCall_enumerate_1 _) (F.newCall_enumerate_1 _) (fun ob => F.args_object_init_2 ob _) F.entry_enumerate_new (mk_enum B) ⟨b1, ?_⟩
  have z1 : (s.heap.push o).objs.size = s.heap.objs.size + 1 := Heap.size_push ..
  show _ ∧ _
  rw [z1]
  have ie : IsEnum ((s.heap.push o).push (enO s.heap.objs.size)) (s.heap.objs.size + 1) s.heap.objs.size 0 .none := by
    have z2 := Heap.get?_push_size (s.heap.push o) (o := enO s.heap.objs.size) rfl
    rw [z1] at z2; exact z2
  refine ⟨⟨_, ie, rfl⟩, q _ ie (Heap.get?_push_of_some _ (Heap.get?_push_size _ B.free)) (by rw [Heap.size_push, z1]) fun b o x => Heap.get?_push_of_some _ (Heap.get?_push_of_some _ x)⟩
def IteT (K : PySem.W.Frag) (a : Addr) : It :=
  ⟨fun i H => ∃ (xs : List V) (x : V), SqT K H a xs ∧ xs[i]? = some x, fun i H v H' => ∃ T x, v = .ref T ∧ H T = none ∧ H' = upd H T (.tup [.int (i : Nat), x]) ∧ ∀ xs, SqT K H a xs → xs[i]? = some x, fun i H => ∃ xs : List V, SqT K H a xs ∧ xs.length ≤ i⟩
theorem ends_at {pr : Program} {wo : World} {Ar : Around} (hh : Ar.handled = none) {it a : Addr} {i : Nat} {items : Array Value} (hno : items[i]? = none) : Draws pr wo Ar it [it, a] i (fun _ _ => False) (fun j h => j = i ∧ h.IsTupleIter it a i ∧ h.IsTuple a items) where
  live := fun _ _ st => let ⟨o, ho, _⟩ := st.2.1; ⟨o, ho⟩
  frame := fun _ _ _ st k => ⟨st.1, st.2.1.at fun o e => k it (by simp) o e, st.2.2.at fun o e => k a (by simp) o e⟩
  item := fun j s Q E hj st _ => by have := st.1; omega
  done := fun s Q E st hE => wpAny_nextOf_tuple_end hh st.2.1 st.2.2 hno hE
theorem tn_enumT {P : Program} {w : World} {K : PySem.W.Frag} {elts : List Expr} {kk : Nat} {tpos : Pos} (a e it : Addr) :
    Turn P w K (.Tuple elts kk tpos) (IteT K a) [e, it] e (fun i h => (∃ old, IsEnum h e it ((i : Nat) : Int) old) ∧ h.IsTupleIter it a i ∧ e ≠ it ∧ a ≠ it ∧ e ≠ a) where
  mem := by simp
  obj := fun i h st b hb => by
    obtain ⟨⟨old, ie⟩, ⟨o, g1, g2, g3⟩, _⟩ := st
    rcases (show b = e ∨ b = it by simpa using hb) with z | z
    · rw [z]; exact ⟨_, ie, fun v q => nomatch q⟩
    · rw [z]; exact ⟨o, g1, fun v q => by rw [g3] at q; cases q⟩
  keep := fun i h h' st k => by
    obtain ⟨⟨old, ie⟩, ii, r⟩ := st
    exact ⟨⟨old, k e (by simp) _ ie⟩, ii.at fun o q => k it (by simp) o q, r⟩
  item := by
    intro X hP hw hK hc i pins s σ H Ex I hf st hg
    subst hP hw hK
    obtain ⟨⟨old, ie⟩, ii, n1, n2, n3⟩ := st
    obtain ⟨xs, x, hq, hx⟩ := hg
    obtain ⟨its, rv, p, hz⟩ := I.tuple hq
    obtain ⟨u, hu, ru⟩ := rv.get hx
    have le : e < s.heap.objs.size := Heap.lt_size ie
    have li : it < s.heap.objs.size := by obtain ⟨_, q, _⟩ := ii; exact Heap.lt_size q
    have tp : s.heap.IsTuple a its.toArray := p
    have hlt : i < its.toArray.size := by
      have h1 : its[i]? = some u := hu
      have h2 := (List.getElem?_eq_some_iff.mp h1).1
      simpa using h2
    have Dr := Draws.tuple (prog := X.prog) (w := X.w) (A := X.A.in1) (I.ok.hd hc) it a n2 its.toArray
    refine wpAny_pyNext_enum_itemC Dr ie ⟨ii, tp⟩ hlt n1 (by simp [n1, n3]) fun y h' tk hy ho hit' hT hsz hk => ?_
    have ey : y = u := by
      have h1 : its.toArray[i]? = some y := hy
      have h2 : its.toArray[i]? = some u := by simpa using hu
      rw [h1] at h2; cases h2; rfl
    subst ey
    refine ⟨_, rfl, wpAny_letOwnedTupleGo_enum (s := { s with heap := h', toks := tk + 1 }) ho fun h'' he' sb => ?_⟩
    have hT2 : h''.get? s.heap.objs.size = some { cls := .type "tuple", data := .seq #[.int i tk, y] } := (sb.2 _ (Nat.ne_of_gt le)).trans hT
    have nw : ObjOk X.prog X.w (upd H s.heap.objs.size (.tup [.int (i : Nat), x])) h'' s.heap.objs.size (.tup [.int (i : Nat), x]) := ⟨by show 2 ≤ sizeLine; decide, [.int i tk, y], .cons ⟨_, rfl⟩ (.cons ru .nil), ⟨_, hT2, rfl, _, rfl⟩⟩
    have I1 : Inv X pins σ (upd H s.heap.objs.size (.tup [.int (i : Nat), x])) { s with heap := h'', toks := tk + 1 } := I.turnedNew (ch := [e, it]) (fun b ob hb q => (sb.2 b (fun z => hb (by simp [z]))).trans (hk b ob (fun z => hb (by simp [z])) (fun z => hb (by simp [z])) q)) hf (Nat.le_refl _) nw
    refine ⟨.ref s.heap.objs.size, _, I1, rfl, ⟨_, x, rfl, I.hok.fresh (Nat.le_refl _), rfl, fun ys hy => by rw [I.tuple_inj hy hq]; exact hx⟩, ⟨⟨y, ?_⟩, hit'.1.at fun o q => (sb.2 it (Ne.symm n1)).trans q, n1, n2, n3⟩, fun b hb => ?_⟩
    · rw [show ((i + 1 : Nat) : Int) = (i : Int) + 1 by omega]; exact he'
    · have hb' : b < s.heap.objs.size := by rcases (show b = e ∨ b = it by simpa using hb) with z | z <;> (rw [z]; assumption)
      rw [upd_ne (Nat.ne_of_lt hb')]; exact (hf b hb).1
  done := by
    intro X hP hw hK hc i pins s σ H Ex I hf st hg
    subst hP hw hK
    obtain ⟨⟨old, ie⟩, ii, n1, n2, n3⟩ := st
    obtain ⟨xs, hq, hx⟩ := hg
    obtain ⟨its, rv, p, hz⟩ := I.tuple hq
    obtain ⟨f0, f1, f2, f3, f4, f5⟩ := hf it (by simp)
    have hl := rv.length
    have tp : s.heap.IsTuple a its.toArray := p
    have hno : its.toArray[i]? = none := by simp; omega
    exact wpAny_pyNext_enum_endD (ends_at (Ar := X.A.in1) (it := it) (a := a) (show X.A.in1.handled = none from I.ok.hd hc) hno) ie ⟨rfl, ii, tp⟩ fun h' eb => ⟨rfl, I.turned (t' := s.toks) (fun b o hb q => eb b o hb q) f0 f1 f3 f4 f5⟩
  self := fun Ar i s Q Ex st q => by
    obtain ⟨⟨_, ie⟩, _⟩ := st
    exact wpAny_pyIter_enum ie q
def iEnT (K : PySem.W.Frag) (ta : TA) : TI := fun σ H R => ta σ H fun vs H1 => ∃ a xs, vs = [.ref a] ∧ SqT K H1 a xs ∧ R (IteT K a) H1
theorem pi_enT {X : Cx} {e : Expr} {ta : TA} {p pos tpos : Pos} {elts : List Expr} {kk : Nat} (hg : Gl X "enumerate") (hm : X.mg "enumerate" = none) (ha : PA X [e] ta) (hs : starEach [e] X.env = [(false, eval e X.env)] := by rfl) : PI X (.Tuple elts kk tpos) (.Call (.Name "enumerate" p) [e] [] pos) (iEnT X.K ta) := by
  refine ⟨fun pins s σ H R I h => ?_⟩
  refine PyProof.Rows.Call_ (ld_blt I hg hm PyProof.Rows.boot_enumerate (PyProof.Rows.callWith_type1 (thn (ha.run pos pins s σ H _ I h) fun us s1 ⟨vs, H1, I1, r1, q1⟩ => ?_) hs rfl))
  obtain ⟨a, xs, ex, hq, q⟩ := q1
  subst ex
  cases r1 with
  | cons r rr =>
    cases rr
    cases r
    obtain ⟨its, rv, p', hz⟩ := I1.tuple hq
    have tp : s1.heap.IsTuple a its.toArray := p'
    have la : a < s1.heap.objs.size := by obtain ⟨_, z, _⟩ := tp; exact Heap.lt_size z
    refine new_enum (begins_tuple a its.toArray) tp fun h' ie hit hsz hk => wpAny_pyIter_enum ie ?_
    have I2 : Inv X pins σ H1 { s1 with heap := h' } := I1.kept (t' := s1.toks) hk
    have ne1 : (s1.heap.objs.size + 1 : Nat) ≠ s1.heap.objs.size := Nat.succ_ne_self _
    have ne2 : a ≠ s1.heap.objs.size := Nat.ne_of_lt la
    have ne3 : (s1.heap.objs.size + 1 : Nat) ≠ a := Nat.ne_of_gt (Nat.lt_succ_of_lt la)
    refine ⟨s1.heap.objs.size + 1, [s1.heap.objs.size + 1, s1.heap.objs.size], _, _, H1, rfl, I2, tn_enumT a (s1.heap.objs.size + 1) s1.heap.objs.size, ⟨⟨.none, ie⟩, ⟨_, hit, rfl, rfl⟩, ne1, ne2, ne3⟩, fun b hb => ?_, q⟩
    have hle : s1.heap.objs.size ≤ b := by
      rcases (show b = s1.heap.objs.size + 1 ∨ b = s1.heap.objs.size by simpa using hb) with z | z
      · rw [z]; exact Nat.le_add_right _ _
      · rw [z]; exact Nat.le_refl _
    exact I1.fpOk hle (I1.hok.fresh hle)
def numD : Nat → List D → List D
  | _, [] => []
  | k, d :: r => .tup [.int (k : Nat), d] :: numD (k + 1) r
theorem numD_len : ∀ (k : Nat) (ds : List D), (numD k ds).length = ds.length
  | _, [] => rfl
  | k, d :: r => by show (numD (k + 1) r).length + 1 = _; rw [numD_len]; rfl
theorem numD_at : ∀ (k i : Nat) (ds : List D), (numD k ds)[i]? = (ds[i]?).map fun d => D.tup [.int ((k + i : Nat) : Int), d]
  | _, _, [] => by simp [numD]
  | k, 0, d :: r => rfl
  | k, i + 1, d :: r => by
    show (numD (k + 1) r)[i]? = (r[i]?).map _
    rw [numD_at, show k + 1 + i = k + (i + 1) by omega]
section
variable {X : Cx} {H0 : Hp} {ρ : Rho} {ω ω' : Om}
theorem gj_enumT {elts : List Expr} {kk : Nat} {tpos pos p : Pos} {e : Expr} {R : List D → (Om → Prop) → Om → Prop} (hm : X.mg "enumerate" = none) (hg : Gl X "enumerate") (h : GE X H0 e ρ ω fun d ω1 => ∃ ds, d = .tup ds ∧ R (numD 0 ds) (fun _ => True) ω1) (hs : starEach [e] X.env = [(false, eval e X.env)] := by rfl) : GJ X H0 (.Tuple elts kk tpos) (.Call (.Name "enumerate" p) [e] [] pos) ρ ω R := fun σ H Re =>
  wi_of (pi_enT hg hm (pa_cons pe_we pa_nil hs) hs) (thnE (h σ H Re) fun v H1 ⟨t, d, w, R1, i, ds, e, q⟩ => by
    subst e
    obtain ⟨a, xs, rfl, h1, r⟩ := im_tup i
    refine ⟨a, xs, rfl, h1, t, numD 0 ds, _, w, R1, fun j H' ω' t' hr _ => ?_, q⟩
    rw [numD_len]
    refine ⟨fun hj => ?_, fun hj => ⟨xs, t' _ _ h1, by rw [r.length]; exact hj⟩, fun x H'' ⟨T, y, e1, e2, e3, e4⟩ hj => ?_⟩
    · obtain ⟨v, g1, g2⟩ := r.get (i := j) (List.getElem?_eq_getElem hj)
      exact ⟨xs, v, t' _ _ h1, g1⟩
    · subst e1 e3
      have sm := same_new (o := .tup [.int (j : Nat), y]) e2
      obtain ⟨d, g1, g2⟩ := r.get' (e4 xs (t' _ _ h1))
      refine ⟨sm, _, by rw [numD_at, g1]; rfl, .tup (SqT.of upd_same) (.cons ?_ (.cons (g2.mono (t'.trans (tk_same sm)) d y) .nil))⟩
      rw [Nat.zero_add]
      exact .int _)
end
end Q2
namespace Aw
open PySem PySem.Spec L2 Q2 SX
theorem pre1 (c x : Nat) (r : List Nat) : TL.pre [c] (x :: r) = decide (x = c) := by
  show ([x] == [c]) = decide (x = c)
  by_cases h : x = c
  · subst h; simp
  · simp [h]
theorem par1 {c : Nat} : ∀ {a : List Nat} (acc b : List Nat), c ∉ a → TL.par [c] acc (a ++ c :: b) = some (acc ++ a, b)
  | [], acc, b, _ => by
    rw [List.nil_append, TL.par_hit (by rw [pre1]; simp), List.append_nil]
    rfl
  | x :: r, acc, b, h => by
    have hx : x ≠ c := fun e => h (by rw [e]; exact List.mem_cons_self ..)
    rw [List.cons_append, TL.par_miss (by rw [pre1]; simp [hx]), par1 _ _ fun m => h (List.mem_cons_of_mem _ m), List.append_assoc]
    rfl
theorem par0 {c : Nat} : ∀ {a : List Nat} (acc : List Nat), c ∉ a → TL.par [c] acc a = none
  | [], _, _ => rfl
  | x :: r, acc, h => by
    have hx : x ≠ c := fun e => h (by rw [e]; exact List.mem_cons_self ..)
    rw [TL.par_miss (by rw [pre1]; simp [hx]), par0 _ fun m => h (List.mem_cons_of_mem _ m)]
theorem partL_hit {c : Nat} {a : List Nat} (b : List Nat) (h : c ∉ a) : partL [c] (a ++ c :: b) = (a, [c], b) := by
  unfold partL
  rw [par1 [] b h]
  rfl
theorem partL_no {c : Nat} {a : List Nat} (h : c ∉ a) : partL [c] a = (a, [], []) := by
  unfold partL
  rw [par0 [] h]
theorem spl1 {c : Nat} : ∀ {a : List Nat} (acc b : List Nat), c ∉ a → TL.spl [c] 0 acc (a ++ c :: b) = (acc ++ a) :: TL.spl [c] 0 [] b
  | [], acc, b, _ => by
    rw [List.nil_append, TL.spl_hit (by rw [pre1]; simp), List.append_nil]
    rfl
  | x :: r, acc, b, h => by
    have hx : x ≠ c := fun e => h (by rw [e]; exact List.mem_cons_self ..)
    rw [List.cons_append, TL.spl_miss (by rw [pre1]; simp [hx]), spl1 _ _ fun m => h (List.mem_cons_of_mem _ m), List.append_assoc]
    rfl
theorem spl0 {c : Nat} : ∀ {a : List Nat} (acc : List Nat), c ∉ a → TL.spl [c] 0 acc a = [acc ++ a]
  | [], acc, _ => by rw [TL.spl_nil, List.append_nil]
  | x :: r, acc, h => by
    have hx : x ≠ c := fun e => h (by rw [e]; exact List.mem_cons_self ..)
    rw [TL.spl_miss (by rw [pre1]; simp [hx]), spl0 _ fun m => h (List.mem_cons_of_mem _ m), List.append_assoc]
    rfl
theorem join_cons (a y z : List Nat) (r : List (List Nat)) : joinL a (y :: z :: r) = y ++ (a ++ joinL a (z :: r)) := rfl
theorem join_one (a y : List Nat) : joinL a [y] = y := rfl
theorem spl_join {c : Nat} : ∀ {ys : List (List Nat)}, ys ≠ [] → (∀ y ∈ ys, c ∉ y) → splL [c] (joinL [c] ys) = ys
  | [], h, _ => absurd rfl h
  | [y], _, h => by
    rw [join_one]
    unfold splL
    rw [spl0 [] (h y (List.mem_cons_self ..))]
    rfl
  | y :: z :: r, _, h => by
    rw [join_cons]
    show TL.spl [c] 0 [] (y ++ c :: joinL [c] (z :: r)) = _
    rw [spl1 [] _ (h y (List.mem_cons_self ..))]
    have := spl_join (c := c) (ys := z :: r) (by simp) fun x m => h x (List.mem_cons_of_mem _ m)
    unfold splL at this
    rw [this]
    rfl
theorem join_snoc (a y : List Nat) : ∀ ys : List (List Nat), ys ≠ [] → joinL a (ys ++ [y]) = joinL a ys ++ (a ++ y)
  | [], h => absurd rfl h
  | [x], _ => rfl
  | x :: z :: r, _ => by
    have := join_snoc a y (z :: r) (by simp)
    show joinL a (x :: ((z :: r) ++ [y])) = _
    rw [List.cons_append, join_cons, join_cons, ← List.cons_append, this, List.append_assoc, List.append_assoc]
theorem qs_mem {c d : Nat} (h : d ∈ qs c) (hc : isT1 c = true) : isPl d = true ∨ d = 126 := by
  have : ∀ c ∈ allSg, ∀ d ∈ qs c, isPl d = true ∨ d = 126 := by decide +kernel
  exact this c ((mem_allSg c).mpr hc) d h
theorem quote_mem {l : List Nat} {d : Nat} (h : d ∈ quoteL l) (ho : okT l = true) : isPl d = true ∨ d = 126 := by
  obtain ⟨c, hc, hd⟩ := List.mem_flatMap.mp h
  exact qs_mem hd (List.all_eq_true.mp ho c hc)
theorem quote_no {l : List Nat} {c : Nat} (ho : okT l = true) (h1 : isPl c = false) (h2 : c ≠ 126) : c ∉ quoteL l := fun h => by
  rcases quote_mem h ho with e | e
  · rw [h1] at e; cases e
  · exact h2 e
theorem quote_ne {l : List Nat} (h : l ≠ []) : quoteL l ≠ [] := by
  cases l with
  | nil => exact absurd rfl h
  | cons c r =>
    intro e
    have : qs c ++ quoteL r = [] := e
    exact qs_ne c (List.append_eq_nil_iff.mp this).1
def isEmS (d : D) : Bool := match d with
  | .str [] => true
  | _ => false
def isPartD (d : D) : Bool := isTextD d 8 && !isEmS d
def isAskD (d : D) : Bool := match d with
  | .tup [y, v] => isTextD y 8 && isTextD v 8
  | _ => false
def isPathD (d : D) : Bool := match d with
  | .tup [.tup ps, .tup as] => decide (ps.length ≤ 5) && decide (as.length ≤ 4) && ps.all isPartD && as.all isAskD
  | _ => false
def okPart (s : List Nat) : Bool := decide (s.length ≤ 8) && okT s && !decide (s = [])
def okAsk (x : Hd) : Bool := decide (x.1.length ≤ 8) && okT x.1 && (decide (x.2.length ≤ 8) && okT x.2)
abbrev pathD (ps : List (List Nat)) (as : List Hd) : D := .tup [.tup (ps.map D.str), .tup (as.map hdD)]
theorem isText8 (s : List Nat) : isTextD (.str s) 8 = (decide (s.length ≤ 8) && okT s) := by
  show (decide ((s.length : Int) ≤ 8) && okT s) = _
  congr 1
  rw [Bool.eq_iff_iff]
  simp
  omega
theorem isPart_str (s : List Nat) : isPartD (.str s) = okPart s := by
  unfold isPartD okPart
  rw [isText8]
  cases s <;> rfl
theorem isAsk_hd (x : Hd) : isAskD (hdD x) = okAsk x := by
  show (isTextD (.str x.1) 8 && isTextD (.str x.2) 8) = _
  rw [isText8, isText8]
  rfl
theorem isText_sh {d : D} {m : Int} (h : isTextD d m = true) : ∃ s, d = .str s := by
  cases d with
  | str s => exact ⟨s, rfl⟩
  | _ => cases h
theorem parts_of : ∀ {ds : List D}, ds.all isPartD = true → ∃ ps : List (List Nat), ds = ps.map D.str ∧ ps.all okPart = true
  | [], _ => ⟨[], rfl, rfl⟩
  | d :: r, h => by
    rw [List.all_cons, Bool.and_eq_true] at h
    have h1 := h.1
    unfold isPartD at h1
    rw [Bool.and_eq_true] at h1
    obtain ⟨s, rfl⟩ := isText_sh h1.1
    obtain ⟨ps, rfl, hh⟩ := parts_of h.2
    exact ⟨s :: ps, rfl, by rw [List.all_cons, ← isPart_str, h.1, hh]; rfl⟩
theorem asks_of : ∀ {ds : List D}, ds.all isAskD = true → ∃ as : List Hd, ds = as.map hdD ∧ as.all okAsk = true
  | [], _ => ⟨[], rfl, rfl⟩
  | d :: r, h => by
    rw [List.all_cons, Bool.and_eq_true] at h
    have h1 := h.1
    unfold isAskD at h1
    split at h1
    · rename_i y v
      have h1' := h1
      rw [Bool.and_eq_true] at h1
      obtain ⟨s, rfl⟩ := isText_sh h1.1
      obtain ⟨t, rfl⟩ := isText_sh h1.2
      obtain ⟨as, rfl, hh⟩ := asks_of h.2
      exact ⟨(s, t) :: as, rfl, by rw [List.all_cons, ← isAsk_hd, hh]; rw [Bool.and_true]; exact h.1⟩
    · cases h1
theorem isPath_of {d : D} (h : isPathD d = true) : ∃ ps as, d = pathD ps as ∧ ps.length ≤ 5 ∧ as.length ≤ 4 ∧ ps.all okPart = true ∧ as.all okAsk = true := by
  unfold isPathD at h
  split at h
  · rename_i ps as
    simp only [Bool.and_eq_true, decide_eq_true_eq] at h
    obtain ⟨qs, rfl, h1⟩ := parts_of h.1.2
    obtain ⟨bs, rfl, h2⟩ := asks_of h.2
    rw [List.length_map, List.length_map] at h
    exact ⟨qs, bs, rfl, h.1.1.1, h.1.1.2, h1, h2⟩
  · cases h
theorem isPath_pd (ps : List (List Nat)) (as : List Hd) : isPathD (pathD ps as) = (decide (ps.length ≤ 5) && decide (as.length ≤ 4) && ps.all okPart && as.all okAsk) := by
  show (decide ((ps.map D.str).length ≤ 5) && decide ((as.map hdD).length ≤ 4) && (ps.map D.str).all isPartD && (as.map hdD).all isAskD) = _
  rw [List.length_map, List.length_map, List.all_map, List.all_map]
  congr 1
  · congr 1
    exact List.all_congr rfl fun s => isPart_str s
  · exact List.all_congr rfl fun x => isAsk_hd x
theorem path_kn (ω : Om) (ps : List (List Nat)) (as : List Hd) : kn ω (pathD ps as) = true := by
  show (kns ω (ps.map D.str) && (kns ω (as.map hdD) && true)) = true
  rw [kns_of (ω := ω) (ds := ps.map D.str) fun d m => by obtain ⟨x, _, rfl⟩ := List.mem_map.mp m; rfl, kns_of (ω := ω) (ds := as.map hdD) fun d m => by obtain ⟨x, _, rfl⟩ := List.mem_map.mp m; rfl]
  rfl
theorem path_pl {ps : List (List Nat)} {as : List Hd} (n : Nat) (h1 : ps.all okPart = true) (h2 : as.all okAsk = true) : pl (n + 3) (pathD ps as) = true := by
  show ((ps.map D.str).all (pl (n + 1)) && ((as.map hdD).all (pl (n + 1)) && true)) = true
  rw [List.all_map, List.all_map]
  have e1 : ps.all (pl (n + 1) ∘ D.str) = true := List.all_eq_true.mpr fun s m => by
    have := List.all_eq_true.mp h1 s m
    unfold okPart at this
    simp only [Bool.and_eq_true] at this
    exact pl_okS _ this.1.2
  have e2 : as.all (pl (n + 1) ∘ hdD) = true := List.all_eq_true.mpr fun x m => by
    have := List.all_eq_true.mp h2 x m
    unfold okAsk at this
    simp only [Bool.and_eq_true] at this
    show (pl n (.str x.1) && (pl n (.str x.2) && true)) = true
    rw [pl_okS _ this.1.2, pl_okS _ this.2.2]
    rfl
  rw [e1, e2]
  rfl
def askT (x : Hd) : List Nat := quoteL x.1 ++ [61] ++ quoteL x.2
def partsT (ps : List (List Nat)) : List Nat := [47] ++ joinL [47] (ps.map quoteL)
def asksJ (as : List Hd) : List Nat := joinL [38] (as.map askT)
def asksT (as : List Hd) : List Nat := if as = [] then [] else [63] ++ asksJ as
def textP (ps : List (List Nat)) (as : List Hd) : List Nat := partsT ps ++ asksT as
theorem okPart_len {s : List Nat} (h : okPart s = true) : s.length ≤ 8 ∧ okT s = true ∧ s ≠ [] := by
  unfold okPart at h
  simp at h
  exact ⟨h.1.1, h.1.2, h.2⟩
theorem okAsk_len {x : Hd} (h : okAsk x = true) : x.1.length ≤ 8 ∧ okT x.1 = true ∧ x.2.length ≤ 8 ∧ okT x.2 = true := by
  unfold okAsk at h
  simp at h
  exact ⟨h.1.1, h.1.2, h.2.1, h.2.2⟩
theorem sum_le {α : Type} {l : List α} {f : α → Nat} {k : Nat} (h : ∀ x ∈ l, f x ≤ k) : (l.map f).sum ≤ k * l.length := by
  induction l with
  | nil => exact Nat.le_refl 0
  | cons a r ih =>
    have h1 := h a (List.mem_cons_self ..)
    have h2 := ih fun x m => h x (List.mem_cons_of_mem _ m)
    rw [List.map_cons, List.sum_cons, List.length_cons, Nat.mul_add]
    omega
theorem parts_sum {ps : List (List Nat)} (h : ps.all okPart = true) : ((ps.map quoteL).map (·.length)).sum ≤ 24 * ps.length := by
  rw [List.map_map]
  refine sum_le fun s m => ?_
  have h1 := okPart_len (List.all_eq_true.mp h s m)
  have h2 := quote_len s
  show (quoteL s).length ≤ 24
  omega
theorem askT_len {x : Hd} (h : okAsk x = true) : (askT x).length ≤ 49 := by
  have h1 := okAsk_len h
  have h2 := quote_len x.1
  have h3 := quote_len x.2
  unfold askT
  rw [List.length_append, List.length_append, List.length_cons, List.length_nil]
  omega
theorem asks_sum {as : List Hd} (h : as.all okAsk = true) : ((as.map askT).map (·.length)).sum ≤ 49 * as.length := by
  rw [List.map_map]
  exact sum_le fun x m => askT_len (List.all_eq_true.mp h x m)
theorem partsT_len {ps : List (List Nat)} (h : ps.all okPart = true) (hl : ps.length ≤ 5) : (partsT ps).length ≤ 200 := by
  have h1 := parts_sum h
  have h2 := joinL_len [47] (ps.map quoteL)
  rw [List.length_map, List.length_cons, List.length_nil] at h2
  unfold partsT
  rw [List.length_append, List.length_cons, List.length_nil]
  omega
theorem asksJ_len {as : List Hd} (h : as.all okAsk = true) (hl : as.length ≤ 4) : (asksJ as).length ≤ 300 := by
  have h1 := asks_sum h
  have h2 := joinL_len [38] (as.map askT)
  rw [List.length_map, List.length_cons, List.length_nil] at h2
  unfold asksJ
  omega
theorem asksT_len {as : List Hd} (h : as.all okAsk = true) (hl : as.length ≤ 4) : (asksT as).length ≤ 301 := by
  have := asksJ_len h hl
  unfold asksT
  split
  · exact Nat.zero_le _
  · rw [List.length_append, List.length_cons, List.length_nil]
    omega
theorem join_no {c s : Nat} (hs : c ≠ s) : ∀ {ys : List (List Nat)}, (∀ y ∈ ys, c ∉ y) → c ∉ joinL [s] ys
  | [], _ => by intro m; cases m
  | [y], h => by rw [join_one]; exact h y (List.mem_cons_self ..)
  | y :: z :: r, h => by
    rw [join_cons]
    have ih := join_no hs (ys := z :: r) fun x m => h x (List.mem_cons_of_mem _ m)
    have h1 := h y (List.mem_cons_self ..)
    intro m
    rcases List.mem_append.mp m with m | m
    · exact h1 m
    · rcases List.mem_append.mp m with m | m
      · exact hs (List.mem_singleton.mp m)
      · exact ih m
theorem partsT_no {c : Nat} {ps : List (List Nat)} (h : ps.all okPart = true) (h1 : isPl c = false) (h2 : c ≠ 126) (h3 : c ≠ 47) : c ∉ partsT ps := by
  unfold partsT
  intro m
  rcases List.mem_append.mp m with m | m
  · exact h3 (List.mem_singleton.mp m)
  · refine join_no h3 (ys := ps.map quoteL) ?_ m
    intro y hy
    obtain ⟨s, hs, rfl⟩ := List.mem_map.mp hy
    exact quote_no (okPart_len (List.all_eq_true.mp h s hs)).2.1 h1 h2
theorem askT_no {c : Nat} {x : Hd} (h : okAsk x = true) (h1 : isPl c = false) (h2 : c ≠ 126) (h3 : c ≠ 61) : c ∉ askT x := by
  have h4 := okAsk_len h
  unfold askT
  intro m
  rcases List.mem_append.mp m with m | m
  · rcases List.mem_append.mp m with m | m
    · exact quote_no h4.2.1 h1 h2 m
    · exact h3 (List.mem_singleton.mp m)
  · exact quote_no h4.2.2.2 h1 h2 m
theorem ask_cut {x : Hd} (h : okAsk x = true) : partL [61] (askT x) = (quoteL x.1, [61], quoteL x.2) := by
  unfold askT
  rw [List.append_assoc]
  exact partL_hit _ (quote_no (okAsk_len h).2.1 (by decide) (by decide))
theorem ask_cnt {x : Hd} (h : okAsk x = true) : (askT x).count 61 = 1 := by
  have h4 := okAsk_len h
  unfold askT
  rw [List.count_append, List.count_append, List.count_eq_zero_of_not_mem (quote_no h4.2.1 (by decide) (by decide)), List.count_eq_zero_of_not_mem (quote_no h4.2.2.2 (by decide) (by decide))]
  rfl
theorem asks_spl {as : List Hd} (hn : as ≠ []) (h : as.all okAsk = true) : splL [38] (asksJ as) = as.map askT := by
  refine spl_join (by simpa using hn) fun y hy => ?_
  obtain ⟨x, hx, rfl⟩ := List.mem_map.mp hy
  exact askT_no (List.all_eq_true.mp h x hx) (by decide) (by decide) (by decide)
theorem parts_spl {ps : List (List Nat)} (hn : ps ≠ []) (h : ps.all okPart = true) : splL [47] (joinL [47] (ps.map quoteL)) = ps.map quoteL := by
  refine spl_join (by simpa using hn) fun y hy => ?_
  obtain ⟨s, hs, rfl⟩ := List.mem_map.mp hy
  exact quote_no (okPart_len (List.all_eq_true.mp h s hs)).2.1 (by decide) (by decide)
theorem asksJ_no {c : Nat} {as : List Hd} (h : as.all okAsk = true) (h1 : isPl c = false) (h2 : c ≠ 126) (h3 : c ≠ 61) (h4 : c ≠ 38) : c ∉ asksJ as :=
  join_no h4 fun y hy => by
    obtain ⟨x, hx, rfl⟩ := List.mem_map.mp hy
    exact askT_no (List.all_eq_true.mp h x hx) h1 h2 h3
theorem text_cut {ps : List (List Nat)} {as : List Hd} (h1 : ps.all okPart = true) : partL [63] (textP ps as) = if as = [] then (partsT ps, [], []) else (partsT ps, [63], asksJ as) := by
  have hno := partsT_no (c := 63) h1 (by decide) (by decide) (by decide)
  unfold textP asksT
  split
  · rw [List.append_nil]; exact partL_no hno
  · exact partL_hit _ hno
theorem text_cnt {ps : List (List Nat)} {as : List Hd} (h1 : ps.all okPart = true) (h2 : as.all okAsk = true) : (textP ps as).count 63 ≤ 1 := by
  have hno := partsT_no (c := 63) h1 (by decide) (by decide) (by decide)
  have hno2 := asksJ_no (c := 63) h2 (by decide) (by decide) (by decide) (by decide)
  unfold textP asksT
  rw [List.count_append, List.count_eq_zero_of_not_mem hno]
  split
  · exact Nat.zero_le _
  · rw [List.count_append, List.count_eq_zero_of_not_mem hno2]
    decide
theorem text_len {ps : List (List Nat)} {as : List Hd} (h1 : ps.all okPart = true) (h2 : as.all okAsk = true) (h3 : ps.length ≤ 5) (h4 : as.length ≤ 4) : (textP ps as).length ≤ 501 := by
  have := partsT_len h1 h3
  have := asksT_len h2 h4
  unfold textP
  rw [List.length_append]
  omega
theorem parts_ne {ps : List (List Nat)} (h : ps.all okPart = true) : joinL [47] (ps.map quoteL) = [] ↔ ps = [] := by
  constructor
  · intro e
    cases ps with
    | nil => rfl
    | cons s r =>
      have hs := (okPart_len (List.all_eq_true.mp h s (List.mem_cons_self ..))).2.2
      cases r with
      | nil => exact absurd e (quote_ne hs)
      | cons z r =>
        have e : quoteL s ++ ([47] ++ joinL [47] (quoteL z :: r.map quoteL)) = [] := e
        exact absurd (List.append_eq_nil_iff.mp e).1 (quote_ne hs)
  · rintro rfl; rfl
theorem asks_step {as : List Hd} {i : Nat} {x : Hd} (h : as[i]? = some x) : asksT (as.take (i + 1)) = asksT (as.take i) ++ ((if i = 0 then [63] else [38]) ++ askT x) := by
  have hi : i < as.length := by
    rcases Nat.lt_or_ge i as.length with g | g
    · exact g
    · rw [List.getElem?_eq_none g] at h; cases h
  rw [List.take_succ, h]
  show asksT (as.take i ++ [x]) = _
  cases i with
  | zero =>
    rw [List.take_zero]
    rfl
  | succ n =>
    have hne : as.take (n + 1) ≠ [] := by
      intro e
      have := congrArg List.length e
      rw [List.length_take, List.length_nil] at this
      omega
    have hne2 : as.take (n + 1) ++ [x] ≠ [] := by simp
    unfold asksT asksJ
    rw [if_neg hne, if_neg hne2, if_neg (Nat.succ_ne_zero n), List.map_append, List.map_singleton, join_snoc _ _ _ (by simpa using hne), List.append_assoc]
def strOf (d : D) : List Nat := match d with
  | .str s => s
  | _ => []
def hdOf (d : D) : Hd := match d with
  | .tup [.str a, .str b] => (a, b)
  | _ => ([], [])
theorem parts_eq (ps : List (List Nat)) : (((ps.map D.str).filter fun _ => true).map fun d => D.str (quoteL (strOf d))) = (ps.map quoteL).map D.str := by
  rw [filter_true, List.map_map, List.map_map]
  rfl
theorem asks_eq (as : List Hd) : (((as.map hdD).filter fun _ => true).map fun d => D.str (askT (hdOf d))) = (as.map askT).map D.str := by
  rw [filter_true, List.map_map, List.map_map]
  rfl
theorem ask_no {d : D} (h : len2D d = false) : isAskD d = false := by
  unfold isAskD
  split
  · cases h
  · rfl
theorem part_all (ds : List D) : (((ds.filter fun d => !isPartD d).map fun d => d).isEmpty) = ds.all isPartD := by
  rw [List.map_id', Bool.eq_iff_iff, List.isEmpty_iff, List.filter_eq_nil_iff, List.all_eq_true]
  simp
end Aw
namespace Aw
open PySem PySem.Spec L2 Q2 SX
def lawParts (sd : Int) (n : Nat) : List (List Nat) := (List.range n).map fun k => textF (seedF sd (k : Nat)) 8 true
theorem lawParts_eq (sd : Int) (n : Nat) : ((((rngD 0 n).filter fun _ => true).map fun d => D.str (textF (seedF sd (intOf d)) 8 true))) = (lawParts sd n).map D.str := by
  rw [filter_true]
  unfold rngD lawParts
  rw [List.map_map, List.map_map]
  refine List.map_congr_left fun k _ => ?_
  simp [intOf]
theorem lawParts_f (sd : Int) (n : Nat) : (((((lawParts sd n).map D.str).filter fun d => !isEmS d).map fun d => d)) = ((lawParts sd n).filter fun s => !decide (s = [])).map D.str := by
  rw [List.map_id', List.filter_map]
  congr 1
  refine List.filter_congr fun s _ => ?_
  cases s <;> rfl
theorem lawParts_len (sd : Int) (n : Nat) : (lawParts sd n).length = n := by
  unfold lawParts
  rw [List.length_map, List.length_range]
theorem lawParts_ok (sd : Int) (n : Nat) : (((lawParts sd n).filter fun s => !decide (s = [])).all okPart) = true := by
  refine List.all_eq_true.mpr fun s m => ?_
  obtain ⟨m1, m2⟩ := List.mem_filter.mp m
  unfold lawParts at m1
  obtain ⟨k, _, rfl⟩ := List.mem_map.mp m1
  have h1 := textF_len (seedF sd (k : Nat)) 8 true
  unfold okPart
  rw [textF_ok, decide_eq_true (show (textF (seedF sd (k : Nat)) 8 true).length ≤ 8 by omega), m2]
  rfl
theorem okAsk_of {a b : List Nat} (h1 : a.length ≤ 8) (h2 : okT a = true) (h3 : b.length ≤ 8) (h4 : okT b = true) : okAsk (a, b) = true := by
  unfold okAsk
  rw [decide_eq_true h1, decide_eq_true h3, h2, h4]
  rfl
theorem pathD_inj {ps qs : List (List Nat)} {as bs : List Hd} (h : pathD ps as = pathD qs bs) : ps = qs ∧ as = bs := by
  have h := D.tup.inj h
  rw [List.cons.injEq, List.cons.injEq] at h
  have h1 := D.tup.inj h.1
  have h2 := D.tup.inj h.2.1
  exact ⟨(List.map_inj_right fun _ _ e => D.str.inj e).mp h1, (List.map_inj_right fun a b e => by
    cases a; cases b
    have e := D.tup.inj e
    rw [List.cons.injEq, List.cons.injEq] at e
    have e1 := D.str.inj e.1
    have e2 := D.str.inj e.2.1
    simp only at e1 e2
    rw [e1, e2]).mp h2⟩
theorem parts_back {ps : List (List Nat)} (h : ps.all okPart = true) : ((((ps.map quoteL).map D.str).filter fun _ => true).map fun d => D.str ((unq (strOf d)).getD [])) = ps.map D.str := by
  rw [filter_true, List.map_map, List.map_map]
  refine List.map_congr_left fun s m => ?_
  have ho := (okPart_len (List.all_eq_true.mp h s m)).2.1
  show D.str ((unq (quoteL s)).getD []) = D.str s
  rw [unq_quote _ ho]
  rfl
theorem text_cut2 {ps : List (List Nat)} (as : List Hd) (h1 : ps.all okPart = true) : ∃ sg bh, partL [63] (textP ps as) = (partsT ps, sg, bh) ∧ ((as = [] ∧ sg = []) ∨ (as ≠ [] ∧ sg = [63] ∧ bh = asksJ as)) := by
  have := text_cut (as := as) h1
  by_cases e : as = []
  · rw [if_pos e] at this
    exact ⟨_, _, this, .inl ⟨e, rfl⟩⟩
  · rw [if_neg e] at this
    exact ⟨_, _, this, .inr ⟨e, rfl, rfl⟩⟩
theorem text_head (ps : List (List Nat)) (as : List Hd) : ((textP ps as).take [47].length == [47]) = true := by
  unfold textP partsT
  rfl
theorem partsT_one {ps : List (List Nat)} (h : ps.all okPart = true) : partsT ps = [47] ↔ ps = [] := by
  unfold partsT
  rw [← parts_ne h]
  constructor
  · intro e
    exact (List.cons.inj e).2
  · intro e
    rw [e]
    rfl
theorem isPath_ok {ps : List (List Nat)} {as : List Hd} (hl1 : ps.length ≤ 5) (hl2 : as.length ≤ 4) (h1 : ps.all okPart = true) (h2 : as.all okAsk = true) : isPathD (pathD ps as) = true := by
  rw [isPath_pd, h1, h2, decide_eq_true hl1, decide_eq_true hl2]
  rfl
theorem kns_hds {ω : Om} (hs : List Hd) : kns ω (hs.map hdD) = true := hs_kn ω hs
def NoP (ω : Om) (d : D) : Prop := kn ω d = true ∧ isPathD d = false
theorem noPath_part {ps as : List D} {d : D} (m : d ∈ ps) (h : isPartD d = false) : isPathD (.tup [.tup ps, .tup as]) = false := by
  show (decide (ps.length ≤ 5) && decide (as.length ≤ 4) && ps.all isPartD && as.all isAskD) = false
  have : ps.all isPartD = false := by
    rw [List.all_eq_false]
    exact ⟨d, m, by rw [h]; exact Bool.false_ne_true⟩
  rw [this, Bool.and_false, Bool.false_and]
theorem noPath_ask {ps as : List D} {d : D} (m : d ∈ as) (h : isAskD d = false) : isPathD (.tup [.tup ps, .tup as]) = false := by
  show (decide (ps.length ≤ 5) && decide (as.length ≤ 4) && ps.all isPartD && as.all isAskD) = false
  have : as.all isAskD = false := by
    rw [List.all_eq_false]
    exact ⟨d, m, by rw [h]; exact Bool.false_ne_true⟩
  rw [this, Bool.and_false]
theorem noPath_len1 {ps as : List D} (h : 5 < ps.length) : isPathD (.tup [.tup ps, .tup as]) = false := by
  show (decide (ps.length ≤ 5) && decide (as.length ≤ 4) && ps.all isPartD && as.all isAskD) = false
  rw [decide_eq_false (by omega)]
  rfl
theorem noPath_len2 {ps as : List D} (h : 4 < as.length) : isPathD (.tup [.tup ps, .tup as]) = false := by
  show (decide (ps.length ≤ 5) && decide (as.length ≤ 4) && ps.all isPartD && as.all isAskD) = false
  rw [decide_eq_false (show ¬ as.length ≤ 4 by omega), Bool.and_false]
  rfl
theorem mem_end {α : Type} {l : List α} {a : α} : a ∈ l ++ [a] := List.mem_append_right _ (List.mem_cons_self ..)
end Aw
namespace Aw
open PySem PySem.Spec L2 Q2 SX
theorem dw_idem {p : Nat → Bool} : ∀ l : List Nat, (l.dropWhile p).dropWhile p = l.dropWhile p
  | [] => rfl
  | a :: r => by
    by_cases h : p a = true
    · rw [List.dropWhile_cons_of_pos h, dw_idem r]
    · rw [List.dropWhile_cons_of_neg h, List.dropWhile_cons_of_neg h]
theorem dw_mem {p : Nat → Bool} : ∀ {l : List Nat} {c : Nat}, c ∈ l.dropWhile p → c ∈ l
  | a :: r, c, h => by
    by_cases e : p a = true
    · rw [List.dropWhile_cons_of_pos e] at h
      exact List.mem_cons_of_mem _ (dw_mem h)
    · rw [List.dropWhile_cons_of_neg e] at h
      exact h
theorem dw_len {p : Nat → Bool} : ∀ l : List Nat, (l.dropWhile p).length ≤ l.length
  | [] => Nat.le_refl _
  | a :: r => by
    by_cases e : p a = true
    · rw [List.dropWhile_cons_of_pos e, List.length_cons]
      have := dw_len (p := p) r
      omega
    · rw [List.dropWhile_cons_of_neg e]
      exact Nat.le_refl _
theorem strip_mem {y l : List Nat} {c : Nat} (h : c ∈ stripL y l) : c ∈ l := by
  unfold stripL at h
  rw [List.mem_reverse] at h
  have h := dw_mem h
  rw [List.mem_reverse] at h
  exact dw_mem h
theorem strip_len (y l : List Nat) : (stripL y l).length ≤ l.length := by
  unfold stripL
  rw [List.length_reverse]
  have h1 := dw_len (p := y.contains) (l.dropWhile y.contains).reverse
  have h2 := dw_len (p := y.contains) l
  rw [List.length_reverse] at h1
  omega
theorem dw_tw {p : Nat → Bool} (l : List Nat) : ∃ t, l = t ++ l.dropWhile p := ⟨l.takeWhile p, List.takeWhile_append_dropWhile.symm⟩
theorem strip_idem (y l : List Nat) : stripL y (stripL y l) = stripL y l := by
  have e1 : (stripL y l).dropWhile y.contains = stripL y l := by
    unfold stripL
    generalize hm : l.dropWhile y.contains = m
    obtain ⟨t, ht⟩ := dw_tw (p := y.contains) m.reverse
    generalize hr : (m.reverse.dropWhile y.contains) = r at ht ⊢
    have e : m = r.reverse ++ t.reverse := by
      have := congrArg List.reverse ht
      rw [List.reverse_reverse, List.reverse_append] at this
      exact this
    cases hq : r.reverse with
    | nil => rfl
    | cons a z =>
      rw [hq] at e
      have hd : m.dropWhile y.contains = m := by rw [← hm, dw_idem]
      rw [e, List.cons_append] at hd
      by_cases ha : y.contains a = true
      · rw [List.dropWhile_cons_of_pos ha] at hd
        have h1 := dw_len (p := y.contains) (z ++ t.reverse)
        rw [hd, List.length_cons] at h1
        omega
      · rw [List.dropWhile_cons_of_neg ha]
  have e2 : (stripL y l).reverse.dropWhile y.contains = (stripL y l).reverse := by
    unfold stripL
    rw [List.reverse_reverse, dw_idem]
  show (((stripL y l).dropWhile y.contains).reverse.dropWhile y.contains).reverse = _
  rw [e1, e2, List.reverse_reverse]
theorem hv_strip {n s : List Nat} (hl : s.length ≤ 30) (ho : okT s = true) (h10 : 10 ∉ s) : hvL n (stripL [32] s) = true := by
  unfold hvL rowL
  have h1 := strip_len [32] s
  have h2 : okT (stripL [32] s) = true := List.all_eq_true.mpr fun c m => List.all_eq_true.mp ho c (strip_mem m)
  have h3 : ¬ 10 ∈ stripL [32] s := fun m => h10 (strip_mem m)
  have h4 : ((stripL [32] s).length : Int) ≤ hvM n := by unfold hvM; split <;> omega
  rw [h2, strip_idem, decide_eq_true h4, decide_eq_false h3]
  simp
theorem textF_no10 (s m : Int) : 10 ∉ textF s m false := by
  intro h
  unfold textF at h
  obtain ⟨k, _, e⟩ := List.mem_map.mp h
  have h1 := lawSigns_len s false
  have h2 : ∀ c ∈ lawSigns s false, c ≠ 10 := by
    have e2 : lawSigns s false = if s / 5 % 3 = 0 then lPLAIN else lSIGNS := by simp [lawSigns]
    rw [e2]
    split
    · decide
    · decide
  refine h2 _ (getD_mem (l := lawSigns s false) (k := (pickF (seedF s (k : Nat)) ((lawSigns s false).length : Nat)).toNat) ?_) e
  have h3 := pickF_lo (s := seedF s (k : Nat)) (m := ((lawSigns s false).length : Nat)) (by omega)
  have h4 := pickF_hi (s := seedF s (k : Nat)) (m := ((lawSigns s false).length : Nat)) (by omega)
  omega
def fixN (f : List Nat) : List Nat := if f ∈ ownL then f ++ [120] else f
theorem hn_fix {f : List Nat} (h1 : 1 ≤ f.length) (h2 : f.length ≤ 10) (h3 : f.all hnC = true) : hnL (fixN f) = true := by
  unfold fixN
  by_cases h : f ∈ ownL
  · rw [if_pos h]
    have : ∀ g ∈ ownL, hnL (g ++ [120]) = true := by decide
    exact this f h
  · rw [if_neg h]
    unfold hnL hnA
    rw [h3, decide_eq_true h1, decide_eq_true h2, decide_eq_false h]
    rfl
def letF (s : Int) : List Nat := (List.range (1 + s / 7 % 10).toNat).map fun k => (atI lLET (pickF (seedF s (k : Nat)) 27)).getD 0
theorem let_at (s : Int) : ∃ c, atI lLET (pickF s 27) = some c ∧ hnC c = true := by
  obtain ⟨c, h, m⟩ := atI_in (l := lLET) (k := pickF s 27) (pickF_lo (by decide)) (pickF_hi (s := s) (m := 27) (by decide))
  have : ∀ c ∈ lLET, hnC c = true := by decide
  exact ⟨c, h, this c m⟩
theorem letF_ok (s : Int) : 1 ≤ (letF s).length ∧ (letF s).length ≤ 10 ∧ (letF s).all hnC = true := by
  unfold letF
  rw [List.length_map, List.length_range]
  refine ⟨by omega, by omega, ?_⟩
  rw [List.all_map]
  refine List.all_eq_true.mpr fun k m => ?_
  obtain ⟨c, h, hc⟩ := let_at (seedF s (k : Nat))
  show hnC ((atI lLET (pickF (seedF s (k : Nat)) 27)).getD 0) = true
  rw [h]
  exact hc
def HnS (d : D) : Prop := ∃ s, d = .str s ∧ hnL s = true
def abF (k : Nat) : List Nat := 47 :: (List.replicate k [97, 98]).flatten
theorem ab_ok : ∀ k, k < 165 → okH (toS, abF k) = true := by decide +kernel
theorem hdD_inj {a b : Hd} (h : hdD a = hdD b) : a = b := by
  cases a; cases b
  simp [hdD] at h
  rw [h.1, h.2]
theorem hs_inj : ∀ {a b : List Hd}, a.map hdD = b.map hdD → a = b
  | [], [], _ => rfl
  | [], _ :: _, h => by cases h
  | _ :: _, [], h => by cases h
  | x :: a, y :: b, h => by
    rw [List.map_cons, List.map_cons, List.cons.injEq] at h
    rw [hdD_inj h.1, hs_inj h.2]
theorem hsD_inj {a b : List Hd} (h : hsD a = hsD b) : a = b := hs_inj (D.tup.inj h)
theorem vals_nil {hs : List Hd} {n : List Nat} (h : valsOf hs n = []) : valOf hs n = .non := by
  unfold valsOf at h
  rw [List.map_eq_nil_iff, List.filter_eq_nil_iff] at h
  have : hs.find? (fun h => decide (h.1 = n)) = none := List.find?_eq_none.mpr h
  unfold valOf
  rw [this]
theorem vals_cons {hs : List Hd} {n v : List Nat} {r : List (List Nat)} (h : valsOf hs n = v :: r) : valOf hs n = .str v := by
  unfold valsOf at h
  have h1 : (hs.filter fun h => decide (h.1 = n)).head? = hs.find? fun h => decide (h.1 = n) := List.head?_filter
  cases e : hs.filter fun h => decide (h.1 = n) with
  | nil => rw [e] at h; cases h
  | cons x z =>
    rw [e] at h h1
    unfold valOf
    rw [← h1]
    have : x.2 = v := (List.cons.inj h).1
    show D.str x.2 = _
    rw [this]
theorem vals_pl {hs : List Hd} (n : List Nat) (h : hs.all okH = true) : ((valsOf hs n).map D.str).all (pl 12) = true := by
  rw [List.all_map]
  refine List.all_eq_true.mpr fun v m => ?_
  obtain ⟨x, hx, rfl⟩ := List.mem_map.mp m
  have := List.all_eq_true.mp h x (List.mem_filter.mp hx).1
  rw [show okH x = (hnL x.1 && hvL x.1 x.2) from rfl, Bool.and_eq_true] at this
  exact pl_okS 12 (hv_ok this.2)
theorem val_pl {hs : List Hd} (n : List Nat) (h : hs.all okH = true) : pl 12 (valOf hs n) = true := by
  cases e : valsOf hs n with
  | nil => rw [vals_nil e]; rfl
  | cons v r =>
    rw [vals_cons e]
    have := vals_pl n h
    rw [e, List.map_cons, List.all_cons, Bool.and_eq_true] at this
    exact this.1
theorem without_ok {hs : List Hd} (n : List Nat) (h : hs.all okH = true) : (withoutH hs n).all okH = true :=
  List.all_eq_true.mpr fun x m => List.all_eq_true.mp h x (List.mem_filter.mp m).1
theorem putF_true (n t : List Nat) : ∀ hs : List Hd, putF n t hs true = withoutH hs n
  | [] => rfl
  | x :: r => by
    by_cases e : x.1 = n
    · rw [putF_old e, putF_true n t r]
      unfold withoutH
      rw [List.filter_cons_of_neg (by simp [e])]
    · rw [putF_skip e, putF_true n t r]
      unfold withoutH
      rw [List.filter_cons_of_pos (by simp [e])]
theorem without_none {n : List Nat} : ∀ {hs : List Hd}, (∀ y ∈ hs, y.1 ≠ n) → withoutH hs n = hs
  | [], _ => rfl
  | x :: r, h => by
    unfold withoutH
    rw [List.filter_cons_of_pos (by simp [h x (List.mem_cons_self ..)])]
    have := without_none (hs := r) fun y m => h y (List.mem_cons_of_mem _ m)
    unfold withoutH at this
    rw [this]
theorem putF_app {n t : List Nat} {d : Bool} : ∀ {a b : List Hd}, (∀ y ∈ a, y.1 ≠ n) → putF n t (a ++ b) d = a ++ putF n t b d
  | [], _, _ => rfl
  | x :: r, b, h => by
    rw [List.cons_append, putF_skip (h x (List.mem_cons_self ..)), putF_app fun y m => h y (List.mem_cons_of_mem _ m)]
    rfl
theorem put_at {hs : List Hd} {n t : List Nat} {k : Nat} (hk : k ≤ hs.length) (ha : ∀ y ∈ hs.take k, y.1 ≠ n) (hz : k = hs.length ∨ ∃ x, hs[k]? = some x ∧ x.1 = n) :
    putH hs n t = (withoutH hs n).take k ++ [(n, t)] ++ (withoutH hs n).drop k := by
  have e : hs = hs.take k ++ hs.drop k := (List.take_append_drop k hs).symm
  have hw : withoutH hs n = hs.take k ++ withoutH (hs.drop k) n := by
    conv => lhs; rw [e]
    unfold withoutH
    rw [List.filter_append]
    have := without_none ha
    unfold withoutH at this
    rw [this]
  have hl : (hs.take k).length = k := by rw [List.length_take]; omega
  rw [hw, List.take_left' hl, List.drop_left' hl]
  have hp : putH hs n t = hs.take k ++ putF n t (hs.drop k) false := by
    unfold putH
    conv => lhs; rw [e]
    exact putF_app ha
  rw [hp, List.append_assoc]
  congr 1
  rcases hz with rfl | ⟨x, hx, hn⟩
  · rw [List.drop_length]
    rfl
  · rw [drop_at hx, putF_new hn, putF_true]
    unfold withoutH
    rw [List.filter_cons_of_neg (by simp [hn])]
    rfl
theorem rep2_len {a b : Nat} (k : Nat) : (List.replicate k [a, b]).flatten.length = 2 * k := by
  induction k with
  | zero => rfl
  | succ n ih => rw [List.replicate_succ, List.flatten_cons, List.length_append, ih, List.length_cons, List.length_cons, List.length_nil]; omega
end Aw
namespace Aw
open PySem PySem.Spec L2 Q2 SX
def wordsL : List (List Nat) := [[103, 101, 116], [112, 117, 116], [97, 100, 100], [100, 114, 111, 112]]
def dWORDS : D := .tup (wordsL.map D.str)
def sidesL : List (List Nat) := [[97, 115, 107, 105, 110, 103], [97, 110, 115, 119, 101, 114]]
def dSIDES : D := .tup (sidesL.map D.str)
def withinD (d : D) (lo hi : Int) : Bool := match d with
  | .int i => decide (lo ≤ i) && decide (i ≤ hi)
  | _ => false
def ask1D (d : D) : Bool := match d with
  | .tup [.str w, _, _, _] => decide (w ∈ wordsL)
  | _ => false
def isAskingD (d : D) : Bool := match d with
  | .tup [.str w, p, h, b] => decide (w ∈ wordsL) && (isPathD p && (isHeadsD h && isTextD b 120))
  | _ => false
def ans1D (d : D) : Bool := match d with
  | .tup [c, _, _] => withinD c 100 599
  | _ => false
def isAnswerD (d : D) : Bool := match d with
  | .tup [c, h, b] => withinD c 100 599 && (isHeadsD h && isTextD b 120)
  | _ => false
theorem ask1_of {d : D} (h : ask1D d = true) : ∃ w p hh b, d = .tup [.str w, p, hh, b] ∧ decide (w ∈ wordsL) = true := by
  unfold ask1D at h
  split at h
  · exact ⟨_, _, _, _, rfl, h⟩
  · cases h
theorem ask1_no {d : D} (h : ask1D d = false) : isAskingD d = false := by
  unfold isAskingD
  split
  · rename_i w p hh b
    have h : decide (w ∈ wordsL) = false := h
    rw [h]; rfl
  · rfl
theorem ask1_tup {d : D} (h : tupB d = false) : ask1D d = false := by
  cases d with
  | tup _ => cases h
  | _ => rfl
theorem ask1_len {ds : List D} (h : ds.length ≠ 4) : ask1D (.tup ds) = false := by
  unfold ask1D
  split
  · rename_i e
    cases e
    simp at h
  · rfl
theorem four_of {ds : List D} (h : ds.length = 4) : ∃ a b c d, ds = [a, b, c, d] := by
  match ds, h with
  | [a, b, c, d], _ => exact ⟨a, b, c, d, rfl⟩
theorem three_of {ds : List D} (h : ds.length = 3) : ∃ a b c, ds = [a, b, c] := by
  match ds, h with
  | [a, b, c], _ => exact ⟨a, b, c, rfl⟩
theorem ans1_tup {d : D} (h : tupB d = false) : ans1D d = false := by
  cases d with
  | tup _ => cases h
  | _ => rfl
theorem ans1_len {ds : List D} (h : ds.length ≠ 3) : ans1D (.tup ds) = false := by
  unfold ans1D
  split
  · rename_i e
    cases e
    simp at h
  · rfl
theorem ans1_of {d : D} (h : ans1D d = true) : ∃ c hh b, d = .tup [c, hh, b] ∧ withinD c 100 599 = true := by
  unfold ans1D at h
  split at h
  · exact ⟨_, _, _, rfl, h⟩
  · cases h
theorem ans1_no {d : D} (h : ans1D d = false) : isAnswerD d = false := by
  unfold isAnswerD
  split
  · rename_i c hh b
    have h : withinD c 100 599 = false := h
    rw [h]; rfl
  · rfl
abbrev msgD (w : List Nat) (ps : List (List Nat)) (as : List Hd) (hs : List Hd) (b : List Nat) : D := .tup [.str w, pathD ps as, hsD hs, .str b]
abbrev ansD (c : Int) (hs : List Hd) (b : List Nat) : D := .tup [.int c, hsD hs, .str b]
def okMsg (w : List Nat) (ps : List (List Nat)) (as : List Hd) (hs : List Hd) (b : List Nat) : Prop := w ∈ wordsL ∧ ps.length ≤ 5 ∧ as.length ≤ 4 ∧ ps.all okPart = true ∧ as.all okAsk = true ∧ hs.length ≤ 8 ∧ hs.all okH = true ∧ b.length ≤ 120 ∧ okT b = true
def okAns (c : Int) (hs : List Hd) (b : List Nat) : Prop := 100 ≤ c ∧ c ≤ 599 ∧ hs.length ≤ 8 ∧ hs.all okH = true ∧ b.length ≤ 120 ∧ okT b = true
theorem isT120 {b : List Nat} (h : b.length ≤ 120) (ho : okT b = true) : isTextD (.str b) 120 = true := by
  show (decide ((b.length : Int) ≤ 120) && okT b) = true
  rw [ho, decide_eq_true (by omega)]
  rfl
theorem msg_ok {w : List Nat} {ps : List (List Nat)} {as hs : List Hd} {b : List Nat} (h : okMsg w ps as hs b) : isAskingD (msgD w ps as hs b) = true := by
  obtain ⟨h1, h2, h3, h4, h5, h6, h7, h8, h9⟩ := h
  show (decide (w ∈ wordsL) && (isPathD (pathD ps as) && (isHeadsD (hsD hs) && isTextD (.str b) 120))) = true
  rw [decide_eq_true h1, isPath_ok h2 h3 h4 h5, isHeads_hs, h7, decide_eq_true h6, isT120 h8 h9]
  rfl
theorem ans_ok {c : Int} {hs : List Hd} {b : List Nat} (h : okAns c hs b) : isAnswerD (ansD c hs b) = true := by
  obtain ⟨h1, h2, h6, h7, h8, h9⟩ := h
  show (withinD (.int c) 100 599 && (isHeadsD (hsD hs) && isTextD (.str b) 120)) = true
  have : withinD (.int c) 100 599 = true := by
    show (decide (100 ≤ c) && decide (c ≤ 599)) = true
    rw [decide_eq_true h1, decide_eq_true h2]
    rfl
  rw [this, isHeads_hs, h7, decide_eq_true h6, isT120 h8 h9]
  rfl
theorem words_ok : ∀ w ∈ wordsL, okT w = true ∧ w.length ≤ 4 := by decide
theorem msg_pl {w : List Nat} {ps : List (List Nat)} {as hs : List Hd} {b : List Nat} (h : okMsg w ps as hs b) : pl 12 (msgD w ps as hs b) = true := by
  obtain ⟨h1, h2, h3, h4, h5, h6, h7, h8, h9⟩ := h
  show (pl 11 (.str w) && (pl 11 (pathD ps as) && (pl 11 (hsD hs) && (pl 11 (.str b) && true)))) = true
  rw [pl_okS 11 (words_ok w h1).1, path_pl 8 h4 h5, pl_hs 9 h7, pl_okS 11 h9]
  rfl
theorem ans_pl {c : Int} {hs : List Hd} {b : List Nat} (h : okAns c hs b) : pl 12 (ansD c hs b) = true := by
  obtain ⟨h1, h2, h6, h7, h8, h9⟩ := h
  show (pl 11 (.int c) && (pl 11 (hsD hs) && (pl 11 (.str b) && true))) = true
  rw [pl_hs 9 h7, pl_okS 11 h9]
  rfl
theorem msg_kn (ω : Om) (w : List Nat) (ps : List (List Nat)) (as hs : List Hd) (b : List Nat) : kn ω (msgD w ps as hs b) = true := by
  show (true && (kn ω (pathD ps as) && (kn ω (hsD hs) && (true && true)))) = true
  rw [path_kn, hs_kn]
  rfl
theorem ans_kn (ω : Om) (c : Int) (hs : List Hd) (b : List Nat) : kn ω (ansD c hs b) = true := by
  show (true && (kn ω (hsD hs) && (true && true))) = true
  rw [hs_kn]
  rfl
def NoM (ω : Om) (d : D) : Prop := kn ω d = true ∧ isAskingD d = false
def NoA (ω : Om) (d : D) : Prop := kn ω d = true ∧ isAnswerD d = false
theorem noM_path {w : List Nat} {p h b : D} (e : isPathD p = false) : isAskingD (.tup [.str w, p, h, b]) = false := by
  show (decide (w ∈ wordsL) && (isPathD p && (isHeadsD h && isTextD b 120))) = false
  rw [e, Bool.false_and, Bool.and_false]
theorem noM_heads {w : List Nat} {p h b : D} (e : isHeadsD h = false) : isAskingD (.tup [.str w, p, h, b]) = false := by
  show (decide (w ∈ wordsL) && (isPathD p && (isHeadsD h && isTextD b 120))) = false
  rw [e, Bool.false_and, Bool.and_false, Bool.and_false]
theorem noM_body {w : List Nat} {p h b : D} (e : isTextD b 120 = false) : isAskingD (.tup [.str w, p, h, b]) = false := by
  show (decide (w ∈ wordsL) && (isPathD p && (isHeadsD h && isTextD b 120))) = false
  rw [e, Bool.and_false, Bool.and_false, Bool.and_false]
theorem noA_heads {c h b : D} (e : isHeadsD h = false) : isAnswerD (.tup [c, h, b]) = false := by
  show (withinD c 100 599 && (isHeadsD h && isTextD b 120)) = false
  rw [e, Bool.false_and, Bool.and_false]
theorem noA_body {c h b : D} (e : isTextD b 120 = false) : isAnswerD (.tup [c, h, b]) = false := by
  show (withinD c 100 599 && (isHeadsD h && isTextD b 120)) = false
  rw [e, Bool.and_false, Bool.and_false]
theorem isT120_tab (b : List Nat) : isTextD (.str (b ++ [9])) 120 = false := by
  refine isTextD_bad ?_
  rw [okT_app]
  have : okT [9] = false := by decide
  rw [this, Bool.and_false]
def caughtL (k : Nat) : List D := (List.range k).map fun i => if i < 4 then D.str [97, 115, 107, 105, 110, 103] else D.str [97, 110, 115, 119, 101, 114]
theorem caught_succ (k : Nat) : caughtL (k + 1) = caughtL k ++ [if k < 4 then D.str [97, 115, 107, 105, 110, 103] else D.str [97, 110, 115, 119, 101, 114]] := by
  unfold caughtL
  rw [List.range_succ, List.map_append]
  rfl
end Aw
namespace Aw
open PySem PySem.Spec L2 Q2 SX
theorem pre_hit (b r : List Nat) : TL.pre b (b ++ r) = true := by
  show ((b ++ r).take b.length == b) = true
  rw [List.take_left']
  · simp
  · rfl
theorem parB {c : Nat} {b' : List Nat} : ∀ {a : List Nat} (acc r : List Nat), c ∉ a → TL.par (c :: b') acc (a ++ ((c :: b') ++ r)) = some (acc ++ a, r)
  | [], acc, r, _ => by
    rw [List.nil_append, List.cons_append, TL.par_hit (by rw [← List.cons_append]; exact pre_hit _ _), List.append_nil, ← List.cons_append, List.drop_left' rfl]
  | x :: a, acc, r, h => by
    have hx : x ≠ c := fun e => h (by rw [e]; exact List.mem_cons_self ..)
    have hp : TL.pre (c :: b') (x :: (a ++ ((c :: b') ++ r))) = false := by
      show ((x :: (a ++ ((c :: b') ++ r))).take (b'.length + 1) == c :: b') = false
      rw [List.take_succ_cons]
      simp [hx]
    rw [List.cons_append, TL.par_miss hp, parB _ _ fun m => h (List.mem_cons_of_mem _ m), List.append_assoc]
    rfl
theorem partB {c : Nat} {b' a : List Nat} (r : List Nat) (h : c ∉ a) : partL (c :: b') (a ++ ((c :: b') ++ r)) = (a, c :: b', r) := by
  unfold partL
  rw [parB [] r h]
  rfl
theorem drop_step {T F R : List Nat} {n : Nat} (h : T.drop n = F ++ R) : T.drop (n + F.length) = R := by
  rw [← List.drop_drop, h, List.drop_left' rfl]
theorem drop_row {T r R : List Nat} {n c : Nat} (h : T.drop n = r ++ c :: R) : T.drop (n + r.length + 1) = R := by
  have := drop_step (F := r ++ [c]) (T := T) (n := n) (R := R) (by rw [h]; simp)
  rw [List.length_append, ← Nat.add_assoc] at this
  exact this
theorem drop_lt {T F R : List Nat} {n : Nat} (h : T.drop n = F ++ R) (hF : F ≠ []) : n + F.length ≤ T.length := by
  have := congrArg List.length h
  rw [List.length_drop, List.length_append] at this
  have : 0 < F.length := List.length_pos_iff.mpr hF
  omega
theorem drop_cut {T F R : List Nat} {n : Nat} (h : T.drop n = F ++ R) : (T.take (n + F.length)).drop n = F := by
  rw [List.drop_take, h, show n + F.length - n = F.length by omega, List.take_left' rfl]
theorem findIdx_app {r R : List Nat} {c : Nat} (h : c ∉ r) : (r ++ c :: R).findIdx? (· == c) = some r.length := by
  induction r with
  | nil => simp [List.findIdx?_cons]
  | cons x r ih =>
    have hx : ¬ x = c := fun e => h (by rw [e]; exact List.mem_cons_self ..)
    rw [List.cons_append, List.findIdx?_cons, ih fun m => h (List.mem_cons_of_mem _ m)]
    simp [hx]
theorem find_row {T r R : List Nat} {n : Nat} (h : T.drop n = r ++ 10 :: R) (h0 : 10 ∉ r) : findL T 10 n = ((n + r.length : Nat) : Int) := by
  unfold findL
  rw [h, findIdx_app h0]
abbrev tkF (T : List Nat) (n : Int) : List (Str × D) := [("text", .str T), ("at", .int n)]
abbrev tkO (C dx : Addr) (T : List Nat) (n : Int) : MO := .ins C dx (tkF T n)
theorem tkF_put (T : List Nat) (n m : Int) : fputD "at" (.int m) (tkF T n) = tkF T m := by
  refine (fput_past (by decide +kernel)).trans ?_
  rw [fput_here]
theorem tkF_text (T : List Nat) (n : Int) : (tkF T n).lookup ("text" : Str) = some (D.str T) := lkD_here
theorem tkF_at (T : List Nat) (n : Int) : (tkF T n).lookup ("at" : Str) = some (D.int n) := (lkD_past (by decide +kernel)).trans lkD_here
abbrev askS : List Nat := [97, 115, 107, 105, 110, 103]
abbrev ansS : List Nat := [97, 110, 115, 119, 101, 114]
abbrev yesS : List Nat := [121, 101, 115]
def hdT (h : Hd) : List Nat := h.1 ++ [58, 32] ++ h.2 ++ [10]
def rowsT (hs : List Hd) : List Nat := joinL [] (hs.map hdT)
theorem join_nil_cons (y : List Nat) (ys : List (List Nat)) : joinL [] (y :: ys) = y ++ joinL [] ys := by
  cases ys with
  | nil => exact (List.append_nil y).symm
  | cons z r => rfl
theorem join_flat : ∀ ys : List (List Nat), joinL [] ys = ys.flatten
  | [] => rfl
  | y :: ys => by rw [join_nil_cons, join_flat ys]; rfl
theorem rowsT_cons (h : Hd) (hs : List Hd) : rowsT (h :: hs) = hdT h ++ rowsT hs := join_nil_cons _ _
theorem rowsT_nil : rowsT [] = [] := rfl
theorem rowsT_app (a b : List Hd) : rowsT (a ++ b) = rowsT a ++ rowsT b := by
  unfold rowsT
  rw [List.map_append, join_flat, join_flat, join_flat, List.flatten_append]
theorem hdT_len {h : Hd} (ho : okH h = true) : (hdT h).length ≤ 343 := by
  unfold okH at ho
  rw [Bool.and_eq_true] at ho
  have h1 := hn_len ho.1
  have h2 := hv_len ho.2
  unfold hdT
  simp only [List.length_append, List.length_cons, List.length_nil]
  omega
theorem rows_sum {hs : List Hd} (ho : hs.all okH = true) : ((hs.map hdT).map (·.length)).sum ≤ 343 * hs.length := by
  rw [List.map_map]
  exact sum_le fun x m => hdT_len (List.all_eq_true.mp ho x m)
theorem flat_len (ys : List (List Nat)) : ys.flatten.length = (ys.map (·.length)).sum := by
  rw [List.length_flatten]
theorem rowsT_len {hs : List Hd} (ho : hs.all okH = true) : (rowsT hs).length ≤ 343 * hs.length := by
  unfold rowsT
  rw [join_flat, flat_len]
  exact rows_sum ho
def askF (w : List Nat) (ps : List (List Nat)) (as : List Hd) : List Nat := w ++ [32] ++ textP ps as
inductive Fst : List Nat → List Nat → List D → Prop
  | ask (w : List Nat) (ps : List (List Nat)) (as : List Hd) (h1 : w ∈ wordsL) (h2 : ps.length ≤ 5) (h3 : as.length ≤ 4) (h4 : ps.all okPart = true) (h5 : as.all okAsk = true) : Fst askS (askF w ps as) [.str w, pathD ps as]
  | ans (c : Nat) (h1 : 100 ≤ c) (h2 : c ≤ 599) : Fst ansS (TL.numL c) [.int c]
theorem num_tab : ∀ k, k < 600 → isFig (TL.numL k) 3 = true ∧ NumText.digitsVal (TL.numL k) = k ∧ (TL.numL k).length ≤ 3 ∧ (TL.numL k).all isDig = true ∧ TL.numL k ≠ [] := by decide +kernel
theorem dig_T1 {l : List Nat} (h : l.all isDig = true) : okT l = true ∧ 10 ∉ l := by
  refine ⟨List.all_eq_true.mpr fun c m => ?_, fun m => ?_⟩
  · have := List.all_eq_true.mp h c m
    simp [isDig] at this
    simp [isT1, isSg]
    omega
  · have := List.all_eq_true.mp h 10 m
    simp [isDig] at this
theorem pl_T1 {c : Nat} (h : isPl c = true) : isT1 c = true := by
  simp [isPl, isSml, isDig] at h
  simp [isT1, isSg]
  omega
theorem quote_okT {l : List Nat} (ho : okT l = true) : okT (quoteL l) = true := List.all_eq_true.mpr fun c m => by
  rcases quote_mem m ho with h | h
  · exact pl_T1 h
  · rw [h]; decide
theorem join_okT {a : List Nat} (ha : okT a = true) : ∀ {ys : List (List Nat)}, (∀ y ∈ ys, okT y = true) → okT (joinL a ys) = true
  | [], _ => rfl
  | [y], h => h y (List.mem_singleton.mpr rfl)
  | y :: z :: r, h => by
    rw [join_cons, okT_app, okT_app, h y (List.mem_cons_self ..), ha, join_okT ha fun u m => h u (List.mem_cons_of_mem _ m)]
    rfl
theorem okAsk_ok {x : Hd} (h : okAsk x = true) : okT (askT x) = true := by
  have ho := okAsk_len h
  unfold askT
  rw [okT_app, okT_app, quote_okT ho.2.1, quote_okT ho.2.2.2]
  rfl
theorem textP_okT {ps : List (List Nat)} {as : List Hd} (h1 : ps.all okPart = true) (h2 : as.all okAsk = true) : okT (textP ps as) = true := by
  unfold textP partsT asksT
  rw [okT_app, okT_app, join_okT (by decide) fun y m => ?_]
  · split
    · rfl
    · rw [okT_app]
      unfold asksJ
      rw [join_okT (by decide) fun y m => ?_]
      · rfl
      · obtain ⟨x, hx, rfl⟩ := List.mem_map.mp m
        exact okAsk_ok (List.all_eq_true.mp h2 x hx)
  · obtain ⟨x, hx, rfl⟩ := List.mem_map.mp m
    exact quote_okT (okPart_len (List.all_eq_true.mp h1 x hx)).2.1
theorem textP_no10 {ps : List (List Nat)} {as : List Hd} (h1 : ps.all okPart = true) (h2 : as.all okAsk = true) : 10 ∉ textP ps as := fun m => by
  unfold textP at m
  rcases List.mem_append.mp m with m | m
  · exact partsT_no h1 (by decide) (by decide) (by decide) m
  · unfold asksT at m
    split at m
    · cases m
    · rcases List.mem_append.mp m with m | m
      · simp at m
      · exact asksJ_no h2 (by decide) (by decide) (by decide) (by decide) m
theorem words_no : ∀ w ∈ wordsL, 10 ∉ w ∧ 32 ∉ w ∧ w.length ≤ 4 ∧ okT w = true := by decide
theorem Fst.ok {sd f : List Nat} {fd : List D} (h : Fst sd f fd) : okT f = true ∧ 10 ∉ f ∧ f.length ≤ 506 := by
  cases h with
  | ask w ps as h1 h2 h3 h4 h5 =>
    obtain ⟨k1, k2, k3, k4⟩ := words_no w h1
    have hl := text_len h4 h5 h2 h3
    refine ⟨?_, fun m => ?_, ?_⟩
    · unfold askF
      rw [okT_app, okT_app, k4, textP_okT h4 h5]
      rfl
    · unfold askF at m
      rcases List.mem_append.mp m with m | m
      · rcases List.mem_append.mp m with m | m
        · exact k1 m
        · simp at m
      · exact textP_no10 h4 h5 m
    · unfold askF
      simp only [List.length_append, List.length_cons, List.length_nil]
      omega
  | ans c h1 h2 =>
    obtain ⟨k1, k2, k3, k4, k5⟩ := num_tab c (by omega)
    exact ⟨(dig_T1 k4).1, (dig_T1 k4).2, by omega⟩
def wrT (f : List Nat) (hs : List Hd) (tl : List Nat) : List Nat := f ++ [10] ++ rowsT hs ++ tl
def sizeT (b : List Nat) : List Nat := sizeS ++ [58, 32] ++ TL.numL b.length ++ [10, 10] ++ b
def pcT (p : List Nat) : List Nat := TL.numL p.length ++ [10] ++ p ++ [10]
def pcsT (ps : List (List Nat)) : List Nat := joinL [] (ps.map pcT)
def piecesT (ps : List (List Nat)) : List Nat := piecesS ++ [58, 32] ++ yesS ++ [10, 10] ++ pcsT ps ++ [48, 10]
theorem pcsT_cons (p : List Nat) (ps : List (List Nat)) : pcsT (p :: ps) = pcT p ++ pcsT ps := join_nil_cons _ _
inductive Tl : List Nat → List Nat → Prop
  | size (b : List Nat) (h : b.length ≤ 120) : Tl (sizeT b) b
  | pcs (ps : List (List Nat)) (h : ps.flatten.length ≤ 120) (hn : ∀ p ∈ ps, p ≠ []) : Tl (piecesT ps) ps.flatten
inductive Wr (sd : List Nat) : List Nat → D → Prop
  | mk {f : List Nat} {fd : List D} {hs : List Hd} {tl b : List Nat} (hf : Fst sd f fd) (hl : hs.length ≤ 8) (ho : hs.all okH = true) (ht : Tl tl b) : Wr sd (wrT f hs tl) (.tup (fd ++ [hsD hs, .str b]))
theorem wrT_ne (f : List Nat) (hs : List Hd) (tl : List Nat) : wrT f hs tl ≠ [] := fun e => by
  have := congrArg List.length e
  unfold wrT at this
  simp only [List.length_append, List.length_cons, List.length_nil] at this
  omega
theorem Wr.ne {sd t : List Nat} {d : D} (h : Wr sd t d) : t ≠ [] := by
  cases h with
  | mk _ _ _ _ => exact wrT_ne _ _ _
theorem isT4000 {T : List Nat} (hl : T.length ≤ 4000) (ho : okT T = true) : isTextD (.str T) 4000 = true := by
  show (decide ((T.length : Int) ≤ 4000) && okT T) = true
  rw [ho, decide_eq_true (by omega)]
  rfl
theorem hdT_okT {h : Hd} (ho : okH h = true) : okT (hdT h) = true := by
  unfold okH at ho
  rw [Bool.and_eq_true] at ho
  unfold hdT
  rw [okT_app, okT_app, okT_app, hn_ok ho.1, hv_ok ho.2]
  rfl
theorem rowsT_okT {hs : List Hd} (ho : hs.all okH = true) : okT (rowsT hs) = true := join_okT rfl fun y m => by
  obtain ⟨x, hx, rfl⟩ := List.mem_map.mp m
  exact hdT_okT (List.all_eq_true.mp ho x hx)
theorem sizeT_ok {b : List Nat} (h : b.length ≤ 120) (ho : okT b = true) : okT (sizeT b) = true ∧ (sizeT b).length ≤ 131 := by
  obtain ⟨k1, k2, k3, k4, k5⟩ := num_tab b.length (by omega)
  unfold sizeT
  refine ⟨?_, ?_⟩
  · rw [okT_app, okT_app, okT_app, okT_app, ho, (dig_T1 k4).1]
    rfl
  · simp only [List.length_append, List.length_cons, List.length_nil, sizeS]
    omega
theorem Fst.head {sd f : List Nat} {fd : List D} (h : Fst sd f fd) : ∃ d0 s0 r, fd = d0 :: r ∧ ((d0 = .str s0) ∨ ∃ c : Nat, d0 = .int c ∧ c < 10 ^ 18 ∧ s0 = TL.numL c) ∧ s0.length ≤ 10 ∧ (r = [] → s0 = f) := by
  cases h with
  | ask w ps as h1 h2 h3 h4 h5 => exact ⟨_, w, _, rfl, .inl rfl, by have := (words_no w h1).2.2.1; omega, fun z => by cases z⟩
  | ans c h1 h2 => exact ⟨_, _, _, rfl, .inr ⟨c, rfl, Nat.lt_of_le_of_lt h2 (by decide), rfl⟩, by have := (num_tab c (by omega)).2.2.1; omega, fun _ => rfl⟩
theorem gc_str2 {X : Cx} {H0 : Hp} {ρ : Rho} {ω : Om} {d0 : D} {s0 : List Nat} {Q : QE} (h : (d0 = .str s0) ∨ ∃ c : Nat, d0 = .int c ∧ c < 10 ^ 18 ∧ s0 = TL.numL c) (q : Q (.str s0) ω) : GC X H0 ρ (.type "str") [d0] ω Q := by
  rcases h with rfl | ⟨c, rfl, hc, rfl⟩
  · exact gc_strS q
  · exact gc_str rfl hc q
theorem join_end : ∀ (f : List Nat) (ys : List (List Nat)), joinL [10] (f :: ys) ++ [10] = f ++ [10] ++ joinL [] (ys.map (· ++ [10]))
  | f, [] => by rw [join_one]; exact (List.append_nil _).symm
  | f, y :: ys => by
    rw [join_cons, List.map_cons, join_nil_cons, List.append_assoc, List.append_assoc, join_end y ys]
    simp only [List.append_assoc]
theorem wrT_ok {sd f : List Nat} {fd : List D} {hs : List Hd} {tl : List Nat} (hf : Fst sd f fd) (hl : hs.length ≤ 8) (ho : hs.all okH = true) (ht : okT tl = true) : (wrT f hs tl).length ≤ 3251 + tl.length ∧ okT (wrT f hs tl) = true := by
  have h1 := hf.ok
  have h2 := rowsT_len ho
  unfold wrT
  refine ⟨?_, ?_⟩
  · simp only [List.length_append, List.length_cons, List.length_nil]
    omega
  · rw [okT_app, okT_app, okT_app, h1.1, rowsT_okT ho, ht]
    rfl
theorem wrS_ok {sd f : List Nat} {fd : List D} {hs : List Hd} {b : List Nat} (hf : Fst sd f fd) (hl : hs.length ≤ 8) (ho : hs.all okH = true) (hb : b.length ≤ 120) (hb2 : okT b = true) : (wrT f hs (sizeT b)).length ≤ 4000 ∧ okT (wrT f hs (sizeT b)) = true := by
  have h1 := sizeT_ok hb hb2
  have h2 := wrT_ok hf hl ho h1.1
  exact ⟨by omega, h2.2⟩
theorem len_app2 (fd : List D) (a b : D) : (fd ++ [a, b]).length = fd.length + 2 := by simp
theorem last_app2 (fd : List D) (a b : D) : atI (fd ++ [a, b]) (-1) = some b := by
  unfold atI ixN
  rw [len_app2]
  simp
  rw [show (-1 + ((fd.length : Int) + 2)).toNat = fd.length + 1 by omega, if_pos (by omega)]
  show (fd ++ [a, b])[fd.length + 1]? = some b
  rw [List.getElem?_append_right (by omega)]
  simp
theorem tkF_no {T : List Nat} {n : Int} {m : Str} (h1 : (m == ("text" : Str)) = false) (h2 : (m == ("at" : Str)) = false) : (tkF T n).lookup m = none := (lkD_past h1).trans ((lkD_past h2).trans rfl)
theorem tkF_new (T : List Nat) (n : Int) : fputD "at" (.int n) (fputD "text" (.str T) []) = tkF T n := (fput_past (by decide +kernel)).trans rfl
theorem keep_fin {ω ω' : Om} {p : Addr} {m : MO} (h : Keep ω ω' p) (w : ω' p = some m) : Ext (put ω p m) ω' := fun b u e => by
  by_cases hb : b = p
  · subst hb
    rw [put_same] at e
    rw [w]
    exact e
  · rw [put_ne hb] at e
    exact h b u e hb
theorem keep_mut {ω ω' : Om} {p q : Addr} {m : MO} (h : Keep ω ω' p) (f : ω q = none) : Keep ω (put ω' q m) p := fun b u e n => by
  rw [put_ne (fun z => by subst z; rw [f] at e; cases e)]
  exact h b u e n
theorem askF_part {w : List Nat} {ps : List (List Nat)} {as : List Hd} (h : w ∈ wordsL) : partL [32] (askF w ps as) = (w, [32], textP ps as) := by
  unfold askF
  rw [List.append_assoc]
  exact partL_hit _ (words_no w h).2.1
inductive HdOk (m : Int) : Hd → Prop
  | size (k : Nat) (h : k ≤ 120) : HdOk m (sizeS, TL.numL k)
  | pcs : HdOk m (piecesS, yesS)
  | head {x : Hd} (h : okH x = true) (hm : m < 8) : HdOk m x
theorem size_tab : ∀ k, k < 121 → hvL sizeS (TL.numL k) = true := by decide +kernel
theorem hv_no10 {n s : List Nat} (h : hvL n s = true) : 10 ∉ s := by
  unfold hvL rowL at h
  simp at h
  exact h.1.2
theorem hn_no {s : List Nat} {c : Nat} (h : hnL s = true) (hc : hnC c = false) : c ∉ s := fun m => by
  unfold hnL at h
  rw [Bool.and_eq_true] at h
  have := List.all_eq_true.mp h.2 c m
  rw [hc] at this
  cases this
theorem HdOk.facts {m : Int} {x : Hd} (h : HdOk m x) : 58 ∉ x.1 ∧ 10 ∉ x.1 ++ [58, 32] ++ x.2 ∧ hvL x.1 x.2 = true := by
  have go : 58 ∉ x.1 ∧ 10 ∉ x.1 ∧ 10 ∉ x.2 ∧ hvL x.1 x.2 = true := by
    cases h with
    | size k h =>
      have := size_tab k (by omega)
      exact ⟨show 58 ∉ sizeS by decide, show 10 ∉ sizeS by decide, hv_no10 this, this⟩
    | pcs => exact ⟨by decide, by decide, by decide, by decide⟩
    | head h hm =>
      unfold okH at h
      rw [Bool.and_eq_true] at h
      exact ⟨hn_no h.1 (by decide), hn_no h.1 (by decide), hv_no10 h.2, h.2⟩
  refine ⟨go.1, fun m => ?_, go.2.2.2⟩
  rcases List.mem_append.mp m with m | m
  · rcases List.mem_append.mp m with m | m
    · exact go.2.1 m
    · simp at m
  · exact go.2.2.1 m
theorem hn_own {s : List Nat} (h : hnL s = true) : s ≠ sizeS ∧ s ≠ piecesS := by
  unfold hnL hnA at h
  simp [ownL] at h
  exact h.1.2
theorem HdOk.toSize {m : Int} {x : Hd} (h : HdOk m x) (e : x.1 = sizeS) : ∃ k, k ≤ 120 ∧ x.2 = TL.numL k := by
  cases h with
  | size k h => exact ⟨k, h, rfl⟩
  | pcs => cases e
  | head h hm =>
    unfold okH at h
    rw [Bool.and_eq_true] at h
    exact absurd e (hn_own h.1).1
theorem HdOk.toPcs {m : Int} {x : Hd} (h : HdOk m x) (e : x.1 = piecesS) : x.2 = yesS := by
  cases h with
  | size k h => cases e
  | pcs => rfl
  | head h hm =>
    unfold okH at h
    rw [Bool.and_eq_true] at h
    exact absurd e (hn_own h.1).2
theorem HdOk.toHead {m : Int} {x : Hd} (h : HdOk m x) (e : x.1 ≠ sizeS) (e2 : x.1 ≠ piecesS) : hnL x.1 = true ∧ m < 8 := by
  cases h with
  | size k h => exact absurd rfl e
  | pcs => exact absurd rfl e2
  | head h hm =>
    unfold okH at h
    rw [Bool.and_eq_true] at h
    exact ⟨h.1, hm⟩
theorem take_next {α : Type} {l : List α} {i : Nat} {x : α} (h : l[i]? = some x) : l = l.take i ++ x :: l.drop (i + 1) ∧ l.take (i + 1) = l.take i ++ [x] := by
  obtain ⟨hl, rfl⟩ := List.getElem?_eq_some_iff.mp h
  refine ⟨?_, ?_⟩
  · rw [← List.drop_eq_getElem_cons hl, List.take_append_drop]
  · rw [List.take_add_one, h]
    rfl
theorem rows_at {T Z : List Nat} {n i : Nat} {hs : List Hd} {x : Hd} (hT : T.drop n = rowsT hs ++ Z) (h : hs[i]? = some x) : T.drop (n + (rowsT (hs.take i)).length) = hdT x ++ (rowsT (hs.drop (i + 1)) ++ Z) := by
  refine drop_step ?_
  rw [hT]
  have := (take_next h).1
  conv => lhs; rw [this, rowsT_app, rowsT_cons]
  simp only [List.append_assoc]
theorem pcsT_app (a b : List (List Nat)) : pcsT (a ++ b) = pcsT a ++ pcsT b := by
  unfold pcsT
  rw [List.map_append, join_flat, join_flat, join_flat, List.flatten_append]
theorem pcs_at {T Z : List Nat} {n i : Nat} {ps : List (List Nat)} {x : List Nat} (hT : T.drop n = pcsT ps ++ Z) (h : ps[i]? = some x) : T.drop (n + (pcsT (ps.take i)).length) = pcT x ++ (pcsT (ps.drop (i + 1)) ++ Z) := by
  refine drop_step ?_
  rw [hT]
  have := (take_next h).1
  conv => lhs; rw [this, pcsT_app, pcsT_cons]
  simp only [List.append_assoc]
inductive Bd : Hd → List Nat → List Nat → Prop
  | size (b : List Nat) (h : b.length ≤ 120) : Bd (sizeS, TL.numL b.length) b b
  | pcs (ps : List (List Nat)) (h : ps.flatten.length ≤ 120) (hn : ∀ p ∈ ps, p ≠ []) : Bd (piecesS, yesS) (pcsT ps ++ [48, 10]) ps.flatten
theorem Tl.bd {tl b : List Nat} (h : Tl tl b) : ∃ ow bd, tl = hdT ow ++ (10 :: bd) ∧ (∀ m, HdOk m ow) ∧ Bd ow bd b := by
  cases h with
  | size b h => exact ⟨_, _, by simp [sizeT, hdT, List.append_assoc], fun m => .size _ h, .size b h⟩
  | pcs ps h hn => exact ⟨_, _, by simp [piecesT, hdT, List.append_assoc], fun m => .pcs, .pcs ps h hn⟩
theorem num_zero {k : Nat} (hk : k < 600) : TL.numL k = [48] ↔ k = 0 := by
  refine ⟨fun e => ?_, fun e => by subst e; decide +kernel⟩
  have := (num_tab k hk).2.1
  rw [e] at this
  exact this.symm
theorem flat_take {ps : List (List Nat)} {i : Nat} {x : List Nat} (h : ps[i]? = some x) : (ps.take (i + 1)).flatten = (ps.take i).flatten ++ x ∧ (ps.take i).flatten.length + x.length ≤ ps.flatten.length := by
  refine ⟨by rw [(take_next h).2, List.flatten_append]; simp, ?_⟩
  have := congrArg (fun l => l.flatten.length) (take_next h).1
  simp only [List.flatten_append, List.flatten_cons, List.length_append] at this
  omega
theorem prev_app2 (fd : List D) (a b : D) : atI (fd ++ [a, b]) (-2) = some a := by
  unfold atI ixN
  rw [len_app2]
  simp
  rw [show (-2 + ((fd.length : Int) + 2)).toNat = fd.length by omega, if_pos (by omega)]
  show (fd ++ [a, b])[fd.length]? = some a
  rw [List.getElem?_append_right (by omega)]
  simp
end Aw
namespace Aw
open PySem PySem.Spec L2 Q2 SX
abbrev As (α : Type) := List (List Nat × α)
section
variable {α : Type}
def lk (l : As α) (k : List Nat) : Option α := (l.find? fun kv => decide (kv.1 = k)).map (·.2)
def pk (l : As α) (k : List Nat) (a : α) : As α := if (l.any fun kv => decide (kv.1 = k)) = true then l.map (fun kv => if kv.1 = k then (kv.1, a) else kv) else l ++ [(k, a)]
def dk (l : As α) (k : List Nat) : As α := l.filter fun kv => decide (kv.1 ≠ k)
abbrev sk (k : List Nat) : Key := Sum.inr (S k)
def asD (f : α → D) (l : As α) : List (Key × D) := l.map fun kv => (sk kv.1, f kv.2)
theorem sk_inj {a b : List Nat} : sk a = sk b ↔ a = b := ⟨fun h => S_inj (Sum.inr.inj h), fun h => by rw [h]⟩
theorem asD_len (f : α → D) (l : As α) : (asD f l).length = l.length := List.length_map ..
theorem valD_as (f : α → D) (k : List Nat) : ∀ l : As α, valD (asD f l) (sk k) = (lk l k).map f
  | [] => rfl
  | (j, a) :: r => by
    have ih := valD_as f k r
    show valD ((sk j, f a) :: asD f r) (sk k) = _
    rw [valD_cons, ih]
    unfold lk
    rw [List.find?_cons]
    by_cases h : j = k
    · simp [h]
    · rw [if_neg (fun e => h (sk_inj.mp e))]
      simp [h]
theorem any_as (f : α → D) (k : List Nat) (l : As α) : ((asD f l).any fun kv => decide (kv.1 = sk k)) = l.any fun kv => decide (kv.1 = k) := by
  unfold asD
  rw [List.any_map]
  congr 1
  funext kv
  show decide (sk kv.1 = sk k) = _
  rw [decide_eq_decide]
  exact sk_inj
theorem putD_as (f : α → D) (k : List Nat) (a : α) (l : As α) : putD (asD f l) (sk k) (f a) = asD f (pk l k a) := by
  unfold putD pk
  rw [any_as]
  split
  · unfold asD
    rw [List.map_map, List.map_map]
    refine List.map_congr_left fun kv _ => ?_
    show (if sk kv.1 = sk k then (sk kv.1, f a) else (sk kv.1, f kv.2)) = _
    by_cases h : kv.1 = k
    · rw [if_pos (sk_inj.mpr h)]; simp [h]
    · rw [if_neg (fun e => h (sk_inj.mp e))]; simp [h]
  · unfold asD
    rw [List.map_append]
    rfl
theorem dropD_as (f : α → D) (k : List Nat) (l : As α) : dropD (asD f l) (sk k) = asD f (dk l k) := by
  unfold dropD dk asD
  rw [List.filter_map]
  congr 1
  refine List.filter_congr fun kv _ => ?_
  show decide (sk kv.1 ≠ sk k) = decide (kv.1 ≠ k)
  rw [decide_eq_decide]
  exact not_congr sk_inj
theorem lk_cons (l : As α) (j k : List Nat) (a : α) : lk ((j, a) :: l) k = if j = k then some a else lk l k := by
  unfold lk
  rw [List.find?_cons]
  by_cases h : j = k <;> simp [h]
theorem lk_app (a b : As α) (k : List Nat) : lk (a ++ b) k = (lk a k).or (lk b k) := by
  unfold lk
  rw [List.find?_append]
  cases a.find? fun kv => decide (kv.1 = k) <;> rfl
theorem lk_any (l : As α) (k : List Nat) : (l.any fun kv => decide (kv.1 = k)) = (lk l k).isSome := by
  induction l with
  | nil => rfl
  | cons x r ih =>
    rw [List.any_cons, ih, lk_cons]
    by_cases h : x.1 = k <;> simp [h]
theorem lk_mem {l : As α} {k : List Nat} {a : α} (h : lk l k = some a) : (k, a) ∈ l := by
  unfold lk at h
  cases e : l.find? fun kv => decide (kv.1 = k) with
  | none => rw [e] at h; cases h
  | some x =>
    rw [e] at h
    cases h
    have h1 := List.find?_some e
    have h2 := List.mem_of_find?_eq_some e
    obtain rfl := of_decide_eq_true h1
    exact h2
theorem lk_upd (l : As α) (k j : List Nat) (a : α) : lk (l.map fun kv => if kv.1 = k then (kv.1, a) else kv) j = if j = k then (lk l k).map fun _ => a else lk l j := by
  induction l with
  | nil => simp [lk]
  | cons x r ih =>
    rw [List.map_cons]
    by_cases h : x.1 = k
    · rw [if_pos h, lk_cons, ih, show x = (x.1, x.2) from rfl, lk_cons, lk_cons]
      subst h
      by_cases h2 : j = x.1
      · subst h2; simp
      · rw [if_neg (Ne.symm h2), if_neg h2, if_neg h2, if_neg (Ne.symm h2)]
    · rw [if_neg h, show x = (x.1, x.2) from rfl, lk_cons, ih, lk_cons, lk_cons]
      by_cases h2 : j = k
      · subst h2
        rw [if_neg h, if_pos rfl, if_pos rfl, if_neg h]
      · rw [if_neg h2, if_neg h2]
theorem lk_pk (l : As α) (k j : List Nat) (a : α) : lk (pk l k a) j = if j = k then some a else lk l j := by
  unfold pk
  rw [lk_any]
  cases e : lk l k with
  | none =>
    rw [if_neg (by simp), lk_app]
    by_cases h : j = k
    · subst h
      rw [e, if_pos rfl, lk_cons, if_pos rfl]
      rfl
    · rw [if_neg h, lk_cons, if_neg (Ne.symm h)]
      cases lk l j <;> rfl
  | some x =>
    rw [if_pos (by rfl), lk_upd, e]
    rfl
theorem lk_dk (l : As α) (k j : List Nat) : lk (dk l k) j = if j = k then none else lk l j := by
  unfold dk
  induction l with
  | nil => simp [lk]
  | cons x r ih =>
    rw [List.filter_cons]
    by_cases h : x.1 = k
    · rw [if_neg (by simp [h]), ih, show x = (x.1, x.2) from rfl, lk_cons]
      by_cases h2 : j = k
      · rw [if_pos h2, if_pos h2]
      · rw [if_neg h2, if_neg h2, if_neg (fun e => h2 (e.symm.trans h))]
    · rw [if_pos (by simp [h]), show x = (x.1, x.2) from rfl, lk_cons, ih, lk_cons]
      by_cases h2 : j = k
      · subst h2; rw [if_neg h]; simp
      · rw [if_neg h2, if_neg h2]
theorem pk_len (l : As α) (k : List Nat) (a : α) : (pk l k a).length ≤ l.length + 1 := by
  unfold pk
  split
  · rw [List.length_map]; omega
  · rw [List.length_append]; simp
theorem dk_len (l : As α) (k : List Nat) : (dk l k).length ≤ l.length := List.length_filter_le _ _
theorem pk_mem {l : As α} {k : List Nat} {a : α} {x : List Nat × α} (h : x ∈ pk l k a) : x ∈ l ∨ x = (k, a) := by
  unfold pk at h
  split at h
  · obtain ⟨y, hy, rfl⟩ := List.mem_map.mp h
    by_cases e : y.1 = k
    · rw [if_pos e]; exact .inr (by rw [e])
    · rw [if_neg e]; exact .inl hy
  · rcases List.mem_append.mp h with h | h
    · exact .inl h
    · exact .inr (List.mem_singleton.mp h)
theorem dk_mem {l : As α} {k : List Nat} {x : List Nat × α} (h : x ∈ dk l k) : x ∈ l := (List.mem_filter.mp h).1
end
theorem pig {α : Type} [DecidableEq α] : ∀ (l m : List α), l.Nodup → (∀ x ∈ l, x ∈ m) → l.length ≤ m.length
  | [], _, _, _ => Nat.zero_le _
  | x :: l, m, hn, h => by
    have hx := h x (List.mem_cons_self ..)
    have hn' := List.nodup_cons.mp hn
    have ih := pig l (m.erase x) hn'.2 fun y hy => by
      have hne : y ≠ x := fun e => hn'.1 (e ▸ hy)
      exact (List.mem_erase_of_ne hne).mpr (h y (List.mem_cons_of_mem _ hy))
    rw [List.length_erase_of_mem hx] at ih
    have : 0 < m.length := List.length_pos_of_mem hx
    rw [List.length_cons]
    omega
abbrev markS : List Nat := [109, 97, 114, 107]
abbrev freshS : List Nat := [102, 114, 101, 115, 104]
abbrev onceS : List Nat := [111, 110, 99, 101]
abbrev onlyS : List Nat := [111, 110, 108, 121]
abbrev unlessS : List Nat := [117, 110, 108, 101, 115, 115]
abbrev partS : List Nat := [112, 97, 114, 116]
abbrev noneS : List Nat := [110, 111, 110, 101]
abbrev getS : List Nat := [103, 101, 116]
abbrev putS : List Nat := [112, 117, 116]
abbrev addS : List Nat := [97, 100, 100]
abbrev dropS : List Nat := [100, 114, 111, 112]
abbrev ofS : List Nat := [32, 111, 102, 32]
abbrev Ans := Nat × List Hd × List Nat
abbrev anD (a : Ans) : D := ansD (a.1 : Nat) a.2.1 a.2.2
structure Msg where
  w : List Nat
  ps : List (List Nat)
  as : List Hd
  hs : List Hd
  b : List Nat
abbrev Msg.D (m : Msg) : D := msgD m.w m.ps m.as m.hs m.b
abbrev Msg.ok (m : Msg) : Prop := okMsg m.w m.ps m.as m.hs m.b
abbrev Msg.key (m : Msg) : List Nat := textP m.ps m.as
structure HS where
  fresh : Nat
  held : As (List Nat × Nat)
  many : Nat
  numbers : As Nat
  known : As Ans
  ways : As (List Nat)
def HS.new (fresh : Nat) : HS := ⟨fresh, [], 0, [], [], []⟩
def valO (hs : List Hd) (n : List Nat) : Option (List Nat) := (hs.find? fun h => decide (h.1 = n)).map (·.2)
def optD : Option (List Nat) → D
  | none => .non
  | some s => .str s
theorem valOf_O (hs : List Hd) (n : List Nat) : valOf hs n = optD (valO hs n) := by
  unfold valOf valO
  cases hs.find? fun h => decide (h.1 = n) <;> rfl
def markT (n : Nat) : List Nat := 109 :: TL.numL n
def markF (S : HS) (k : List Nat) : List Nat := match lk S.held k with
  | some x => markT x.2
  | none => noneS
def layF (S : HS) (k b : List Nat) : HS := { S with many := S.many + 1, held := pk S.held k (b, S.many + 1) }
def partF (t : List Nat) (many : Nat) : Option (Nat × Nat) :=
  if (partL [45] t).2.1 = [] then none
  else if isFig (partL [45] t).1 3 = false then none
  else if isFig (partL [45] t).2.2 3 = false then none
  else if NumText.digitsVal (partL [45] t).1 > NumText.digitsVal (partL [45] t).2.2 then none
  else if many ≤ NumText.digitsVal (partL [45] t).1 then none
  else some (NumText.digitsVal (partL [45] t).1, min (NumText.digitsVal (partL [45] t).2.2) (many - 1))
def toldT (a b n : Nat) : List Nat := TL.numL a ++ [45] ++ TL.numL b ++ ofS ++ TL.numL n
def getF (S : HS) (k : List Nat) (hs : List Hd) : Ans := match lk S.held k with
  | none => (404, [], [])
  | some x => if valO hs unlessS = some (markT x.2) then (304, [(markS, markT x.2)], []) else
    match valO hs partS with
    | none => (200, [(markS, markT x.2), (freshS, TL.numL S.fresh)], x.1)
    | some t => match partF t x.1.length with
      | none => (416, [], [])
      | some (a, b) => (206, [(markS, markT x.2), (partS, toldT a b x.1.length)], (x.1.take (b + 1)).drop a)
def putFn (S : HS) (k b : List Nat) : Ans × HS := ((if (lk S.held k).isSome then 200 else 201, [(markS, markT (S.many + 1))], []), layF S k b)
def dropFn (S : HS) (k : List Nat) : Ans × HS := match lk S.held k with
  | none => ((404, [], []), S)
  | some _ => ((200, [], []), { S with held := dk S.held k, many := S.many + 1 })
abbrev addK (ps : List (List Nat)) (n : Nat) : List Nat := textP (ps ++ [TL.numL n]) []
def nextN (held : As (List Nat × Nat)) (ps : List (List Nat)) : Nat → Nat → Nat
  | 0, n => n
  | f + 1, n => if (lk held (addK ps n)).isSome then nextN held ps f (n + 1) else n
def addN (S : HS) (ps : List (List Nat)) (as : List Hd) : Nat := nextN S.held ps (S.held.length + 1) ((lk S.numbers (textP ps as)).getD 0 + 1)
def addFn (S : HS) (ps : List (List Nat)) (as : List Hd) (b : List Nat) : Ans × HS :=
  if ps.length = 5 then ((400, [], []), S)
  else ((201, [(toS, addK ps (addN S ps as)), (markS, markT (S.many + 1))], []),
    layF { S with numbers := pk S.numbers (textP ps as) (addN S ps as) } (addK ps (addN S ps as)) b)
def doneF (S : HS) (m : Msg) : Ans × HS := match lk S.ways m.key with
  | some t => ((301, [(toS, t)], []), S)
  | none => if m.w = getS then (getF S m.key m.hs, S)
    else if valO m.hs onlyS ≠ none ∧ valO m.hs onlyS ≠ some (markF S m.key) then ((412, [], []), S)
    else if m.w = putS then putFn S m.key m.b
    else if m.w = dropS then dropFn S m.key
    else addFn S m.ps m.as m.b
def askFn (S : HS) (m : Msg) : Ans × HS := match valO m.hs onceS with
  | none => doneF S m
  | some o => match lk S.known o with
    | some a => (a, S)
    | none => ((doneF S m).1, { (doneF S m).2 with known := pk (doneF S m).2.known o (doneF S m).1 })
abbrev okAn (a : Ans) : Prop := okAns (a.1 : Nat) a.2.1 a.2.2
structure HOk (S : HS) (k : Nat) : Prop where
  fresh : S.fresh ≤ 999
  len : S.held.length ≤ k
  many : S.many ≤ k
  body : ∀ x ∈ S.held, x.2.1.length ≤ 120 ∧ okT x.2.1 = true ∧ x.2.2 ≤ k
  key : ∀ x ∈ S.held, x.1.length ≤ 1000 ∧ okT x.1 = true
  nums : ∀ x ∈ S.numbers, x.2 ≤ 1001 * k
  nlen : S.numbers.length ≤ k
  klen : S.known.length ≤ k
  known : ∀ x ∈ S.known, okAn x.2
  wlen : S.ways.length ≤ k
  ways : ∀ x ∈ S.ways, okH (toS, x.2) = true
theorem HOk.new {f : Nat} (h : f ≤ 999) : HOk (HS.new f) 0 := ⟨h, Nat.le_refl _, Nat.le_refl _, (fun _ m => nomatch m), (fun _ m => nomatch m), (fun _ m => nomatch m), Nat.le_refl _, Nat.le_refl _, (fun _ m => nomatch m), Nat.le_refl _, (fun _ m => nomatch m)⟩
theorem HOk.mono {S : HS} {k j : Nat} (h : HOk S k) (l : k ≤ j) : HOk S j where
  fresh := h.fresh
  len := Nat.le_trans h.len l
  many := Nat.le_trans h.many l
  body := fun x m => ⟨(h.body x m).1, (h.body x m).2.1, Nat.le_trans (h.body x m).2.2 l⟩
  key := h.key
  nums := fun x m => Nat.le_trans (h.nums x m) (Nat.mul_le_mul_left _ l)
  nlen := Nat.le_trans h.nlen l
  klen := Nat.le_trans h.klen l
  known := h.known
  wlen := Nat.le_trans h.wlen l
  ways := h.ways
theorem HOk.lk {S : HS} {k : Nat} (h : HOk S k) {j : List Nat} {x : List Nat × Nat} (e : lk S.held j = some x) : x.1.length ≤ 120 ∧ okT x.1 = true ∧ x.2 ≤ k := h.body _ (lk_mem e)
theorem HOk.num {S : HS} {k : Nat} (h : HOk S k) (j : List Nat) : (Aw.lk S.numbers j).getD 0 ≤ 1001 * k := by
  cases e : Aw.lk S.numbers j with
  | none => exact Nat.zero_le _
  | some n => exact h.nums _ (lk_mem e)
theorem nextN_le (held : As (List Nat × Nat)) (ps : List (List Nat)) : ∀ f n, n ≤ nextN held ps f n ∧ nextN held ps f n ≤ n + f
  | 0, n => ⟨Nat.le_refl _, Nat.le_refl _⟩
  | f + 1, n => by
    unfold nextN
    split
    · have := nextN_le held ps f (n + 1); omega
    · omega
theorem addN_le {S : HS} {k : Nat} (h : HOk S k) (hk : k ≤ 900) (ps : List (List Nat)) (as : List Hd) : addN S ps as ≤ 1001 * (k + 1) + 1 := by
  have h1 := nextN_le S.held ps (S.held.length + 1) ((Aw.lk S.numbers (textP ps as)).getD 0 + 1)
  have h2 := h.num (textP ps as)
  have h3 := h.len
  unfold addN
  omega
theorem num_T1 (n : Nat) : okT (TL.numL n) = true := by
  refine List.all_eq_true.mpr fun c m => ?_
  have := TL.numL_digits n c m
  simp [isT1, isSg]
  omega
theorem num_free {n c : Nat} (h : c < 48 ∨ 57 < c) : c ∉ TL.numL n := TL.numL_free h
theorem dropW_free {l : List Nat} (h : 32 ∉ l) : l.dropWhile [32].contains = l := by
  cases l with
  | nil => rfl
  | cons x r =>
    have hx : x ≠ 32 := fun e => h (by rw [e]; exact List.mem_cons_self ..)
    rw [List.dropWhile_cons, if_neg (by simp [hx])]
theorem strip_free {l : List Nat} (h : 32 ∉ l) : stripL [32] l = l := by
  unfold stripL
  rw [dropW_free h, dropW_free (fun m => h (List.mem_reverse.mp m)), List.reverse_reverse]
theorem okH_free {n s : List Nat} (hn : hnL n = true) (hl : (s.length : Int) ≤ hvM n) (ho : okT s = true) (h10 : 10 ∉ s) (h32 : 32 ∉ s) : okH (n, s) = true := by
  unfold okH hvL rowL
  rw [hn, ho, decide_eq_true hl, decide_eq_true (strip_free h32)]
  simp [h10]
theorem okH_num {n : List Nat} {k : Nat} (hn : hnL n = true) (hk : k < 10 ^ 18) (h18 : (20 : Int) ≤ hvM n) : okH (n, TL.numL k) = true := by
  have := Q2.numL_len hk (by decide)
  exact okH_free hn (by omega) (num_T1 k) (num_free (by omega)) (num_free (by omega))
theorem okH_mark {n : Nat} (h : n < 10 ^ 18) : okH (markS, markT n) = true := by
  have := Q2.numL_len h (by decide)
  have h2 := num_T1 n
  refine okH_free (by decide) ?_ ?_ ?_ ?_
  · show ((109 :: TL.numL n).length : Int) ≤ 30
    rw [List.length_cons]
    omega
  · show (isT1 109 && okT (TL.numL n)) = true
    rw [h2]
    rfl
  · intro m
    rcases List.mem_cons.mp m with h | h
    · cases h
    · exact num_free (by omega) h
  · intro m
    rcases List.mem_cons.mp m with h | h
    · cases h
    · exact num_free (by omega) h
theorem askT_len2 {x : Hd} (h : okAsk x = true) : (askT x).length ≤ 49 := askT_len h
theorem join_len1 : ∀ (s : List Nat) (ys : List (List Nat)) (b : Nat), s.length = 1 → (∀ y ∈ ys, y.length ≤ b) → (joinL s ys).length ≤ (b + 1) * ys.length - 1
  | s, [], b, _, _ => Nat.zero_le _
  | s, [y], b, hs, h => by
    have := h y (List.mem_singleton.mpr rfl)
    rw [join_one, List.length_singleton]
    omega
  | s, y :: z :: r, b, hs, h => by
    have h1 := h y (List.mem_cons_self ..)
    have ih := join_len1 s (z :: r) b hs fun u m => h u (List.mem_cons_of_mem _ m)
    rw [join_cons, List.length_append, List.length_append, hs, List.length_cons]
    rw [List.length_cons] at ih ⊢
    have e : (b + 1) * (r.length + 1 + 1) = (b + 1) * (r.length + 1) + (b + 1) := by rw [Nat.mul_add (b + 1) (r.length + 1) 1, Nat.mul_one]
    have e2 : b + 1 ≤ (b + 1) * (r.length + 1) := Nat.le_mul_of_pos_right _ (by omega)
    omega
theorem textP_330 {ps : List (List Nat)} {as : List Hd} (h1 : ps.all okPart = true) (h2 : as.all okAsk = true) (h3 : ps.length ≤ 5) (h4 : as.length ≤ 4) : (textP ps as).length ≤ 325 := by
  have e1 := join_len1 [47] (ps.map quoteL) 24 rfl fun y m => by
    obtain ⟨p, hp, rfl⟩ := List.mem_map.mp m
    have := okPart_len (List.all_eq_true.mp h1 p hp)
    have := quote_len p
    omega
  have e2 := join_len1 [38] (as.map askT) 49 rfl fun y m => by
    obtain ⟨p, hp, rfl⟩ := List.mem_map.mp m
    exact askT_len (List.all_eq_true.mp h2 p hp)
  rw [List.length_map] at e1 e2
  have e3 : (partsT ps).length ≤ 125 := by
    unfold partsT
    rw [List.length_append, List.length_singleton]
    omega
  have e4 : (asksT as).length ≤ 200 := by
    unfold asksT
    split
    · exact Nat.zero_le _
    · show ([63] ++ asksJ as).length ≤ 200
      unfold asksJ
      rw [List.length_append, List.length_singleton]
      omega
  unfold textP
  rw [List.length_append]
  omega
theorem textP_no {c : Nat} {ps : List (List Nat)} {as : List Hd} (h1 : ps.all okPart = true) (h2 : as.all okAsk = true) (g1 : isPl c = false) (g2 : c ≠ 126) (g3 : c ≠ 47) (g4 : c ≠ 61) (g5 : c ≠ 38) (g6 : c ≠ 63) : c ∉ textP ps as := fun m => by
  unfold textP at m
  rcases List.mem_append.mp m with m | m
  · exact partsT_no h1 g1 g2 g3 m
  · unfold asksT at m
    split at m
    · cases m
    · rcases List.mem_append.mp m with m | m
      · exact g6 (List.mem_singleton.mp m)
      · exact asksJ_no h2 g1 g2 g4 g5 m
theorem okH_path {ps : List (List Nat)} {as : List Hd} (h1 : ps.all okPart = true) (h2 : as.all okAsk = true) (h3 : ps.length ≤ 5) (h4 : as.length ≤ 4) : okH (toS, textP ps as) = true := by
  have := textP_330 h1 h2 h3 h4
  refine okH_free (by decide) ?_ (textP_okT h1 h2) (textP_no h1 h2 (by decide) (by decide) (by decide) (by decide) (by decide) (by decide)) (textP_no h1 h2 (by decide) (by decide) (by decide) (by decide) (by decide) (by decide))
  show ((textP ps as).length : Int) ≤ 330
  omega
theorem part_num {n : Nat} (h : n < 10 ^ 8) : okPart (TL.numL n) = true := by
  have h1 := Q2.numL_len h (by decide)
  unfold okPart
  rw [num_T1, decide_eq_true (show (TL.numL n).length ≤ 8 by omega), decide_eq_false (TL.numL_ne n)]
  rfl
theorem parts_num {ps : List (List Nat)} {n : Nat} (h : ps.all okPart = true) (hn : n < 10 ^ 8) : (ps ++ [TL.numL n]).all okPart = true := by
  rw [List.all_append, h, List.all_cons, part_num hn]
  rfl
theorem okH_told {a b n : Nat} (ha : a < 1000) (hb : b < 1000) (hn : n < 1000) : okH (partS, toldT a b n) = true := by
  have h1 := Q2.numL_len (n := a) (k := 3) (by omega) (by decide)
  have h2 := Q2.numL_len (n := b) (k := 3) (by omega) (by decide)
  have h3 := Q2.numL_len (n := n) (k := 3) (by omega) (by decide)
  have o : okT (toldT a b n) = true := by
    unfold toldT
    rw [okT_app, okT_app, okT_app, okT_app, num_T1, num_T1, num_T1]
    rfl
  have no : ∀ {c k : Nat}, (c < 48 ∨ 57 < c) → c ∉ TL.numL k := fun h => num_free h
  have h10 : 10 ∉ toldT a b n := by
    unfold toldT
    simp [no (c := 10) (by omega)]
  unfold okH hvL rowL
  rw [show hnL partS = true from rfl, o, decide_eq_true (show ((toldT a b n).length : Int) ≤ hvM partS by
    show ((toldT a b n).length : Int) ≤ 30
    unfold toldT
    simp only [List.length_append, List.length_cons, List.length_nil]
    omega)]
  have hs : stripL [32] (toldT a b n) = toldT a b n := by
    have w1 : ∀ l : List Nat, l.head? ≠ some 32 → l.dropWhile [32].contains = l := fun l h => by
      cases l with
      | nil => rfl
      | cons x r => rw [List.dropWhile_cons, if_neg (by simp at h ⊢; exact h)]
    have hd : (toldT a b n).head? ≠ some 32 := by
      unfold toldT
      cases e : TL.numL a with
      | nil => exact absurd e (TL.numL_ne a)
      | cons x r =>
        have := TL.numL_digits a x (by rw [e]; exact List.mem_cons_self ..)
        simp
        omega
    have hl : (toldT a b n).reverse.head? ≠ some 32 := by
      unfold toldT
      rw [List.reverse_append]
      cases e : (TL.numL n).reverse with
      | nil => exact absurd (List.reverse_eq_nil_iff.mp e) (TL.numL_ne n)
      | cons x r =>
        have := TL.numL_digits n x (List.mem_reverse.mp (by rw [e]; exact List.mem_cons_self ..))
        simp
        omega
    unfold stripL
    rw [w1 _ hd, w1 _ hl, List.reverse_reverse]
  rw [hs]
  simp [h10]
theorem okAn_plain {c : Nat} (h : 100 ≤ c) (h2 : c ≤ 599) : okAn (c, [], []) := ⟨by show (100 : Int) ≤ (c : Nat); omega, by show ((c : Nat) : Int) ≤ 599; omega, Nat.zero_le _, rfl, Nat.zero_le _, rfl⟩
theorem okAn_one {c : Nat} {x : Hd} (h : 100 ≤ c) (h2 : c ≤ 599) (hx : okH x = true) : okAn (c, [x], []) := ⟨by show (100 : Int) ≤ (c : Nat); omega, by show ((c : Nat) : Int) ≤ 599; omega, (by show 1 ≤ 8; decide), by show (okH x && true) = true; rw [hx]; rfl, Nat.zero_le _, rfl⟩
theorem okAn_two {c : Nat} {x y : Hd} {b : List Nat} (h : 100 ≤ c) (h2 : c ≤ 599) (hx : okH x = true) (hy : okH y = true) (hb : b.length ≤ 120) (ho : okT b = true) : okAn (c, [x, y], b) := ⟨by show (100 : Int) ≤ (c : Nat); omega, by show ((c : Nat) : Int) ≤ 599; omega, (by show 2 ≤ 8; decide), by show (okH x && (okH y && true)) = true; rw [hx, hy]; rfl, hb, ho⟩
theorem okT_drop {l : List Nat} {n : Nat} (h : okT l = true) : okT (l.drop n) = true := List.all_eq_true.mpr fun c hc => List.all_eq_true.mp h c (List.mem_of_mem_drop hc)
theorem HOk.get {S : HS} {k : Nat} (h : HOk S k) (hk : k ≤ 900) (j : List Nat) (hs : List Hd) : okAn (getF S j hs) := by
  unfold getF
  cases e : Aw.lk S.held j with
  | none => exact okAn_plain (by decide) (by decide)
  | some x =>
    have hx := h.lk e
    have hm : okH (markS, markT x.2) = true := okH_mark (by omega)
    simp only []
    split
    · exact okAn_one (by decide) (by decide) hm
    cases e2 : valO hs partS with
    | none => exact okAn_two (by decide) (by decide) hm (okH_num (by decide) (by have := h.fresh; omega) (by decide)) hx.1 hx.2.1
    | some t =>
      simp only []
      cases e3 : partF t x.1.length with
      | none => exact okAn_plain (by decide) (by decide)
      | some y =>
        obtain ⟨a, b⟩ := y
        have hab : a ≤ b ∧ b < x.1.length := by
          unfold partF at e3
          split at e3
          · cases e3
          split at e3
          · cases e3
          split at e3
          · cases e3
          split at e3
          · cases e3
          split at e3
          · cases e3
          · cases e3
            omega
        exact okAn_two (by decide) (by decide) hm (okH_told (by omega) (by omega) (by omega)) (by rw [List.length_drop, List.length_take]; omega) (okT_drop (okT_take hx.2.1))
theorem HOk.lay {S : HS} {k : Nat} (h : HOk S k) {j b : List Nat} (hj : j.length ≤ 1000 ∧ okT j = true) (hb : b.length ≤ 120) (ho : okT b = true) : HOk (layF S j b) (k + 1) := by
  have h' := h.mono (Nat.le_succ k)
  exact {
    fresh := h.fresh
    len := Nat.le_trans (pk_len _ _ _) (Nat.succ_le_succ h.len)
    many := Nat.succ_le_succ h.many
    body := fun x m => by
      rcases pk_mem m with m | rfl
      · exact h'.body x m
      · exact ⟨hb, ho, Nat.succ_le_succ h.many⟩
    key := fun x m => by
      rcases pk_mem m with m | rfl
      · exact h.key x m
      · exact hj
    nums := h'.nums
    nlen := h'.nlen
    klen := h'.klen
    known := h.known
    wlen := h'.wlen
    ways := h.ways }
theorem addN_le2 {S : HS} {k : Nat} (h : HOk S k) (hk : k ≤ 900) (ps : List (List Nat)) (as : List Hd) : addN S ps as ≤ 1001 * (k + 1) := by
  have h1 := nextN_le S.held ps (S.held.length + 1) ((Aw.lk S.numbers (textP ps as)).getD 0 + 1)
  have h2 := h.num (textP ps as)
  have h3 := h.len
  unfold addN
  omega
theorem HOk.addNum {S : HS} {k : Nat} (h : HOk S k) (hk : k ≤ 900) (ps : List (List Nat)) (as : List Hd) : HOk { S with numbers := pk S.numbers (textP ps as) (addN S ps as) } (k + 1) := by
  have h' := h.mono (Nat.le_succ k)
  exact { h' with
    nums := fun x mm => by
      rcases pk_mem mm with mm | rfl
      · exact h'.nums x mm
      · exact addN_le2 h hk ps as
    nlen := Nat.le_trans (pk_len _ _ _) (Nat.succ_le_succ h.nlen) }
theorem key_ok {ps : List (List Nat)} {as : List Hd} (h1 : ps.all okPart = true) (h2 : as.all okAsk = true) (h3 : ps.length ≤ 5) (h4 : as.length ≤ 4) : (textP ps as).length ≤ 1000 ∧ okT (textP ps as) = true := ⟨by have := textP_330 h1 h2 h3 h4; omega, textP_okT h1 h2⟩
theorem addK_ok {ps : List (List Nat)} {n : Nat} (h1 : ps.all okPart = true) (h3 : ps.length < 5) (hn : n < 10 ^ 8) : (addK ps n).length ≤ 1000 ∧ okT (addK ps n) = true := key_ok (as := []) (parts_num h1 hn) rfl (by rw [List.length_append, List.length_singleton]; omega) (by decide)
theorem HOk.addLay {S : HS} {k : Nat} (h : HOk S k) (hk : k ≤ 900) {ps : List (List Nat)} (as : List Hd) {b : List Nat} (h1 : ps.all okPart = true) (h3 : ps.length < 5) (hb : b.length ≤ 120) (ho : okT b = true) :
    HOk (layF { S with numbers := pk S.numbers (textP ps as) (addN S ps as) } (addK ps (addN S ps as)) b) (k + 1) := by
  have g := h.addNum hk ps as
  have hn := addN_le2 h hk ps as
  exact { g with
    len := Nat.le_trans (pk_len _ _ _) (Nat.succ_le_succ h.len)
    many := Nat.succ_le_succ h.many
    body := fun x m => by
      rcases pk_mem m with m | rfl
      · exact g.body x m
      · exact ⟨hb, ho, Nat.succ_le_succ h.many⟩
    key := fun x m => by
      rcases pk_mem m with m | rfl
      · exact h.key x m
      · exact addK_ok h1 h3 (by omega) }
theorem HOk.done {S : HS} {k : Nat} (h : HOk S k) (hk : k ≤ 900) {m : Msg} (hm : m.ok) : HOk (doneF S m).2 (k + 1) ∧ (doneF S m).2.known = S.known ∧ okAn (doneF S m).1 ∧ (doneF S m).2.ways = S.ways := by
  obtain ⟨m1, m2, m3, m4, m5, m6, m7, hb, ho⟩ := hm
  have h' := h.mono (Nat.le_succ k)
  unfold doneF
  split
  · rename_i t e
    exact ⟨h', rfl, okAn_one (by decide) (by decide) (h.ways _ (lk_mem e)), rfl⟩
  split
  · exact ⟨h', rfl, h.get hk _ _, rfl⟩
  split
  · exact ⟨h', rfl, okAn_plain (by decide) (by decide), rfl⟩
  split
  · refine ⟨h.lay (key_ok m4 m5 m2 m3) hb ho, rfl, ?_, rfl⟩
    have := h.many
    exact okAn_one (by split <;> decide) (by split <;> decide) (okH_mark (by omega))
  split
  · unfold dropFn
    split
    · exact ⟨h', rfl, okAn_plain (by decide) (by decide), rfl⟩
    · exact ⟨{ h' with
        len := Nat.le_trans (dk_len _ _) h'.len
        many := Nat.succ_le_succ h.many
        body := fun x m => h'.body x (dk_mem m)
        key := fun x m => h'.key x (dk_mem m) }, rfl, okAn_plain (by decide) (by decide), rfl⟩
  · unfold addFn
    split
    · exact ⟨h', rfl, okAn_plain (by decide) (by decide), rfl⟩
    · rename_i h5
      have hn := addN_le2 h hk m.ps m.as
      have hmany := h.many
      exact ⟨h.addLay hk m.as m4 (by omega) hb ho, rfl, okAn_two (by decide) (by decide) (okH_path (as := []) (parts_num m4 (by omega)) rfl (by rw [List.length_append, List.length_singleton]; omega) (by decide)) (okH_mark (by omega)) (Nat.zero_le _) rfl, rfl⟩
theorem HOk.ask {S : HS} {k : Nat} (h : HOk S k) (hk : k ≤ 900) {m : Msg} (hm : m.ok) : HOk (askFn S m).2 (k + 1) ∧ okAn (askFn S m).1 ∧ (askFn S m).2.ways = S.ways := by
  have hd := h.done hk hm
  unfold askFn
  split
  · exact ⟨hd.1, hd.2.2.1, hd.2.2.2⟩
  split
  · rename_i a e
    exact ⟨h.mono (Nat.le_succ k), h.known _ (lk_mem e), rfl⟩
  · refine ⟨{ hd.1 with
      klen := ?_
      known := fun x mm => ?_ }, hd.2.2.1, hd.2.2.2⟩
    · show (pk (doneF S m).2.known _ _).length ≤ k + 1
      rw [hd.2.1]
      exact Nat.le_trans (pk_len _ _ _) (Nat.succ_le_succ h.klen)
    · rcases pk_mem mm with mm | rfl
      · exact hd.1.known x mm
      · exact hd.2.2.1
theorem HOk.sendOn {S : HS} {k : Nat} (h : HOk S k) {j t : List Nat} (ht : okH (toS, t) = true) : HOk { S with ways := pk S.ways j t } (k + 1) := by
  have h' := h.mono (Nat.le_succ k)
  exact { h' with
    wlen := Nat.le_trans (pk_len _ _ _) (Nat.succ_le_succ h.wlen)
    ways := fun x mm => by
      rcases pk_mem mm with mm | rfl
      · exact h.ways x mm
      · exact ht }
end Aw
namespace Aw
open PySem PySem.Spec L2 Q2 SX
structure HA where
  dx : Addr
  ph : Addr
  pn : Addr
  pk : Addr
  pw : Addr
abbrev HA.all (A : HA) (p : Addr) : List Addr := [p, A.ph, A.pn, A.pk, A.pw]
def hFs (A : HA) (S : HS) : List (Str × D) := [("fresh", .int (S.fresh : Nat)), ("held", .ref A.ph), ("many", .int (S.many : Nat)), ("numbers", .ref A.pn), ("known", .ref A.pk), ("ways", .ref A.pw)]
abbrev heldD (x : List Nat × Nat) : D := .tup [.str x.1, .int (x.2 : Nat)]
abbrev natD (n : Nat) : D := .int (n : Nat)
structure HAt (C : Addr) (ω : Om) (p : Addr) (A : HA) (S : HS) : Prop where
  o : ω p = some (.ins C A.dx (hFs A S))
  held : ω A.ph = some (.dct (asD heldD S.held))
  nums : ω A.pn = some (.dct (asD natD S.numbers))
  known : ω A.pk = some (.dct (asD anD S.known))
  ways : ω A.pw = some (.dct (asD D.str S.ways))
  nd : (A.all p).Nodup
theorem hF_fresh (A : HA) (S : HS) : (hFs A S).lookup ("fresh" : Str) = some (D.int (S.fresh : Nat)) := lkD_here
theorem hF_held (A : HA) (S : HS) : (hFs A S).lookup ("held" : Str) = some (D.ref A.ph) := (lkD_past (by decide +kernel)).trans lkD_here
theorem hF_many (A : HA) (S : HS) : (hFs A S).lookup ("many" : Str) = some (D.int (S.many : Nat)) := (lkD_past (by decide +kernel)).trans ((lkD_past (by decide +kernel)).trans lkD_here)
theorem hF_nums (A : HA) (S : HS) : (hFs A S).lookup ("numbers" : Str) = some (D.ref A.pn) := (lkD_past (by decide +kernel)).trans ((lkD_past (by decide +kernel)).trans ((lkD_past (by decide +kernel)).trans lkD_here))
theorem hF_known (A : HA) (S : HS) : (hFs A S).lookup ("known" : Str) = some (D.ref A.pk) := (lkD_past (by decide +kernel)).trans ((lkD_past (by decide +kernel)).trans ((lkD_past (by decide +kernel)).trans ((lkD_past (by decide +kernel)).trans lkD_here)))
theorem hF_ways (A : HA) (S : HS) : (hFs A S).lookup ("ways" : Str) = some (D.ref A.pw) := (lkD_past (by decide +kernel)).trans ((lkD_past (by decide +kernel)).trans ((lkD_past (by decide +kernel)).trans ((lkD_past (by decide +kernel)).trans ((lkD_past (by decide +kernel)).trans lkD_here))))
theorem hF_no {A : HA} {S : HS} {m : Str} (h : (!(m == ("fresh" : Str)) && (!(m == ("held" : Str)) && (!(m == ("many" : Str)) && (!(m == ("numbers" : Str)) && (!(m == ("known" : Str)) && !(m == ("ways" : Str))))))) = true) : (hFs A S).lookup m = none := by
  simp only [Bool.and_eq_true, Bool.not_eq_true'] at h
  obtain ⟨h1, h2, h3, h4, h5, h6⟩ := h
  exact (lkD_past h1).trans ((lkD_past h2).trans ((lkD_past h3).trans ((lkD_past h4).trans ((lkD_past h5).trans ((lkD_past h6).trans rfl)))))
theorem hF_putMany (A : HA) (S : HS) (n : Nat) : fputD "many" (.int (n : Nat)) (hFs A S) = hFs A { S with many := n } := by
  refine (fput_past (by decide +kernel)).trans ?_
  refine congrArg _ ((fput_past (by decide +kernel)).trans ?_)
  exact congrArg _ fput_here
theorem hF_new (A : HA) (n : Nat) : fputD "ways" (.ref A.pw) (fputD "known" (.ref A.pk) (fputD "numbers" (.ref A.pn) (fputD "many" (.int 0) (fputD "held" (.ref A.ph) (fputD "fresh" (.int (n : Nat)) []))))) = hFs A (HS.new n) := by
  have e1 : fputD "held" (.ref A.ph) (fputD "fresh" (.int (n : Nat)) []) = ([("fresh", .int (n : Nat)), ("held", .ref A.ph)] : List (Str × D)) := (fput_past (by decide +kernel)).trans rfl
  rw [e1]
  have e2 : fputD "many" (.int 0) ([("fresh", .int (n : Nat)), ("held", .ref A.ph)] : List (Str × D)) = ([("fresh", .int (n : Nat)), ("held", .ref A.ph), ("many", .int 0)] : List (Str × D)) := (fput_past (by decide +kernel)).trans (congrArg _ ((fput_past (by decide +kernel)).trans rfl))
  rw [e2]
  have e3 : fputD "numbers" (.ref A.pn) ([("fresh", .int (n : Nat)), ("held", .ref A.ph), ("many", .int 0)] : List (Str × D)) = ([("fresh", .int (n : Nat)), ("held", .ref A.ph), ("many", .int 0), ("numbers", .ref A.pn)] : List (Str × D)) :=
    (fput_past (by decide +kernel)).trans (congrArg _ ((fput_past (by decide +kernel)).trans (congrArg _ ((fput_past (by decide +kernel)).trans rfl))))
  rw [e3]
  have e4 : fputD "known" (.ref A.pk) ([("fresh", .int (n : Nat)), ("held", .ref A.ph), ("many", .int 0), ("numbers", .ref A.pn)] : List (Str × D)) = ([("fresh", .int (n : Nat)), ("held", .ref A.ph), ("many", .int 0), ("numbers", .ref A.pn), ("known", .ref A.pk)] : List (Str × D)) :=
    (fput_past (by decide +kernel)).trans (congrArg _ ((fput_past (by decide +kernel)).trans (congrArg _ ((fput_past (by decide +kernel)).trans (congrArg _ ((fput_past (by decide +kernel)).trans rfl))))))
  rw [e4]
  exact (fput_past (by decide +kernel)).trans (congrArg _ ((fput_past (by decide +kernel)).trans (congrArg _ ((fput_past (by decide +kernel)).trans (congrArg _ ((fput_past (by decide +kernel)).trans (congrArg _ ((fput_past (by decide +kernel)).trans rfl))))))))
def HKeep (L : List Addr) (ω ω' : Om) : Prop := ∀ b m, ω b = some m → b ∉ L → ω' b = some m
theorem HKeep.refl {L : List Addr} {ω : Om} : HKeep L ω ω := fun _ _ h _ => h
theorem HKeep.trans {L : List Addr} {ω ω1 ω2 : Om} (a : HKeep L ω ω1) (b : HKeep L ω1 ω2) : HKeep L ω ω2 := fun x m h n => b x m (a x m h n) n
theorem HKeep.put {L : List Addr} {ω ω' : Om} {q : Addr} {m : MO} (a : HKeep L ω ω') (h : q ∈ L) : HKeep L ω (put ω' q m) := fun x u e n => by
  rw [Q2.put_ne (fun z => by subst z; exact n h)]
  exact a x u e n
theorem HKeep.ext {L : List Addr} {ω ω1 ω2 : Om} (a : HKeep L ω ω1) (b : Ext ω1 ω2) : HKeep L ω ω2 := fun x m h n => b x m (a x m h n)
theorem HKeep.of {L : List Addr} {ω ω1 ω2 : Om} (a : Ext ω ω1) (b : HKeep L ω1 ω2) : HKeep L ω ω2 := fun x m h n => b x m (a x m h) n
theorem HKeep.more {L L' : List Addr} {ω ω' : Om} (a : HKeep L ω ω') (h : ∀ x ∈ L, x ∈ L') : HKeep L' ω ω' := fun x m e n => a x m e fun z => n (h x z)
theorem HAt.ext {C : Addr} {ω ω' : Om} {p : Addr} {A : HA} {S : HS} (h : HAt C ω p A S) (x : Ext ω ω') : HAt C ω' p A S := ⟨x _ _ h.o, x _ _ h.held, x _ _ h.nums, x _ _ h.known, x _ _ h.ways, h.nd⟩
section
variable {C : Addr} {ω : Om} {p : Addr} {A : HA} {S : HS}
theorem HAt.nd5 (h : HAt C ω p A S) : (p ≠ A.ph ∧ p ≠ A.pn ∧ p ≠ A.pk ∧ p ≠ A.pw) ∧ (A.ph ≠ A.pn ∧ A.ph ≠ A.pk ∧ A.ph ≠ A.pw) ∧ (A.pn ≠ A.pk ∧ A.pn ≠ A.pw) ∧ A.pk ≠ A.pw := by
  have := h.nd
  simp only [HA.all, List.nodup_cons, List.mem_cons, List.not_mem_nil, or_false, not_or, List.nodup_nil, and_true, not_false_eq_true] at this
  exact ⟨this.1, this.2.1, this.2.2.1, this.2.2.2⟩
theorem HAt.keep {ω' : Om} {L : List Addr} (h : HAt C ω p A S) (k : HKeep L ω ω') (d : ∀ x ∈ A.all p, x ∉ L) : HAt C ω' p A S :=
  ⟨k _ _ h.o (d _ (by simp [HA.all])), k _ _ h.held (d _ (by simp [HA.all])), k _ _ h.nums (d _ (by simp [HA.all])), k _ _ h.known (d _ (by simp [HA.all])), k _ _ h.ways (d _ (by simp [HA.all])), h.nd⟩
theorem HAt.sHeld (h : HAt C ω p A S) (l : As (List Nat × Nat)) : HAt C (put ω A.ph (.dct (asD heldD l))) p A { S with held := l } := by
  obtain ⟨⟨a1, a2, a3, a4⟩, ⟨b1, b2, b3⟩, ⟨c1, c2⟩, d1⟩ := h.nd5
  exact ⟨by rw [put_ne a1]; exact h.o, put_same, by rw [put_ne b1.symm]; exact h.nums, by rw [put_ne b2.symm]; exact h.known, by rw [put_ne b3.symm]; exact h.ways, h.nd⟩
theorem HAt.sNums (h : HAt C ω p A S) (l : As Nat) : HAt C (put ω A.pn (.dct (asD natD l))) p A { S with numbers := l } := by
  obtain ⟨⟨a1, a2, a3, a4⟩, ⟨b1, b2, b3⟩, ⟨c1, c2⟩, d1⟩ := h.nd5
  exact ⟨by rw [put_ne a2]; exact h.o, by rw [put_ne b1]; exact h.held, put_same, by rw [put_ne c1.symm]; exact h.known, by rw [put_ne c2.symm]; exact h.ways, h.nd⟩
theorem HAt.sKnown (h : HAt C ω p A S) (l : As Ans) : HAt C (put ω A.pk (.dct (asD anD l))) p A { S with known := l } := by
  obtain ⟨⟨a1, a2, a3, a4⟩, ⟨b1, b2, b3⟩, ⟨c1, c2⟩, d1⟩ := h.nd5
  exact ⟨by rw [put_ne a3]; exact h.o, by rw [put_ne b2]; exact h.held, by rw [put_ne c1]; exact h.nums, put_same, by rw [put_ne d1.symm]; exact h.ways, h.nd⟩
theorem HAt.sWays (h : HAt C ω p A S) (l : As (List Nat)) : HAt C (put ω A.pw (.dct (asD D.str l))) p A { S with ways := l } := by
  obtain ⟨⟨a1, a2, a3, a4⟩, ⟨b1, b2, b3⟩, ⟨c1, c2⟩, d1⟩ := h.nd5
  exact ⟨by rw [put_ne a4]; exact h.o, by rw [put_ne b3]; exact h.held, by rw [put_ne c2]; exact h.nums, by rw [put_ne d1]; exact h.known, put_same, h.nd⟩
theorem HAt.sMany (h : HAt C ω p A S) (n : Nat) : HAt C (put ω p (.ins C A.dx (hFs A { S with many := n }))) p A { S with many := n } := by
  obtain ⟨⟨a1, a2, a3, a4⟩, ⟨b1, b2, b3⟩, ⟨c1, c2⟩, d1⟩ := h.nd5
  exact ⟨put_same, by rw [put_ne a1.symm]; exact h.held, by rw [put_ne a2.symm]; exact h.nums, by rw [put_ne a3.symm]; exact h.known, by rw [put_ne a4.symm]; exact h.ways, h.nd⟩
end
theorem mem_p (A : HA) (p : Addr) : p ∈ A.all p := by simp [HA.all]
theorem mem_ph (A : HA) (p : Addr) : A.ph ∈ A.all p := by simp [HA.all]
theorem mem_pn (A : HA) (p : Addr) : A.pn ∈ A.all p := by simp [HA.all]
theorem mem_pk (A : HA) (p : Addr) : A.pk ∈ A.all p := by simp [HA.all]
theorem mem_pw (A : HA) (p : Addr) : A.pw ∈ A.all p := by simp [HA.all]
theorem an_pl {a : Ans} (h : okAns (a.1 : Nat) a.2.1 a.2.2) : pl 12 (anD a) = true := ans_pl h
theorem numL_ok (n : Nat) : okT (TL.numL n) = true := by
  refine List.all_eq_true.mpr fun c m => ?_
  have := TL.numL_digits n c m
  simp [isT1, isSg]
  omega
theorem markT_len {n : Nat} (h : n < 10 ^ 7) : (markT n).length ≤ 8 := by
  have := numL_len h (by decide)
  unfold markT
  rw [List.length_cons]
  omega
theorem markF_len {S : HS} {k : Nat} (h : HOk S k) (hk : k ≤ 900) (j : List Nat) : (markF S j).length ≤ 8 := by
  unfold markF
  cases e : lk S.held j with
  | none => decide
  | some x =>
    have := h.lk e
    exact markT_len (Nat.lt_of_le_of_lt (Nat.le_trans this.2.2 hk) (by decide))
theorem hF_len (A : HA) (S : HS) : (hFs A S).length < 1000 := by
  show 6 < 1000
  decide
section
variable {C : Addr} {ω : Om} {p : Addr} {A : HA} {S : HS}
theorem HAt.many1 (h : HAt C ω p A S) : HAt C (put ω p (.ins C A.dx (fputD "many" (.int ((S.many : Int) + 1)) (hFs A S)))) p A { S with many := S.many + 1 } := by
  rw [show fputD "many" (.int ((S.many : Int) + 1)) (hFs A S) = hFs A { S with many := S.many + 1 } from hF_putMany A S (S.many + 1)]
  exact h.sMany _
theorem HAt.putHeld (h : HAt C ω p A S) (key : List Nat) (x : List Nat × Nat) : HAt C (put ω A.ph (.dct (putD (asD heldD S.held) (sk key) (heldD x)))) p A { S with held := pk S.held key x } := by
  rw [putD_as heldD key x S.held]
  exact h.sHeld _
theorem HAt.dropHeld (h : HAt C ω p A S) (key : List Nat) : HAt C (put ω A.ph (.dct (dropD (asD heldD S.held) (sk key)))) p A { S with held := dk S.held key } := by
  rw [dropD_as heldD key S.held]
  exact h.sHeld _
theorem HAt.putNums (h : HAt C ω p A S) (key : List Nat) (n : Nat) : HAt C (put ω A.pn (.dct (putD (asD natD S.numbers) (sk key) (.int (n : Nat))))) p A { S with numbers := pk S.numbers key n } := by
  rw [show putD (asD natD S.numbers) (sk key) (.int (n : Nat)) = asD natD (pk S.numbers key n) from putD_as natD key n S.numbers]
  exact h.sNums _
theorem HAt.putKnown (h : HAt C ω p A S) (key : List Nat) (a : Ans) : HAt C (put ω A.pk (.dct (putD (asD anD S.known) (sk key) (anD a)))) p A { S with known := Aw.pk S.known key a } := by
  rw [putD_as anD key a S.known]
  exact h.sKnown _
theorem HAt.putWays (h : HAt C ω p A S) (key t : List Nat) : HAt C (put ω A.pw (.dct (putD (asD D.str S.ways) (sk key) (.str t)))) p A { S with ways := Aw.pk S.ways key t } := by
  rw [putD_as D.str key t S.ways]
  exact h.sWays _
end
theorem din_some {α : Type} {f : α → D} {l : As α} {k : List Nat} (h : (valD (asD f l) (sk k)).isSome = true) : ∃ x, lk l k = some x ∧ valD (asD f l) (sk k) = some (f x) := by
  rw [valD_as] at h ⊢
  cases e : lk l k with
  | none => rw [e] at h; cases h
  | some x => exact ⟨x, rfl, rfl⟩
theorem din_none {α : Type} {f : α → D} {l : As α} {k : List Nat} (h : (valD (asD f l) (sk k)).isSome = false) : lk l k = none := by
  rw [valD_as] at h
  cases e : lk l k with
  | none => rfl
  | some x => rw [e] at h; cases h
theorem din_at {α : Type} {f : α → D} {l : As α} {k : List Nat} {x : α} (h : lk l k = some x) : valD (asD f l) (sk k) = some (f x) := by
  rw [valD_as, h]
  rfl
theorem din_getD {α : Type} {f : α → D} {l : As α} {k : List Nat} {a : α} : (valD (asD f l) (sk k)).getD (f a) = f ((lk l k).getD a) := by
  rw [valD_as]
  cases lk l k <;> rfl
def pairO : Option (Nat × Nat) → D
  | none => .non
  | some x => .tup [.int (x.1 : Nat), .int (x.2 : Nat)]
theorem fig_int {l : List Nat} (h : isFig l 3 = true) : l.all isDig = true ∧ l ≠ [] ∧ l.length ≤ 640 ∧ l.length ≤ 3 := by
  unfold isFig at h
  simp only [Bool.and_eq_true, decide_eq_true_eq] at h
  refine ⟨h.1.2, fun e => ?_, by omega, by omega⟩
  rw [e] at h
  simp at h
theorem partF_no1 {t : List Nat} {m : Nat} (h : (decide ((partL [45] t).2.1 = []) || (!isFig (partL [45] t).1 3 || !isFig (partL [45] t).2.2 3)) = true) : partF t m = none := by
  unfold partF
  simp only [Bool.or_eq_true, Bool.not_eq_true', decide_eq_true_eq] at h
  split
  · rfl
  split
  · rfl
  split
  · rfl
  · rename_i h1 h2 h3
    rcases h with h | h | h
    · exact absurd h h1
    · exact absurd h h2
    · exact absurd h h3
theorem partF_go {t : List Nat} {m : Nat} (h : (decide ((partL [45] t).2.1 = []) || (!isFig (partL [45] t).1 3 || !isFig (partL [45] t).2.2 3)) = false) : isFig (partL [45] t).1 3 = true ∧ isFig (partL [45] t).2.2 3 = true ∧ partF t m =
    if NumText.digitsVal (partL [45] t).1 > NumText.digitsVal (partL [45] t).2.2 then none else if m ≤ NumText.digitsVal (partL [45] t).1 then none else some (NumText.digitsVal (partL [45] t).1, min (NumText.digitsVal (partL [45] t).2.2) (m - 1)) := by
  simp only [Bool.or_eq_false_iff, Bool.not_eq_false', decide_eq_false_iff_not] at h
  refine ⟨h.2.1, h.2.2, ?_⟩
  unfold partF
  rw [if_neg h.1, if_neg (by rw [h.2.1]; decide), if_neg (by rw [h.2.2]; decide)]
theorem partF_some {t : List Nat} {m a b : Nat} (h : partF t m = some (a, b)) : a ≤ b ∧ b < m := by
  unfold partF at h
  split at h
  · cases h
  split at h
  · cases h
  split at h
  · cases h
  split at h
  · cases h
  split at h
  · cases h
  · cases h
    omega
theorem isNon_opt (o : Option (List Nat)) : isNonD (optD o) = o.isNone := by cases o <;> rfl
theorem eq_opt (o : Option (List Nat)) (s : List Nat) : eqD (optD o) (.str s) = decide (o = some s) := by
  cases o with
  | none =>
    rw [Bool.eq_iff_iff, eqD_iff]
    simp [optD]
  | some x =>
    rw [Bool.eq_iff_iff, eqD_iff]
    simp [optD]
theorem valO_ok {hs : List Hd} {n s : List Nat} (h : hs.all okH = true) (e : valO hs n = some s) : okH (n, s) = true := by
  unfold valO at e
  cases e2 : hs.find? fun h => decide (h.1 = n) with
  | none => rw [e2] at e; cases e
  | some x =>
    rw [e2] at e
    cases e
    have h1 := List.find?_some e2
    obtain rfl := of_decide_eq_true h1
    exact List.all_eq_true.mp h x (List.mem_of_find?_eq_some e2)
theorem opt_pl {hs : List Hd} (n : List Nat) (h : hs.all okH = true) : pl 12 (optD (valO hs n)) = true := by
  rw [← valOf_O]
  exact val_pl n h
theorem str_pl8 {s : List Nat} (h : okT s = true) : pl 12 (.str s) = true := pl_okS 12 h
theorem markT_ok (n : Nat) : okT (markT n) = true := by
  unfold markT
  show (isT1 109 && okT (TL.numL n)) = true
  rw [numL_ok]
  rfl
theorem markF_ok (S : HS) (k : List Nat) : okT (markF S k) = true := by
  unfold markF
  split
  · exact markT_ok _
  · decide
theorem parts_1000 {ps : List (List Nat)} (h : ps.all okPart = true) : ps.all (fun s => decide (s.length ≤ 1000) && okT s) = true := List.all_eq_true.mpr fun s m => by
  have := okPart_len (List.all_eq_true.mp h s m)
  rw [this.2.1, decide_eq_true (by omega : s.length ≤ 1000)]
  rfl
theorem parts_add {ps : List (List Nat)} {n : Nat} (h : ps.all okPart = true) (hn : n < 10 ^ 18) : (ps ++ [TL.numL n]).all (fun s => decide (s.length ≤ 1000) && okT s) = true := by
  rw [List.all_append, parts_1000 h]
  have := numL_len hn (by decide)
  show (true && ((decide ((TL.numL n).length ≤ 1000) && okT (TL.numL n)) && true)) = true
  rw [numL_ok, decide_eq_true (by omega)]
  rfl
theorem quote_num (n : Nat) : quoteL (TL.numL n) = TL.numL n := by
  have h : ∀ l : List Nat, l.all isDig = true → quoteL l = l := fun l => by
    induction l with
    | nil => intro _; rfl
    | cons c r ih =>
      intro h
      rw [List.all_cons, Bool.and_eq_true] at h
      show qs c ++ quoteL r = c :: r
      rw [ih h.2, qs_pl (by unfold isPl; rw [h.1]; simp)]
      rfl
  refine h _ (List.all_eq_true.mpr fun c m => ?_)
  have := TL.numL_digits n c m
  simp [isDig]
  omega
theorem addK_eq (ps : List (List Nat)) (n : Nat) : addK ps n = (if ps = [] then [47] else partsT ps ++ [47]) ++ TL.numL n := by
  show partsT (ps ++ [TL.numL n]) ++ asksT [] = _
  rw [show asksT [] = [] from rfl, List.append_nil]
  unfold partsT
  rw [List.map_append, List.map_cons, List.map_nil, quote_num]
  cases ps with
  | nil => rfl
  | cons x r =>
    rw [join_snoc _ _ _ (by simp), if_neg (by simp)]
    simp only [List.append_assoc]
theorem addK_inj {ps : List (List Nat)} {a b : Nat} (h : addK ps a = addK ps b) : a = b := by
  rw [addK_eq, addK_eq] at h
  exact TL.numL_inj (List.append_cancel_left h)
theorem addK_pig {held : As (List Nat × Nat)} {ps : List (List Nat)} {n0 j : Nat} (h : ∀ i, i < j → (lk held (addK ps (n0 + i))).isSome = true) : j ≤ held.length := by
  have h1 := pig ((List.range j).map fun i => addK ps (n0 + i)) (held.map (·.1)) ?_ ?_
  · rw [List.length_map, List.length_map, List.length_range] at h1
    exact h1
  · refine List.Pairwise.map _ (fun a b hab e => ?_) List.nodup_range
    have := addK_inj e
    omega
  · intro x m
    obtain ⟨i, hi, rfl⟩ := List.mem_map.mp m
    have h2 := h i (List.mem_range.mp hi)
    cases e : lk held (addK ps (n0 + i)) with
    | none => rw [e] at h2; cases h2
    | some y => exact List.mem_map.mpr ⟨_, lk_mem e, rfl⟩
theorem nextN_hit {held : As (List Nat × Nat)} {ps : List (List Nat)} {f n : Nat} (h : (lk held (addK ps n)).isSome = true) : nextN held ps (f + 1) n = nextN held ps f (n + 1) := by
  show (if (lk held (addK ps n)).isSome = true then _ else n) = _
  rw [if_pos h]
theorem nextN_end {held : As (List Nat × Nat)} {ps : List (List Nat)} {f n : Nat} (h : (lk held (addK ps n)).isSome = false) : nextN held ps f n = n := by
  cases f with
  | zero => rfl
  | succ f =>
    show (if (lk held (addK ps n)).isSome = true then _ else n) = _
    rw [h]
    rfl
section
variable {S : HS} {m : Msg}
theorem done_way {t : List Nat} (h : lk S.ways m.key = some t) : doneF S m = ((301, [(toS, t)], []), S) := by
  unfold doneF
  rw [h]
theorem done_go (h : lk S.ways m.key = none) : doneF S m = if m.w = getS then (getF S m.key m.hs, S)
    else if valO m.hs onlyS ≠ none ∧ valO m.hs onlyS ≠ some (markF S m.key) then ((412, [], []), S)
    else if m.w = putS then putFn S m.key m.b
    else if m.w = dropS then dropFn S m.key
    else addFn S m.ps m.as m.b := by
  unfold doneF
  rw [h]
theorem done_get (h : lk S.ways m.key = none) (h3 : m.w = getS) : doneF S m = (getF S m.key m.hs, S) := by
  rw [done_go h, if_pos h3]
theorem done_412 (h : lk S.ways m.key = none) (h4 : ¬ m.w = getS) (h5 : (!(valO m.hs onlyS).isNone && !decide (valO m.hs onlyS = some (markF S m.key))) = true) : doneF S m = ((412, [], []), S) := by
  rw [done_go h, if_neg h4, if_pos]
  simp only [Bool.and_eq_true, Bool.not_eq_true', decide_eq_false_iff_not, Option.isNone_eq_false_iff] at h5
  exact ⟨fun e => (by rw [e] at h5; simp at h5), h5.2⟩
theorem done_no412 (h5 : (!(valO m.hs onlyS).isNone && !decide (valO m.hs onlyS = some (markF S m.key))) = false) : ¬ (valO m.hs onlyS ≠ none ∧ valO m.hs onlyS ≠ some (markF S m.key)) := fun ⟨a, b⟩ => by
  cases e : valO m.hs onlyS with
  | none => exact a e
  | some x =>
    rw [e] at h5 b
    simp at h5
    exact b (by rw [h5])
theorem done_put (h : lk S.ways m.key = none) (h4 : ¬ m.w = getS) (h6 : (!(valO m.hs onlyS).isNone && !decide (valO m.hs onlyS = some (markF S m.key))) = false) (h9 : m.w = putS) : doneF S m = putFn S m.key m.b := by
  rw [done_go h, if_neg h4, if_neg (done_no412 h6), if_pos h9]
theorem done_drop (h : lk S.ways m.key = none) (h4 : ¬ m.w = getS) (h6 : (!(valO m.hs onlyS).isNone && !decide (valO m.hs onlyS = some (markF S m.key))) = false) (h10 : ¬ m.w = putS) (h11 : m.w = dropS) : doneF S m = dropFn S m.key := by
  rw [done_go h, if_neg h4, if_neg (done_no412 h6), if_neg h10, if_pos h11]
theorem done_add (h : lk S.ways m.key = none) (h4 : ¬ m.w = getS) (h6 : (!(valO m.hs onlyS).isNone && !decide (valO m.hs onlyS = some (markF S m.key))) = false) (h10 : ¬ m.w = putS) (h11 : ¬ m.w = dropS) : doneF S m = addFn S m.ps m.as m.b := by
  rw [done_go h, if_neg h4, if_neg (done_no412 h6), if_neg h10, if_neg h11]
end
theorem isText120 {d : D} (h : isTextD d 120 = true) : ∃ b, d = .str b ∧ b.length ≤ 120 ∧ okT b = true := by
  obtain ⟨b, rfl, h1, h2⟩ := isText_str h
  exact ⟨b, rfl, by omega, h2⟩
theorem isAsking_of {d : D} (h : isAskingD d = true) : ∃ m : Msg, d = m.D ∧ m.ok := by
  unfold isAskingD at h
  split at h
  · rename_i w p hh b
    simp only [Bool.and_eq_true, decide_eq_true_eq] at h
    obtain ⟨ps, as, rfl, h1, h2, h3, h4⟩ := isPath_of h.2.1
    obtain ⟨hs, rfl, h5, h6⟩ := isHeads_of h.2.2.1
    obtain ⟨b, rfl, h7, h8⟩ := isText120 h.2.2.2
    exact ⟨⟨w, ps, as, hs, b⟩, rfl, h.1, h1, h2, h3, h4, h5, h6, h7, h8⟩
  · cases h
end Aw
namespace Aw
open PySem PySem.Spec L2 Q2 SX
abbrev heldS : List Nat := [104, 101, 108, 100]
abbrev manyS : List Nat := [109, 97, 110, 121]
abbrev numsS : List Nat := [110, 117, 109, 98, 101, 114, 115]
abbrev knownS : List Nat := [107, 110, 111, 119, 110]
abbrev waysS : List Nat := [119, 97, 121, 115]
structure SA where
  bh : Addr
  bn : Addr
  bk : Addr
  bw : Addr
abbrev SA.all (B : SA) (q : Addr) : List Addr := [q, B.bh, B.bn, B.bk, B.bw]
def sFs (B : SA) (S : HS) : List (Key × D) := [(sk heldS, .ref B.bh), (sk manyS, .int (S.many : Nat)), (sk numsS, .ref B.bn), (sk knownS, .ref B.bk), (sk waysS, .ref B.bw), (sk freshS, .int (S.fresh : Nat))]
structure SAt (ω : Om) (q : Addr) (B : SA) (S : HS) : Prop where
  o : ω q = some (.dct (sFs B S))
  held : ω B.bh = some (.dct (asD heldD S.held))
  nums : ω B.bn = some (.dct (asD natD S.numbers))
  known : ω B.bk = some (.dct (asD anD S.known))
  ways : ω B.bw = some (.dct (asD D.str S.ways))
  nd : (B.all q).Nodup
theorem sk_ne {a b : List Nat} (h : decide (a = b) = false) : ¬ sk a = sk b := fun e => absurd (sk_inj.mp e) (of_decide_eq_false h)
theorem vD_here {k : Key} {d : D} {r : List (Key × D)} : valD ((k, d) :: r) k = some d := by rw [valD_cons, if_pos rfl]
theorem vD_past {a b : List Nat} {d : D} {r : List (Key × D)} (h : decide (a = b) = false) : valD ((sk a, d) :: r) (sk b) = valD r (sk b) := by rw [valD_cons, if_neg (sk_ne h)]
theorem sF_held (B : SA) (S : HS) : valD (sFs B S) (sk heldS) = some (.ref B.bh) := vD_here
theorem sF_many (B : SA) (S : HS) : valD (sFs B S) (sk manyS) = some (.int (S.many : Nat)) := (vD_past (by decide)).trans vD_here
theorem sF_nums (B : SA) (S : HS) : valD (sFs B S) (sk numsS) = some (.ref B.bn) := (vD_past (by decide)).trans ((vD_past (by decide)).trans vD_here)
theorem sF_known (B : SA) (S : HS) : valD (sFs B S) (sk knownS) = some (.ref B.bk) := (vD_past (by decide)).trans ((vD_past (by decide)).trans ((vD_past (by decide)).trans vD_here))
theorem sF_ways (B : SA) (S : HS) : valD (sFs B S) (sk waysS) = some (.ref B.bw) := (vD_past (by decide)).trans ((vD_past (by decide)).trans ((vD_past (by decide)).trans ((vD_past (by decide)).trans vD_here)))
theorem sF_fresh (B : SA) (S : HS) : valD (sFs B S) (sk freshS) = some (.int (S.fresh : Nat)) := (vD_past (by decide)).trans ((vD_past (by decide)).trans ((vD_past (by decide)).trans ((vD_past (by decide)).trans ((vD_past (by decide)).trans vD_here))))
theorem sF_putMany (B : SA) (S : HS) (n : Nat) : putD (sFs B S) (sk manyS) (.int (n : Nat)) = sFs B { S with many := n } := by
  have h1 : ¬ sk heldS = sk manyS := sk_ne (by decide)
  have h2 : ¬ sk numsS = sk manyS := sk_ne (by decide)
  have h3 : ¬ sk knownS = sk manyS := sk_ne (by decide)
  have h4 : ¬ sk waysS = sk manyS := sk_ne (by decide)
  have h5 : ¬ sk freshS = sk manyS := sk_ne (by decide)
  unfold putD sFs
  simp only [List.any_cons, List.map_cons, List.map_nil, if_neg h1, if_neg h2, if_neg h3, if_neg h4, if_neg h5]
  simp
theorem sF_new (B : SA) (n : Nat) : mergeD [] [(sk heldS, .ref B.bh), (sk manyS, .int 0), (sk numsS, .ref B.bn), (sk knownS, .ref B.bk), (sk waysS, .ref B.bw), (sk freshS, .int (n : Nat))] = sFs B (HS.new n) := by
  have h1 : ¬ sk heldS = sk manyS := sk_ne (by decide)
  have h2 : ¬ sk heldS = sk numsS := sk_ne (by decide)
  have h3 : ¬ sk heldS = sk knownS := sk_ne (by decide)
  have h4 : ¬ sk heldS = sk waysS := sk_ne (by decide)
  have h5 : ¬ sk heldS = sk freshS := sk_ne (by decide)
  have g2 : ¬ sk manyS = sk numsS := sk_ne (by decide)
  have g3 : ¬ sk manyS = sk knownS := sk_ne (by decide)
  have g4 : ¬ sk manyS = sk waysS := sk_ne (by decide)
  have g5 : ¬ sk manyS = sk freshS := sk_ne (by decide)
  have f3 : ¬ sk numsS = sk knownS := sk_ne (by decide)
  have f4 : ¬ sk numsS = sk waysS := sk_ne (by decide)
  have f5 : ¬ sk numsS = sk freshS := sk_ne (by decide)
  have e4 : ¬ sk knownS = sk waysS := sk_ne (by decide)
  have e5 : ¬ sk knownS = sk freshS := sk_ne (by decide)
  have d5 : ¬ sk waysS = sk freshS := sk_ne (by decide)
  unfold mergeD putD
  simp only [List.foldl_cons, List.foldl_nil, List.any_cons, List.any_nil, decide_eq_false h1, decide_eq_false h2, decide_eq_false h3, decide_eq_false h4, decide_eq_false h5, decide_eq_false g2, decide_eq_false g3, decide_eq_false g4, decide_eq_false g5, decide_eq_false f3, decide_eq_false f4, decide_eq_false f5, decide_eq_false e4, decide_eq_false e5, decide_eq_false d5, Bool.or_false, if_neg Bool.false_ne_true, List.nil_append, List.cons_append]
  rfl
theorem SAt.ext {ω ω' : Om} {q : Addr} {B : SA} {S : HS} (h : SAt ω q B S) (x : Ext ω ω') : SAt ω' q B S := ⟨x _ _ h.o, x _ _ h.held, x _ _ h.nums, x _ _ h.known, x _ _ h.ways, h.nd⟩
section
variable {ω : Om} {q : Addr} {B : SA} {S : HS}
theorem SAt.nd5 (h : SAt ω q B S) : (q ≠ B.bh ∧ q ≠ B.bn ∧ q ≠ B.bk ∧ q ≠ B.bw) ∧ (B.bh ≠ B.bn ∧ B.bh ≠ B.bk ∧ B.bh ≠ B.bw) ∧ (B.bn ≠ B.bk ∧ B.bn ≠ B.bw) ∧ B.bk ≠ B.bw := by
  have := h.nd
  simp only [SA.all, List.nodup_cons, List.mem_cons, List.not_mem_nil, or_false, not_or, List.nodup_nil, and_true, not_false_eq_true] at this
  exact ⟨this.1, this.2.1, this.2.2.1, this.2.2.2⟩
theorem SAt.keep {ω' : Om} {L : List Addr} (h : SAt ω q B S) (k : HKeep L ω ω') (d : ∀ x ∈ B.all q, x ∉ L) : SAt ω' q B S :=
  ⟨k _ _ h.o (d _ (by simp [SA.all])), k _ _ h.held (d _ (by simp [SA.all])), k _ _ h.nums (d _ (by simp [SA.all])), k _ _ h.known (d _ (by simp [SA.all])), k _ _ h.ways (d _ (by simp [SA.all])), h.nd⟩
theorem SAt.putHeld (h : SAt ω q B S) (key : List Nat) (x : List Nat × Nat) : SAt (put ω B.bh (.dct (putD (asD heldD S.held) (sk key) (heldD x)))) q B { S with held := pk S.held key x } := by
  obtain ⟨⟨a1, a2, a3, a4⟩, ⟨b1, b2, b3⟩, ⟨c1, c2⟩, d1⟩ := h.nd5
  rw [putD_as heldD key x S.held]
  exact ⟨by rw [put_ne a1]; exact h.o, put_same, by rw [put_ne b1.symm]; exact h.nums, by rw [put_ne b2.symm]; exact h.known, by rw [put_ne b3.symm]; exact h.ways, h.nd⟩
theorem SAt.dropHeld (h : SAt ω q B S) (key : List Nat) : SAt (put ω B.bh (.dct (dropD (asD heldD S.held) (sk key)))) q B { S with held := dk S.held key } := by
  obtain ⟨⟨a1, a2, a3, a4⟩, ⟨b1, b2, b3⟩, ⟨c1, c2⟩, d1⟩ := h.nd5
  rw [dropD_as heldD key S.held]
  exact ⟨by rw [put_ne a1]; exact h.o, put_same, by rw [put_ne b1.symm]; exact h.nums, by rw [put_ne b2.symm]; exact h.known, by rw [put_ne b3.symm]; exact h.ways, h.nd⟩
theorem SAt.putNums (h : SAt ω q B S) (key : List Nat) (n : Nat) : SAt (put ω B.bn (.dct (putD (asD natD S.numbers) (sk key) (.int (n : Nat))))) q B { S with numbers := pk S.numbers key n } := by
  obtain ⟨⟨a1, a2, a3, a4⟩, ⟨b1, b2, b3⟩, ⟨c1, c2⟩, d1⟩ := h.nd5
  rw [show putD (asD natD S.numbers) (sk key) (.int (n : Nat)) = asD natD (pk S.numbers key n) from putD_as natD key n S.numbers]
  exact ⟨by rw [put_ne a2]; exact h.o, by rw [put_ne b1]; exact h.held, put_same, by rw [put_ne c1.symm]; exact h.known, by rw [put_ne c2.symm]; exact h.ways, h.nd⟩
theorem SAt.putKnown (h : SAt ω q B S) (key : List Nat) (a : Ans) : SAt (put ω B.bk (.dct (putD (asD anD S.known) (sk key) (anD a)))) q B { S with known := pk S.known key a } := by
  obtain ⟨⟨a1, a2, a3, a4⟩, ⟨b1, b2, b3⟩, ⟨c1, c2⟩, d1⟩ := h.nd5
  rw [putD_as anD key a S.known]
  exact ⟨by rw [put_ne a3]; exact h.o, by rw [put_ne b2]; exact h.held, by rw [put_ne c1]; exact h.nums, put_same, by rw [put_ne d1.symm]; exact h.ways, h.nd⟩
theorem SAt.putWays (h : SAt ω q B S) (key t : List Nat) : SAt (put ω B.bw (.dct (putD (asD D.str S.ways) (sk key) (.str t)))) q B { S with ways := pk S.ways key t } := by
  obtain ⟨⟨a1, a2, a3, a4⟩, ⟨b1, b2, b3⟩, ⟨c1, c2⟩, d1⟩ := h.nd5
  rw [putD_as D.str key t S.ways]
  exact ⟨by rw [put_ne a4]; exact h.o, by rw [put_ne b3]; exact h.held, by rw [put_ne c2]; exact h.nums, by rw [put_ne d1]; exact h.known, put_same, h.nd⟩
theorem SAt.many1 (h : SAt ω q B S) : SAt (put ω q (.dct (putD (sFs B S) (sk manyS) (.int ((S.many : Int) + 1))))) q B { S with many := S.many + 1 } := by
  obtain ⟨⟨a1, a2, a3, a4⟩, ⟨b1, b2, b3⟩, ⟨c1, c2⟩, d1⟩ := h.nd5
  rw [show putD (sFs B S) (sk manyS) (.int ((S.many : Int) + 1)) = sFs B { S with many := S.many + 1 } from sF_putMany B S (S.many + 1)]
  exact ⟨put_same, by rw [put_ne a1.symm]; exact h.held, by rw [put_ne a2.symm]; exact h.nums, by rw [put_ne a3.symm]; exact h.known, by rw [put_ne a4.symm]; exact h.ways, h.nd⟩
end
theorem sF_len (B : SA) (S : HS) : (sFs B S).length < sizeLine := by
  have hbig : sizeLine = 16777216 := sizeLine_eq
  show 6 < sizeLine
  omega
theorem sm_q (B : SA) (q : Addr) : q ∈ B.all q := by simp [SA.all]
theorem sm_h (B : SA) (q : Addr) : B.bh ∈ B.all q := by simp [SA.all]
theorem sm_n (B : SA) (q : Addr) : B.bn ∈ B.all q := by simp [SA.all]
theorem sm_k (B : SA) (q : Addr) : B.bk ∈ B.all q := by simp [SA.all]
theorem sm_w (B : SA) (q : Addr) : B.bw ∈ B.all q := by simp [SA.all]
theorem fig_tab : ∀ k, k < 1000 → isFig (TL.numL k) 3 = true := by decide +kernel
theorem fig_back1 : ∀ x, x < 10 → TL.numL (NumText.digitsVal [48 + x]) = [48 + x] := by decide +kernel
theorem fig_back2 : ∀ x, x < 10 → ∀ y, y < 10 → x ≠ 0 → TL.numL (NumText.digitsVal [48 + x, 48 + y]) = [48 + x, 48 + y] := by decide +kernel
theorem fig_back3 : ∀ x, x < 10 → ∀ y, y < 10 → ∀ z, z < 10 → x ≠ 0 → TL.numL (NumText.digitsVal [48 + x, 48 + y, 48 + z]) = [48 + x, 48 + y, 48 + z] ∧ NumText.digitsVal [48 + x, 48 + y, 48 + z] < 1000 := by decide +kernel
theorem fig_val1 : ∀ x, x < 10 → NumText.digitsVal [48 + x] < 1000 := by decide +kernel
theorem fig_val2 : ∀ x, x < 10 → ∀ y, y < 10 → NumText.digitsVal [48 + x, 48 + y] < 1000 := by decide +kernel
theorem dig_ex {c : Nat} (h : isDig c = true) : ∃ x, x < 10 ∧ c = 48 + x := by
  simp [isDig] at h
  exact ⟨c - 48, by omega, by omega⟩
theorem fig_num {l : List Nat} (h : isFig l 3 = true) : TL.numL (NumText.digitsVal l) = l ∧ NumText.digitsVal l < 1000 := by
  have h1 := fig_int h
  have h0 := h
  unfold isFig at h0
  simp only [Bool.and_eq_true, Bool.or_eq_true, Bool.not_eq_true', decide_eq_true_eq, decide_eq_false_iff_not] at h0
  obtain ⟨h2, h3⟩ := h0
  match l, h1, h3 with
  | [c], h1, _ =>
    obtain ⟨x, hx, rfl⟩ := dig_ex (c := c) (by simpa using h1.1)
    exact ⟨fig_back1 x hx, fig_val1 x hx⟩
  | [c, d], h1, h3 =>
    have h4 : isDig c = true ∧ isDig d = true := by simpa using h1.1
    obtain ⟨x, hx, rfl⟩ := dig_ex h4.1
    obtain ⟨y, hy, rfl⟩ := dig_ex h4.2
    have : x ≠ 0 := fun e => by subst e; simp at h3
    exact ⟨fig_back2 x hx y hy this, fig_val2 x hx y hy⟩
  | [c, d, e], h1, h3 =>
    have h4 : isDig c = true ∧ isDig d = true ∧ isDig e = true := by simpa using h1.1
    obtain ⟨x, hx, rfl⟩ := dig_ex h4.1
    obtain ⟨y, hy, rfl⟩ := dig_ex h4.2.1
    obtain ⟨z, hz, rfl⟩ := dig_ex h4.2.2
    have : x ≠ 0 := fun e => by subst e; simp at h3
    exact fig_back3 x hx y hy z hz this
  | _ :: _ :: _ :: _ :: _, h1, _ => simp at h1
  | [], h1, _ => exact absurd rfl h1.2.1
theorem partL_back {c : Nat} {t : List Nat} (h : (partL [c] t).2.1 ≠ []) : t = (partL [c] t).1 ++ [c] ++ (partL [c] t).2.2 := by
  by_cases hm : c ∈ t
  · obtain ⟨a, b, rfl, ha⟩ := List.eq_append_cons_of_mem hm
    rw [partL_hit b ha]
    simp
  · rw [partL_no hm] at h
    exact absurd rfl h
theorem part_hit {a b m : Nat} (hab : a ≤ b) (hb : b < 1000) (ha : a < m) : partF (TL.numL a ++ [45] ++ TL.numL b) m = some (a, min b (m - 1)) := by
  have e : partL [45] (TL.numL a ++ [45] ++ TL.numL b) = (TL.numL a, [45], TL.numL b) := by
    rw [List.append_assoc]
    exact partL_hit _ (num_free (by omega))
  unfold partF
  rw [e]
  simp only []
  rw [if_neg (by decide), if_neg (by rw [fig_tab a (by omega)]; decide), if_neg (by rw [fig_tab b hb]; decide), TL.numL_val, TL.numL_val, if_neg (by omega), if_neg (by omega)]
theorem part_found {t : List Nat} {m : Nat} {x : Nat × Nat} (h : partF t m = some x) : ∃ a b, t = TL.numL a ++ [45] ++ TL.numL b ∧ a ≤ b ∧ b < 1000 ∧ a < m := by
  unfold partF at h
  split at h
  · cases h
  split at h
  · cases h
  split at h
  · cases h
  split at h
  · cases h
  split at h
  · cases h
  · rename_i h1 h2 h3 h4 h5
    have f1 := fig_num (l := (partL [45] t).1) (by cases e : isFig (partL [45] t).1 3 with | true => rfl | false => exact absurd e h2)
    have f2 := fig_num (l := (partL [45] t).2.2) (by cases e : isFig (partL [45] t).2.2 3 with | true => rfl | false => exact absurd e h3)
    refine ⟨NumText.digitsVal (partL [45] t).1, NumText.digitsVal (partL [45] t).2.2, ?_, by omega, f2.2, by omega⟩
    rw [f1.1, f2.1]
    exact partL_back h1
def mixF (c p m : Int) : Int := (c * 48271 % p) ^ (3 : Int).toNat % p % m
theorem mixF_lo {c p m : Int} (h : 0 < m) : 0 ≤ mixF c p m := Int.emod_nonneg _ (by omega)
theorem mixF_hi {c p m : Int} (h : 0 < m) : mixF c p m < m := Int.emod_lt_of_pos _ h
theorem okAn_pl {a : Ans} (h : okAn a) : pl 12 (anD a) = true := ans_pl h
def thingD (S : HS) (k : List Nat) : D := .tup [.str k, .str ((lk S.held k).getD ([], 0)).1, .str (markF S k)]
theorem held_keys (S : HS) : (asD heldD S.held).map (·.1) = (S.held.map (·.1)).map fun k => Sum.inr (SX.S k) := by
  unfold asD
  rw [List.map_map, List.map_map]
  rfl
theorem lk_of_mem {α : Type} {l : As α} {k : List Nat} (h : k ∈ l.map (·.1)) : ∃ a, lk l k = some a := by
  obtain ⟨x, hx, rfl⟩ := List.mem_map.mp h
  have := lk_any l x.1
  rw [List.any_eq_true.mpr ⟨x, hx, by simp⟩] at this
  cases e : lk l x.1 with
  | none => rw [e] at this; cases this
  | some a => exact ⟨a, rfl⟩
theorem thing_pl {S : HS} {k : Nat} (h : HOk S k) {j : List Nat} (hj : j ∈ S.held.map (·.1)) : pl 12 (thingD S j) = true := by
  obtain ⟨x, ex⟩ := lk_of_mem hj
  have hx := h.lk ex
  obtain ⟨y, hy, rfl⟩ := List.mem_map.mp hj
  have hk := h.key y hy
  show (pl 11 (.str y.1) && (pl 11 (.str ((lk S.held y.1).getD ([], 0)).1) && (pl 11 (.str (markF S y.1)) && true))) = true
  rw [ex, pl_okS 11 hk.2, show pl 11 (.str ((some x).getD ([], 0)).1) = true from pl_okS 11 hx.2.1, pl_okS 11 (markF_ok S y.1)]
  rfl
abbrev aP : List Nat := [97]
def sixP : List (List (List Nat) × List Hd) := [([aP], []), ([], []), ([aP, [49]], []), ([aP], [([98], [])]), ([aP, aP, aP, aP, aP], []), ([aP, [50]], [])]
def placeF (s : Int) : List (List Nat) × List Hd := sixP.getD (s % 6).toNat ([], [])
theorem six_ok : ∀ x ∈ sixP, x.1.length ≤ 5 ∧ x.2.length ≤ 4 ∧ x.1.all okPart = true ∧ x.2.all okAsk = true := by decide
theorem place_mem (s : Int) : placeF s ∈ sixP := by
  have h1 : 0 ≤ s % 6 := Int.emod_nonneg _ (by decide)
  have h2 : s % 6 < 6 := Int.emod_lt_of_pos _ (by decide)
  unfold placeF
  have : ∀ k, k < 6 → sixP.getD k ([], []) ∈ sixP := by decide
  exact this _ (by omega)
theorem place_ok (s : Int) : (placeF s).1.length ≤ 5 ∧ (placeF s).2.length ≤ 4 ∧ (placeF s).1.all okPart = true ∧ (placeF s).2.all okAsk = true := six_ok _ (place_mem s)
theorem place_at (s : Int) : atI (sixP.map fun x => pathD x.1 x.2) (s % 6) = some (pathD (placeF s).1 (placeF s).2) := by
  have h1 : 0 ≤ s % 6 := Int.emod_nonneg _ (by decide)
  have h2 : s % 6 < 6 := Int.emod_lt_of_pos _ (by decide)
  obtain ⟨k, hk⟩ := Int.eq_ofNat_of_zero_le h1
  unfold placeF
  rw [hk]
  refine atI_nat ?_
  rw [Int.toNat_natCast]
  have hk6 : k < 6 := by omega
  have : k = 0 ∨ k = 1 ∨ k = 2 ∨ k = 3 ∨ k = 4 ∨ k = 5 := by omega
  rcases this with rfl | rfl | rfl | rfl | rfl | rfl <;> rfl
def deedNames : List (List Nat) := [[97], onceS, unlessS, onlyS, partS]
def DeedH (hs : List Hd) (j : Nat) : Prop := hs.length ≤ j ∧ hs.all okH = true ∧ ∀ x ∈ hs, x.1 ∈ deedNames
theorem DeedH.app {hs : List Hd} {j : Nat} {x : Hd} (h : DeedH hs j) (hx : okH x = true) (hn : x.1 ∈ deedNames) : DeedH (hs ++ [x]) (j + 1) := by
  refine ⟨by rw [List.length_append, List.length_singleton]; have := h.1; omega, by rw [List.all_append, h.2.1, List.all_cons, hx]; rfl, fun y m => ?_⟩
  rcases List.mem_append.mp m with m | m
  · exact h.2.2 y m
  · rw [List.mem_singleton.mp m]; exact hn
theorem DeedH.more {hs : List Hd} {j i : Nat} (h : DeedH hs j) (l : j ≤ i) : DeedH hs i := ⟨Nat.le_trans h.1 l, h.2⟩
theorem DeedH.start {n : Int} (h0 : 0 ≤ n) (h2 : n < 2) : ∃ hs : List Hd, (List.replicate n.toNat [hdD ([97], [98])]).flatten = hs.map hdD ∧ DeedH hs 1 := by
  have : n = 0 ∨ n = 1 := by omega
  rcases this with rfl | rfl
  · exact ⟨[], rfl, by decide, rfl, fun _ m => nomatch m⟩
  · exact ⟨[([97], [98])], rfl, by decide, by decide, by decide⟩
theorem okH_markF {S : HS} {k : Nat} (h : HOk S k) (hk : k ≤ 900) (j : List Nat) {n : List Nat} (hn : hnL n = true) (h18 : (30 : Int) ≤ hvM n) : okH (n, markF S j) = true := by
  have hl := markF_len h hk j
  have e : ∀ c, c ∈ markF S j → c ≠ 10 ∧ c ≠ 32 := fun c m => by
    unfold markF at m
    split at m
    · rcases List.mem_cons.mp m with rfl | m
      · decide
      · have := TL.numL_digits _ c m
        omega
    · simp at m
      omega
  exact okH_free hn (by omega) (markF_ok S j) (fun m => (e 10 m).1 rfl) (fun m => (e 32 m).2 rfl)
theorem okH_span {a b : Int} (ha : 0 ≤ a) (ha2 : a < 100) (hb : 0 ≤ b) (hb2 : b < 100) : okH (partS, TL.numL a.toNat ++ [45] ++ TL.numL b.toNat) = true := by
  have h1 := Q2.numL_len (n := a.toNat) (k := 3) (by omega) (by decide)
  have h2 := Q2.numL_len (n := b.toNat) (k := 3) (by omega) (by decide)
  refine okH_free (by decide) ?_ ?_ ?_ ?_
  · show ((TL.numL a.toNat ++ [45] ++ TL.numL b.toNat).length : Int) ≤ 30
    simp only [List.length_append, List.length_cons, List.length_nil]
    omega
  · rw [okT_app, okT_app, num_T1, num_T1]
    rfl
  · simp [num_free (n := a.toNat) (c := 10) (by omega), num_free (n := b.toNat) (c := 10) (by omega)]
  · simp [num_free (n := a.toNat) (c := 32) (by omega), num_free (n := b.toNat) (c := 32) (by omega)]
theorem okH_999 {a : Int} (ha : 0 ≤ a) (ha2 : a < 100) : okH (partS, TL.numL a.toNat ++ [45, 57, 57, 57]) = true := by
  have h1 := Q2.numL_len (n := a.toNat) (k := 3) (by omega) (by decide)
  refine okH_free (by decide) ?_ ?_ ?_ ?_
  · show ((TL.numL a.toNat ++ [45, 57, 57, 57]).length : Int) ≤ 30
    simp only [List.length_append, List.length_cons, List.length_nil]
    omega
  · rw [okT_app, num_T1]
    rfl
  · simp [num_free (n := a.toNat) (c := 10) (by omega)]
  · simp [num_free (n := a.toNat) (c := 32) (by omega)]
theorem put_none {ω : Om} {a b : Addr} {m : MO} (h : put ω a m b = none) : b ≠ a ∧ ω b = none := by
  by_cases e : b = a
  · subst e
    rw [put_same] at h
    cases h
  · rw [put_ne e] at h
    exact ⟨e, h⟩
theorem ext_put {ω ω1 : Om} {p : Addr} {m : MO} (h : Ext ω ω1) : Ext (put ω p m) (put ω1 p m) := fun b u e => by
  by_cases hb : b = p
  · subst hb
    rw [put_same] at e ⊢
    exact e
  · rw [put_ne hb] at e ⊢
    exact h b u e
theorem ext_none {ω ω1 : Om} {p : Addr} (h : Ext ω ω1) (n : ω1 p = none) : ω p = none := by
  cases e : ω p with
  | none => rfl
  | some m => rw [h _ _ e] at n; cases n
theorem ext_keep {ω ω1 ω2 : Om} {L : List Addr} (a : Ext ω ω1) (b : HKeep L ω1 ω2) (n : ∀ x ∈ L, ω x = none) : Ext ω ω2 := fun x m e => b x m (a x m e) fun z => by rw [n x z] at e; cases e
theorem hds_inj : ∀ {hs gs : List Hd}, hs.map hdD = gs.map hdD → hs = gs := fun h => hs_inj h
theorem Msg.inj {m n : Msg} (h : m.D = n.D) : m = n := by
  cases m with
  | mk w ps as hs b =>
    cases n with
    | mk w2 ps2 as2 hs2 b2 =>
      have h1 := D.tup.inj h
      simp only [List.cons.injEq, D.str.injEq, and_true] at h1
      obtain ⟨e1, e2, e3, e4⟩ := h1
      obtain ⟨f1, f2⟩ := pathD_inj (ps := ps) (qs := ps2) (as := as) (bs := as2) e2
      have f3 := hsD_inj e3
      subst e1
      subst f1
      subst f2
      subst f3
      subst e4
      rfl
theorem HAt.addrs {C : Addr} {ω : Om} {p : Addr} {A : HA} {S : HS} (h : HAt C ω p A S) : ∀ x ∈ A.all p, ω x ≠ none := fun x m => by
  simp only [HA.all, List.mem_cons, List.not_mem_nil, or_false] at m
  rcases m with rfl | rfl | rfl | rfl | rfl
  · rw [h.o]; exact fun e => nomatch e
  · rw [h.held]; exact fun e => nomatch e
  · rw [h.nums]; exact fun e => nomatch e
  · rw [h.known]; exact fun e => nomatch e
  · rw [h.ways]; exact fun e => nomatch e
theorem SAt.addrs {ω : Om} {p : Addr} {A : SA} {S : HS} (h : SAt ω p A S) : ∀ x ∈ A.all p, ω x ≠ none := fun x m => by
  simp only [SA.all, List.mem_cons, List.not_mem_nil, or_false] at m
  rcases m with rfl | rfl | rfl | rfl | rfl
  · rw [h.o]; exact fun e => nomatch e
  · rw [h.held]; exact fun e => nomatch e
  · rw [h.nums]; exact fun e => nomatch e
  · rw [h.known]; exact fun e => nomatch e
  · rw [h.ways]; exact fun e => nomatch e
theorem house_made {C : Addr} {ω : Om} {p dx p3 p5 p7 p9 : Addr} {n : Nat} {i1 i2 i3 i4 i5 i6 : MO} (np4 : put ω p i1 p3 = none) (np6 : put (put (put (put ω p i1) p3 (.dct [])) p i2) p i3 p5 = none)
    (np8 : put (put (put (put (put (put ω p i1) p3 (.dct [])) p i2) p i3) p5 (.dct [])) p i4 p7 = none) (np10 : put (put (put (put (put (put (put (put ω p i1) p3 (.dct [])) p i2) p i3) p5 (.dct [])) p i4) p7 (.dct [])) p i5 p9 = none)
    (e6 : i6 = .ins C dx (hFs ⟨dx, p3, p5, p7, p9⟩ (HS.new n))) :
    HAt C (put (put (put (put (put (put (put (put (put (put ω p i1) p3 (.dct [])) p i2) p i3) p5 (.dct [])) p i4) p7 (.dct [])) p i5) p9 (.dct [])) p i6) p ⟨dx, p3, p5, p7, p9⟩ (HS.new n) ∧
    HKeep [p] ω (put (put (put (put (put (put (put (put (put (put ω p i1) p3 (.dct [])) p i2) p i3) p5 (.dct [])) p i4) p7 (.dct [])) p i5) p9 (.dct [])) p i6) ∧ ω p3 = none ∧ ω p5 = none ∧ ω p7 = none ∧ ω p9 = none := by
  obtain ⟨a1, a2⟩ := put_none np4
  obtain ⟨b1, b2⟩ := put_none np6
  obtain ⟨_, b3⟩ := put_none b2
  obtain ⟨b4, b5⟩ := put_none b3
  obtain ⟨_, b6⟩ := put_none b5
  obtain ⟨c1, c2⟩ := put_none np8
  obtain ⟨c3, c4⟩ := put_none c2
  obtain ⟨_, c5⟩ := put_none c4
  obtain ⟨_, c6⟩ := put_none c5
  obtain ⟨c7, c8⟩ := put_none c6
  obtain ⟨_, c9⟩ := put_none c8
  obtain ⟨d1, d2⟩ := put_none np10
  obtain ⟨d3, d4⟩ := put_none d2
  obtain ⟨_, d5⟩ := put_none d4
  obtain ⟨d6, d7⟩ := put_none d5
  obtain ⟨_, d8⟩ := put_none d7
  obtain ⟨_, d9⟩ := put_none d8
  obtain ⟨d10, d11⟩ := put_none d9
  obtain ⟨_, d12⟩ := put_none d11
  refine ⟨⟨by rw [put_same, e6], ?_, ?_, ?_, ?_, ?_⟩, ?_, a2, b6, c9, d12⟩
  · show _ = some (MO.dct [])
    rw [put_ne a1, put_ne d10.symm, put_ne a1, put_ne c7.symm, put_ne a1, put_ne b4.symm, put_ne a1, put_ne a1, put_same]
  · show _ = some (MO.dct [])
    rw [put_ne b1, put_ne d6.symm, put_ne b1, put_ne c3.symm, put_ne b1, put_same]
  · show _ = some (MO.dct [])
    rw [put_ne c1, put_ne d3.symm, put_ne c1, put_same]
  · show _ = some (MO.dct [])
    rw [put_ne d1, put_same]
  · simp only [HA.all, List.nodup_cons, List.mem_cons, List.not_mem_nil, or_false, not_or, List.nodup_nil, and_true, not_false_eq_true]
    exact ⟨⟨a1.symm, b1.symm, c1.symm, d1.symm⟩, ⟨b4.symm, c7.symm, d10.symm⟩, ⟨c3.symm, d6.symm⟩, d3.symm⟩
  · intro b m e n
    have hb : b ≠ p := fun z => n (List.mem_singleton.mpr z)
    have f : ∀ {x : Addr}, ω x = none → b ≠ x := fun h z => by rw [z, h] at e; cases e
    rw [put_ne hb, put_ne (f d12), put_ne hb, put_ne (f c9), put_ne hb, put_ne (f b6), put_ne hb, put_ne hb, put_ne (f a2), put_ne hb]
    exact e
theorem state_made {ω : Om} {q b1 b2 b3 b4 : Addr} {n : Nat} (h0 : ω q = none) (h1 : put ω q (.dct []) b1 = none) (h2 : put (put ω q (.dct [])) b1 (.dct []) b2 = none) (h3 : put (put (put ω q (.dct [])) b1 (.dct [])) b2 (.dct []) b3 = none) (h4 : put (put (put (put ω q (.dct [])) b1 (.dct [])) b2 (.dct [])) b3 (.dct []) b4 = none) :
    SAt (put (put (put (put (put (put ω q (.dct [])) b1 (.dct [])) b2 (.dct [])) b3 (.dct [])) b4 (.dct [])) q (.dct (mergeD [] [(sk heldS, .ref b1), (sk manyS, .int 0), (sk numsS, .ref b2), (sk knownS, .ref b3), (sk waysS, .ref b4), (sk freshS, .int (n : Nat))]))) q ⟨b1, b2, b3, b4⟩ (HS.new n) ∧
    Ext ω (put (put (put (put (put (put ω q (.dct [])) b1 (.dct [])) b2 (.dct [])) b3 (.dct [])) b4 (.dct [])) q (.dct (mergeD [] [(sk heldS, .ref b1), (sk manyS, .int 0), (sk numsS, .ref b2), (sk knownS, .ref b3), (sk waysS, .ref b4), (sk freshS, .int (n : Nat))]))) ∧
    (∀ x ∈ SA.all ⟨b1, b2, b3, b4⟩ q, ω x = none) := by
  obtain ⟨x1, y1⟩ := put_none h1
  obtain ⟨x2, y2⟩ := put_none h2
  obtain ⟨x3, y3⟩ := put_none y2
  obtain ⟨x4, y4⟩ := put_none h3
  obtain ⟨x5, y5⟩ := put_none y4
  obtain ⟨x6, y6⟩ := put_none y5
  obtain ⟨x7, y7⟩ := put_none h4
  obtain ⟨x8, y8⟩ := put_none y7
  obtain ⟨x9, y9⟩ := put_none y8
  obtain ⟨x10, y10⟩ := put_none y9
  have e : mergeD [] [(sk heldS, .ref b1), (sk manyS, .int 0), (sk numsS, .ref b2), (sk knownS, .ref b3), (sk waysS, .ref b4), (sk freshS, .int (n : Nat))] = sFs ⟨b1, b2, b3, b4⟩ (HS.new n) := sF_new ⟨b1, b2, b3, b4⟩ n
  rw [e]
  refine ⟨⟨put_same, ?_, ?_, ?_, ?_, ?_⟩, ?_, ?_⟩
  · show _ = some (MO.dct [])
    rw [put_ne x1, put_ne x9.symm, put_ne x5.symm, put_ne x2.symm, put_same]
  · show _ = some (MO.dct [])
    rw [put_ne x3, put_ne x8.symm, put_ne x4.symm, put_same]
  · show _ = some (MO.dct [])
    rw [put_ne x6, put_ne x7.symm, put_same]
  · show _ = some (MO.dct [])
    rw [put_ne x10, put_same]
  · simp only [SA.all, List.nodup_cons, List.mem_cons, List.not_mem_nil, or_false, not_or, List.nodup_nil, and_true, not_false_eq_true]
    exact ⟨⟨x1.symm, x3.symm, x6.symm, x10.symm⟩, ⟨x2.symm, x5.symm, x9.symm⟩, ⟨x4.symm, x8.symm⟩, x7.symm⟩
  · exact Ext.mut (Ext.mut (Ext.mut (Ext.mut (Ext.mut (Ext.mut (Ext.refl _) h0) y1) y3) y6) y10) h0
  · intro x m
    simp only [SA.all, List.mem_cons, List.not_mem_nil, or_false] at m
    rcases m with rfl | rfl | rfl | rfl | rfl
    · exact h0
    · exact y1
    · exact y3
    · exact y6
    · exact y10
theorem things_eq {S : HS} {ys : List (List Nat)} : (((ys.map D.str).filter fun _ => true).map fun d => thingD S (strOf d)) = ys.map (thingD S) := by
  rw [filter_true, List.map_map]
  rfl
theorem cell_nn (a : Int) (b : Int) (h : 0 < b) : ∃ n : Nat, a % b = (n : Int) ∧ (n : Int) < b := ⟨(a % b).toNat, (Int.toNat_of_nonneg (Int.emod_nonneg _ (by omega))).symm, by rw [Int.toNat_of_nonneg (Int.emod_nonneg _ (by omega))]; exact Int.emod_lt_of_pos _ h⟩
theorem things_pl {S : HS} {k : Nat} (h : HOk S k) {ys : List (List Nat)} (hy : ys.Perm (S.held.map (·.1))) : (ys.map (thingD S)).all (pl 12) = true := by
  rw [List.all_map]
  refine List.all_eq_true.mpr fun j m => thing_pl h (hy.mem_iff.mp m)
theorem due_eq {S : HS} {ys : List (List Nat)} : (((ys.map D.str).filter fun _ => true).map fun d => thingD S (strOf d)) = ys.map (thingD S) := things_eq
theorem disj_new {ω ω' : Om} {L M : List Addr} (h : ∀ x ∈ L, ω x ≠ none) (g : ∀ x ∈ M, ω x = none) : ∀ x ∈ L, x ∉ M := fun x m n => h x m (g x n)
theorem disj_sym {L M : List Addr} (h : ∀ x ∈ L, x ∉ M) : ∀ x ∈ M, x ∉ L := fun x m n => h x n m
end Aw
namespace Aw
open PySem PySem.Spec L2 Q2 SX
theorem valO_cons (x : Hd) (r : List Hd) (k : List Nat) : valO (x :: r) k = if x.1 = k then some x.2 else valO r k := by
  unfold valO
  rw [List.find?_cons]
  by_cases h : x.1 = k <;> simp [h]
theorem valO_nil (k : List Nat) : valO [] k = none := rfl
theorem valO_without {n k : List Nat} : ∀ hs : List Hd, valO (withoutH hs n) k = if k = n then none else valO hs k
  | [] => by simp [withoutH, valO]
  | x :: r => by
    have ih := valO_without (n := n) (k := k) r
    unfold withoutH at ih ⊢
    by_cases e : x.1 = n
    · rw [List.filter_cons_of_neg (by simp [e]), ih, valO_cons]
      by_cases h : k = n
      · rw [if_pos h, if_pos h]
      · rw [if_neg h, if_neg h, if_neg (fun z => h (z.symm.trans e))]
    · rw [List.filter_cons_of_pos (by simp [e]), valO_cons, ih, valO_cons]
      by_cases h : k = n
      · subst h
        rw [if_pos rfl, if_pos rfl, if_neg e]
      · rw [if_neg h, if_neg h]
theorem valO_putF {n t k : List Nat} : ∀ hs : List Hd, valO (putF n t hs false) k = if k = n then some t else valO hs k
  | [] => by
    show valO [(n, t)] k = _
    rw [valO_cons]
    by_cases h : k = n
    · subst h; simp
    · rw [if_neg (Ne.symm h), if_neg h]
  | x :: r => by
    by_cases e : x.1 = n
    · show valO (if x.1 = n then (n, t) :: putF n t r true else x :: putF n t r false) k = _
      rw [if_pos e, valO_cons, putF_true, valO_without, valO_cons]
      by_cases h : k = n
      · subst h; simp
      · rw [if_neg (Ne.symm h), if_neg h, if_neg h, if_neg (fun z => h (z.symm.trans e))]
    · show valO (if x.1 = n then (n, t) :: putF n t r true else x :: putF n t r false) k = _
      rw [if_neg e, valO_cons, valO_putF r, valO_cons]
      by_cases h : k = n
      · subst h
        rw [if_neg e, if_pos rfl, if_pos rfl]
      · rw [if_neg h, if_neg h]
theorem valO_put (hs : List Hd) (n t k : List Nat) : valO (putH hs n t) k = if k = n then some t else valO hs k := valO_putF hs
theorem putF_len {n t : List Nat} : ∀ (hs : List Hd) (d : Bool), (putF n t hs d).length ≤ hs.length + 1
  | [], true => Nat.zero_le _
  | [], false => Nat.le_refl _
  | x :: r, d => by
    have h1 := putF_len (n := n) (t := t) r true
    have h2 := putF_len (n := n) (t := t) r d
    show (if x.1 = n then (if d then putF n t r true else (n, t) :: putF n t r true) else x :: putF n t r d).length ≤ _
    have h3 : (putF n t r true).length ≤ r.length := by
      rw [putF_true]
      exact List.length_filter_le _ _
    split
    · split
      · rw [List.length_cons]; omega
      · rw [List.length_cons, List.length_cons]; omega
    · rw [List.length_cons, List.length_cons]; omega
theorem putH_len (hs : List Hd) (n t : List Nat) : (putH hs n t).length ≤ hs.length + 1 := putF_len hs false
theorem withoutH_len (hs : List Hd) (n : List Nat) : (withoutH hs n).length ≤ hs.length := List.length_filter_le _ _
def HS.wk (S : HS) (K : As Ans) : HS := { S with known := K }
theorem mark_wk (S : HS) (K : As Ans) (k : List Nat) : markF (S.wk K) k = markF S k := rfl
theorem add_wk (S : HS) (K : As Ans) (ps : List (List Nat)) (as : List Hd) : addN (S.wk K) ps as = addN S ps as := rfl
theorem done_wk (S : HS) (K : As Ans) (m : Msg) : doneF (S.wk K) m = ((doneF S m).1, (doneF S m).2.wk K) := by
  unfold doneF
  show (match lk S.ways m.key with
    | some t => _
    | none => _) = _
  cases lk S.ways m.key with
  | some t => rfl
  | none =>
    show (if m.w = getS then (getF S m.key m.hs, S.wk K) else if valO m.hs onlyS ≠ none ∧ valO m.hs onlyS ≠ some (markF S m.key) then ((412, [], []), S.wk K) else if m.w = putS then putFn (S.wk K) m.key m.b else if m.w = dropS then dropFn (S.wk K) m.key else addFn (S.wk K) m.ps m.as m.b) = _
    simp only []
    by_cases h1 : m.w = getS
    · rw [if_pos h1, if_pos h1]
    rw [if_neg h1, if_neg h1]
    by_cases h2 : valO m.hs onlyS ≠ none ∧ valO m.hs onlyS ≠ some (markF S m.key)
    · rw [if_pos h2, if_pos h2]
    rw [if_neg h2, if_neg h2]
    by_cases h3 : m.w = putS
    · rw [if_pos h3, if_pos h3]; rfl
    rw [if_neg h3, if_neg h3]
    by_cases h4 : m.w = dropS
    · rw [if_pos h4, if_pos h4]
      unfold dropFn
      show (match lk S.held m.key with
        | none => _
        | some _ => _) = _
      cases lk S.held m.key <;> rfl
    rw [if_neg h4, if_neg h4]
    unfold addFn
    by_cases h5 : m.ps.length = 5
    · rw [if_pos h5, if_pos h5]
    rw [if_neg h5, if_neg h5]
    rfl
theorem get_heads (S : HS) (k : List Nat) {hs gs : List Hd} (h1 : valO hs unlessS = valO gs unlessS) (h2 : valO hs partS = valO gs partS) : getF S k hs = getF S k gs := by
  unfold getF
  rw [h1, h2]
theorem done_heads (S : HS) {m n : Msg} (hw : m.w = n.w) (hp : m.ps = n.ps) (ha : m.as = n.as) (hb : m.b = n.b) (h1 : valO m.hs unlessS = valO n.hs unlessS) (h2 : valO m.hs partS = valO n.hs partS) (h3 : valO m.hs onlyS = valO n.hs onlyS) : doneF S m = doneF S n := by
  unfold doneF Msg.key
  rw [hw, hp, ha, hb, h3, get_heads S (textP n.ps n.as) h1 h2]
theorem ask_plain (S : HS) {m : Msg} (h : valO m.hs onceS = none) : askFn S m = doneF S m := by
  unfold askFn
  rw [h]
theorem ask_new (S : HS) (K : As Ans) {m : Msg} {o : List Nat} (h : valO m.hs onceS = some o) (hk : lk K o = none) : askFn (S.wk K) m = ((doneF S m).1, (doneF S m).2.wk (pk K o (doneF S m).1)) := by
  have hk2 : lk (S.wk K).known o = none := hk
  unfold askFn
  rw [h]
  simp only []
  rw [hk2, done_wk]
  rfl
theorem ask_old (S : HS) (K : As Ans) {m : Msg} {o : List Nat} {a : Ans} (h : valO m.hs onceS = some o) (hk : lk K o = some a) : askFn (S.wk K) m = (a, S.wk K) := by
  have hk2 : lk (S.wk K).known o = some a := hk
  unfold askFn
  rw [h]
  simp only []
  rw [hk2]
theorem HOk.wk {S : HS} {k : Nat} (h : HOk S k) {K : As Ans} (hl : K.length ≤ k) (ho : ∀ x ∈ K, okAn x.2) : HOk (S.wk K) k := { h with
  klen := hl
  known := ho }
theorem done_known {S : HS} {m : Msg} : (doneF S m).2.known = S.known := by
  unfold doneF
  split
  · rfl
  split
  · rfl
  split
  · rfl
  split
  · rfl
  split
  · unfold dropFn
    split <;> rfl
  · unfold addFn
    split <;> rfl
theorem wk_self (S : HS) : S.wk S.known = S := rfl
def Msg.plain (m : Msg) : Msg := { m with hs := withoutH m.hs onceS }
def Msg.once (m : Msg) (o : List Nat) : Msg := { m with hs := putH (withoutH m.hs onceS) onceS o }
theorem plain_once (m : Msg) : valO m.plain.hs onceS = none := by
  show valO (withoutH m.hs onceS) onceS = none
  rw [valO_without, if_pos rfl]
theorem once_once (m : Msg) (o : List Nat) : valO (m.once o).hs onceS = some o := by
  show valO (putH _ _ _) onceS = _
  rw [valO_put, if_pos rfl]
theorem once_done (S : HS) (m : Msg) (o : List Nat) : doneF S (m.once o) = doneF S m.plain :=
  done_heads S rfl rfl rfl rfl (by show valO (putH _ _ _) _ = _; rw [valO_put, if_neg (by decide)]; rfl) (by show valO (putH _ _ _) _ = _; rw [valO_put, if_neg (by decide)]; rfl) (by show valO (putH _ _ _) _ = _; rw [valO_put, if_neg (by decide)]; rfl)
theorem plain_ok {m : Msg} (h : m.ok) : m.plain.ok := by
  obtain ⟨m1, m2, m3, m4, m5, m6, m7, m8, m9⟩ := h
  exact ⟨m1, m2, m3, m4, m5, Nat.le_trans (withoutH_len _ _) m6, without_ok _ m7, m8, m9⟩
theorem once_ok {m : Msg} (h : m.ok) {o : List Nat} (ho : okH (onceS, o) = true) (hl : m.hs.length ≤ 7) : (m.once o).ok := by
  obtain ⟨m1, m2, m3, m4, m5, m6, m7, m8, m9⟩ := h
  refine ⟨m1, m2, m3, m4, m5, ?_, putH_ok ho (without_ok _ m7), m8, m9⟩
  have h1 := putH_len (withoutH m.hs onceS) onceS o
  have h2 := withoutH_len m.hs onceS
  show (putH (withoutH m.hs onceS) onceS o).length ≤ 8
  omega
def kN (i : Nat) : List Nat := 107 :: TL.numL i
theorem kN_inj {i j : Nat} (h : kN i = kN j) : i = j := TL.numL_inj (List.cons.inj h).2
theorem okH_kN {i : Nat} (h : i < 10 ^ 8) : okH (onceS, kN i) = true := by
  have h1 := Q2.numL_len h (by decide)
  refine okH_free (by decide) ?_ ?_ ?_ ?_
  · show ((107 :: TL.numL i).length : Int) ≤ 30
    rw [List.length_cons]
    omega
  · show (isT1 107 && okT (TL.numL i)) = true
    rw [num_T1]
    rfl
  · intro m
    rcases List.mem_cons.mp m with h | h
    · cases h
    · exact num_free (by omega) h
  · intro m
    rcases List.mem_cons.mp m with h | h
    · cases h
    · exact num_free (by omega) h
theorem atI_ex {α : Type} {l : List α} {i : Int} (h0 : 0 ≤ i) (h1 : i < l.length) : ∃ (j : Nat) (x : α), l[j]? = some x ∧ atI l i = some x := by
  obtain ⟨j, rfl⟩ := Int.eq_ofNat_of_zero_le h0
  have hj : j < l.length := by omega
  exact ⟨j, l[j], by simp [hj], atI_nat (by simp [hj])⟩
abbrev itemD (x : Msg × Ans) : D := .tup [x.1.D, anD x.2]
def Asked (K : As Ans) (items : List (Msg × Ans)) (i : Nat) : Prop := items.length = i ∧ (∀ (j : Nat) (x : Msg × Ans), items[j]? = some x → x.1.ok ∧ valO x.1.hs onceS = some (kN j) ∧ lk K (kN j) = some x.2 ∧ okAn x.2) ∧ ∀ j, i ≤ j → lk K (kN j) = none
theorem Asked.start : Asked [] [] 0 := ⟨rfl, (fun j x h => by simp at h), fun _ _ => rfl⟩
theorem Asked.step {K : As Ans} {items : List (Msg × Ans)} {i : Nat} (h : Asked K items i) {m : Msg} {a : Ans} (hm : m.ok) (ho : valO m.hs onceS = some (kN i)) (ha : okAn a) : Asked (pk K (kN i) a) (items ++ [(m, a)]) (i + 1) := by
  refine ⟨by rw [List.length_append, h.1]; rfl, fun j x e => ?_, fun j hj => ?_⟩
  · by_cases hj : j < i
    · rw [List.getElem?_append_left (by rw [h.1]; exact hj)] at e
      obtain ⟨h1, h2, h3, h4⟩ := h.2.1 j x e
      refine ⟨h1, h2, ?_, h4⟩
      rw [lk_pk, if_neg (fun z => by have := kN_inj z; omega)]
      exact h3
    · have hl := (List.getElem?_eq_some_iff.mp e).1
      rw [List.length_append, h.1, List.length_singleton] at hl
      have : j = i := by omega
      subst this
      rw [List.getElem?_append_right (by rw [h.1]; exact Nat.le_refl _), h.1, Nat.sub_self] at e
      cases e
      exact ⟨hm, ho, by rw [lk_pk, if_pos rfl], ha⟩
  · rw [lk_pk, if_neg (fun z => by have := kN_inj z; omega)]
    exact h.2.2 j (by omega)
theorem atI_map {α β : Type} {f : α → β} {l : List α} {i : Int} {x : α} (h : atI l i = some x) : atI (l.map f) i = some (f x) := by
  unfold atI at h ⊢
  rw [List.length_map]
  cases e : ixN l.length i with
  | none => rw [e] at h; cases h
  | some j =>
    rw [e] at h
    show (l.map f)[j]? = some (f x)
    rw [List.getElem?_map, show l[j]? = some x from h]
    rfl
end Aw
namespace Aw
open PySem PySem.Spec L2 Q2 SX
def namedAt (wd : List Nat) (i : Nat) (m : Msg) : Msg := { m with hs := putH m.hs onceS (wd ++ TL.numL i) }
def namedFrom (wd : List Nat) : Nat → List Msg → List Msg
  | _, [] => []
  | i, m :: r => namedAt wd i m :: namedFrom wd (i + 1) r
def namedF (ms : List Msg) (wd : List Nat) : List Msg := namedFrom wd 0 ms
theorem namedFrom_len (wd : List Nat) : ∀ (i : Nat) (ms : List Msg), (namedFrom wd i ms).length = ms.length
  | _, [] => rfl
  | i, m :: r => by rw [namedFrom, List.length_cons, namedFrom_len wd (i + 1) r, List.length_cons]
theorem namedFrom_at (wd : List Nat) : ∀ (i j : Nat) (ms : List Msg), (namedFrom wd i ms)[j]? = (ms[j]?).map (namedAt wd (i + j))
  | _, _, [] => by simp [namedFrom]
  | i, 0, m :: r => by simp [namedFrom]
  | i, j + 1, m :: r => by
    rw [namedFrom, List.getElem?_cons_succ, namedFrom_at wd (i + 1) j r, List.getElem?_cons_succ, show i + 1 + j = i + (j + 1) by omega]
theorem named_len (ms : List Msg) (wd : List Nat) : (namedF ms wd).length = ms.length := namedFrom_len wd 0 ms
theorem named_at (ms : List Msg) (wd : List Nat) (j : Nat) : (namedF ms wd)[j]? = (ms[j]?).map (namedAt wd j) := by
  have := namedFrom_at wd 0 j ms
  rw [Nat.zero_add] at this
  exact this
theorem named_take {ms : List Msg} {wd : List Nat} {i : Nat} {m : Msg} (h : ms[i]? = some m) : (namedF ms wd).take (i + 1) = (namedF ms wd).take i ++ [namedAt wd i m] := by
  rw [List.take_add_one, named_at, h]
  rfl
def Fits (ms : List Msg) (wd : List Nat) : Prop := ∀ (i : Nat) (m : Msg), ms[i]? = some m → (namedAt wd i m).hs.length ≤ 8
def WordOk (wd : List Nat) : Prop := 1 ≤ wd.length ∧ wd.length ≤ 8 ∧ okT wd = true ∧ 10 ∉ wd ∧ 32 ∉ wd
theorem word_okH {wd : List Nat} (h : WordOk wd) {i : Nat} (hi : i < 10 ^ 8) : okH (onceS, wd ++ TL.numL i) = true := by
  obtain ⟨h1, h2, h3, h4, h5⟩ := h
  have h6 := Q2.numL_len hi (by decide)
  refine okH_free (by decide) ?_ ?_ ?_ ?_
  · show ((wd ++ TL.numL i).length : Int) ≤ 30
    rw [List.length_append]
    omega
  · rw [okT_app, h3, num_T1]
    rfl
  · intro m
    rcases List.mem_append.mp m with m | m
    · exact h4 m
    · exact num_free (by omega) m
  · intro m
    rcases List.mem_append.mp m with m | m
    · exact h5 m
    · exact num_free (by omega) m
def wordD (w : D) : Bool := isHValD onceS w && (match w with
  | .str s => decide (1 ≤ s.length) && decide (s.length ≤ 8)
  | _ => false)
theorem word_ok {wd : List Nat} (h : WordOk wd) : wordD (.str wd) = true := by
  obtain ⟨h1, h2, h3, h4, h5⟩ := h
  have h6 : okH (onceS, wd) = true := okH_free (by decide) (by show (wd.length : Int) ≤ 30; omega) h3 h4 h5
  unfold okH at h6
  rw [Bool.and_eq_true] at h6
  show (hvL onceS wd && (decide (1 ≤ wd.length) && decide (wd.length ≤ 8))) = true
  rw [h6.2, decide_eq_true h1, decide_eq_true h2]
  rfl
def isAsksD (d : D) : Bool := match d with
  | .tup ds => decide (ds.length ≤ 9) && ds.all isAskingD
  | _ => false
theorem askings_of : ∀ {ds : List D}, ds.all isAskingD = true → ∃ ms : List Msg, ds = ms.map Msg.D ∧ ∀ m ∈ ms, m.ok
  | [], _ => ⟨[], rfl, fun _ m => nomatch m⟩
  | d :: r, h => by
    rw [List.all_cons, Bool.and_eq_true] at h
    obtain ⟨m, rfl, hm⟩ := isAsking_of h.1
    obtain ⟨ms, rfl, hms⟩ := askings_of h.2
    refine ⟨m :: ms, rfl, fun x hx => ?_⟩
    rcases List.mem_cons.mp hx with rfl | hx
    · exact hm
    · exact hms x hx
theorem asks_all {ms : List Msg} (h : ∀ m ∈ ms, m.ok) : (ms.map Msg.D).all isAskingD = true := by
  rw [List.all_map]
  exact List.all_eq_true.mpr fun m hm => msg_ok (h m hm)
theorem isAsks_ok {ms : List Msg} (hl : ms.length ≤ 9) (h : ∀ m ∈ ms, m.ok) : isAsksD (.tup (ms.map Msg.D)) = true := by
  show (decide ((ms.map Msg.D).length ≤ 9) && (ms.map Msg.D).all isAskingD) = true
  rw [asks_all h, List.length_map, decide_eq_true hl]
  rfl
theorem asks_kn (ω : Om) (ms : List Msg) : kn ω (.tup (ms.map Msg.D)) = true := kns_of fun d m => by
  obtain ⟨x, _, rfl⟩ := List.mem_map.mp m
  exact msg_kn _ _ _ _ _ _
theorem msgs_inj : ∀ {ms ns : List Msg}, ms.map Msg.D = ns.map Msg.D → ms = ns
  | [], [], _ => rfl
  | m :: ms, n :: ns, h => by
    rw [List.map_cons, List.map_cons] at h
    obtain ⟨h1, h2⟩ := List.cons.inj h
    rw [Msg.inj h1, msgs_inj h2]
  | [], _ :: _, h => by cases h
  | _ :: _, [], h => by cases h
def isWaysD (d : D) : Bool := match d with
  | .tup ds => decide (ds.length ≤ 40) && ds.all fun d => withinD d 0 3
  | _ => false
abbrev waysD (ws : List Nat) : D := .tup (ws.map fun w => .int (w : Nat))
theorem ways_ok {ws : List Nat} (hl : ws.length ≤ 40) (h : ∀ w ∈ ws, w ≤ 3) : isWaysD (waysD ws) = true := by
  show (decide ((ws.map fun w => D.int (w : Nat)).length ≤ 40) && (ws.map fun w => D.int (w : Nat)).all fun d => withinD d 0 3) = true
  rw [List.length_map, decide_eq_true hl, List.all_map]
  refine List.all_eq_true.mpr fun w m => ?_
  have := h w m
  show (decide (0 ≤ (w : Int)) && decide ((w : Int) ≤ 3)) = true
  rw [decide_eq_true (by omega), decide_eq_true (by omega)]
  rfl
theorem ways_kn (ω : Om) (ws : List Nat) : kn ω (waysD ws) = true := kns_of fun d m => by
  obtain ⟨x, _, rfl⟩ := List.mem_map.mp m
  rfl
def stAt (S : HS) (ms : List Msg) : Nat → HS
  | 0 => S
  | i + 1 => match ms[i]? with
    | some m => (askFn (stAt S ms i) m).2
    | none => stAt S ms i
def ansAt (S : HS) (ms : List Msg) (i : Nat) : Ans := match ms[i]? with
  | some m => (askFn (stAt S ms i) m).1
  | none => (0, [], [])
theorem stAt_succ {S : HS} {ms : List Msg} {i : Nat} {m : Msg} (h : ms[i]? = some m) : stAt S ms (i + 1) = (askFn (stAt S ms i) m).2 := by
  show (match ms[i]? with
    | some m => (askFn (stAt S ms i) m).2
    | none => stAt S ms i) = _
  rw [h]
theorem ansAt_eq {S : HS} {ms : List Msg} {i : Nat} {m : Msg} (h : ms[i]? = some m) : ansAt S ms i = (askFn (stAt S ms i) m).1 := by
  unfold ansAt
  rw [h]
theorem stAt_ok {S : HS} {k : Nat} (h : HOk S k) {ms : List Msg} (hm : ∀ m ∈ ms, m.ok) : ∀ i, k + i ≤ 900 → HOk (stAt S ms i) (k + i)
  | 0, _ => h
  | i + 1, hk => by
    have ih := stAt_ok h hm i (by omega)
    show HOk (match ms[i]? with
    | some m => (askFn (stAt S ms i) m).2
    | none => stAt S ms i) (k + (i + 1))
    cases e : ms[i]? with
    | none => exact ih.mono (by omega)
    | some m => exact (ih.ask (by omega) (hm m (List.mem_of_getElem? e))).1
theorem ansAt_ok {S : HS} {k : Nat} (h : HOk S k) {ms : List Msg} (hm : ∀ m ∈ ms, m.ok) {i : Nat} (hi : i < ms.length) (hk : k + i ≤ 900) : okAn (ansAt S ms i) := by
  have e : ms[i]? = some ms[i] := by simp [hi]
  rw [ansAt_eq e]
  exact ((stAt_ok h hm i hk).ask hk (hm _ (List.mem_of_getElem? e))).2.1
theorem ask_again (S : HS) {m : Msg} {o : List Nat} (h : valO m.hs onceS = some o) : askFn (askFn S m).2 m = ((askFn S m).1, (askFn S m).2) := by
  unfold askFn
  rw [h]
  simp only []
  cases e : lk S.known o with
  | some a =>
    simp only []
    rw [e]
  | none =>
    simp only []
    rw [lk_pk, if_pos rfl]
def triesL : List Nat → Nat × List Nat
  | [] => (1, [])
  | w :: r => if w = 1 ∨ w = 2 then ((triesL r).1 + 1, (triesL r).2) else (1, r)
def leftAt (ws : List Nat) : Nat → List Nat
  | 0 => ws
  | i + 1 => (triesL (leftAt ws i)).2
def tryAt (ws : List Nat) (i : Nat) : Nat := (triesL (leftAt ws i)).1
theorem tries_len : ∀ ws : List Nat, (triesL ws).2.length ≤ ws.length ∧ (triesL ws).1 ≤ ws.length + 1
  | [] => ⟨Nat.le_refl _, Nat.le_refl _⟩
  | w :: r => by
    have := tries_len r
    show (if w = 1 ∨ w = 2 then ((triesL r).1 + 1, (triesL r).2) else (1, r)).2.length ≤ (w :: r).length ∧ (if w = 1 ∨ w = 2 then ((triesL r).1 + 1, (triesL r).2) else (1, r)).1 ≤ (w :: r).length + 1
    rw [List.length_cons]
    split
    · simp only []; omega
    · simp only []; omega
theorem left_len (ws : List Nat) : ∀ i, (leftAt ws i).length ≤ ws.length
  | 0 => Nat.le_refl _
  | i + 1 => Nat.le_trans (tries_len _).1 (left_len ws i)
theorem tries_skip {w : Nat} {r : List Nat} (h : w = 1 ∨ w = 2) : triesL (w :: r) = ((triesL r).1 + 1, (triesL r).2) := if_pos h
theorem tries_hit {w : Nat} {r : List Nat} (h : ¬ (w = 1 ∨ w = 2)) : triesL (w :: r) = (1, r) := if_neg h
def wayOf (l : List Nat) : Nat := l.head?.getD 0
theorem tries_step (l : List Nat) : triesL l = if wayOf l = 1 ∨ wayOf l = 2 then ((triesL l.tail).1 + 1, (triesL l.tail).2) else (1, l.tail) := by
  cases l with
  | nil => rfl
  | cons w r => rfl
theorem way_drop {ws : List Nat} {n : Nat} (h : n < ws.length) : atI (ws.map fun w => D.int (w : Nat)) (n : Int) = some (.int ((wayOf (ws.drop n) : Nat) : Int)) := by
  refine atI_nat ?_
  rw [List.getElem?_map]
  unfold wayOf
  rw [List.head?_drop]
  have e : ws[n]? = some ws[n] := by simp [h]
  rw [e]
  rfl
theorem way_none {ws : List Nat} {n : Nat} (h : ws.length ≤ n) : wayOf (ws.drop n) = 0 := by
  unfold wayOf
  rw [List.drop_of_length_le h]
  rfl
theorem drop_tail {ws : List Nat} {n : Nat} : (ws.drop n).tail = ws.drop (n + 1) := by rw [List.tail_drop]
theorem way_le {ws : List Nat} (h : ∀ w ∈ ws, w ≤ 3) (n : Nat) : wayOf (ws.drop n) ≤ 3 := by
  unfold wayOf
  cases e : (ws.drop n).head? with
  | none => exact Nat.zero_le _
  | some w => exact h w (List.mem_of_mem_drop (List.mem_of_mem_head? e))
theorem named_ok {ms : List Msg} {wd : List Nat} (hw : WordOk wd) (hf : Fits ms wd) (hm : ∀ m ∈ ms, m.ok) (hl : ms.length ≤ 9) : ∀ m ∈ namedF ms wd, m.ok := fun x hx => by
  obtain ⟨i, hi⟩ := List.getElem?_of_mem hx
  rw [named_at] at hi
  cases e : ms[i]? with
  | none => rw [e] at hi; cases hi
  | some m =>
    rw [e] at hi
    cases hi
    have h1 := hm m (List.mem_of_getElem? e)
    have h2 := hf i m e
    have h3 := (List.getElem?_eq_some_iff.mp e).1
    obtain ⟨m1, m2, m3, m4, m5, m6, m7, m8, m9⟩ := h1
    exact ⟨m1, m2, m3, m4, m5, h2, putH_ok (word_okH hw (by omega)) m7, m8, m9⟩
theorem named_once (wd : List Nat) (i : Nat) (m : Msg) : valO (namedAt wd i m).hs onceS = some (wd ++ TL.numL i) := by
  show valO (putH _ _ _) _ = _
  rw [valO_put, if_pos rfl]
def sureD (S : HS) (ms : List Msg) (ws : List Nat) (j : Nat) : D := .tup [anD (ansAt S ms j), .int ((tryAt ws j : Nat) : Int)]
theorem keep_fin2 {ω ω' : Om} {p : Addr} (kp : Keep ω ω' p) (n : ω p = none) : Ext ω ω' := fun b m e => kp b m e fun z => by rw [z, n] at e; cases e
theorem hkeep_new {L : List Addr} {ω ω' : Om} {q : Addr} {m : MO} (h : HKeep L ω ω') (n : ω q = none) : HKeep L ω (put ω' q m) := fun b u e nb => by
  rw [put_ne (fun z => by rw [z, n] at e; cases e)]
  exact h b u e nb
theorem HAt.off {C : Addr} {ω : Om} {p : Addr} {A : HA} {S : HS} (h : HAt C ω p A S) {q : Addr} {m : MO} (n : q ∉ A.all p) : HAt C (put ω q m) p A S :=
  h.keep (L := [q]) (HKeep.refl.put (List.mem_singleton.mpr rfl)) fun x mx z => n (List.mem_singleton.mp z ▸ mx)
theorem SAt.off {ω : Om} {p : Addr} {A : SA} {S : HS} (h : SAt ω p A S) {q : Addr} {m : MO} (n : q ∉ A.all p) : SAt (put ω q m) p A S :=
  h.keep (L := [q]) (HKeep.refl.put (List.mem_singleton.mpr rfl)) fun x mx z => n (List.mem_singleton.mp z ▸ mx)
end Aw
namespace Aw
open PySem PySem.Spec L2 Q2 SX
theorem named_done (T : HS) (wd : List Nat) (i : Nat) (m : Msg) : doneF T (namedAt wd i m) = doneF T m :=
  done_heads T rfl rfl rfl rfl (by show valO (putH _ _ _) _ = _; rw [valO_put, if_neg (by decide)]) (by show valO (putH _ _ _) _ = _; rw [valO_put, if_neg (by decide)]) (by show valO (putH _ _ _) _ = _; rw [valO_put, if_neg (by decide)])
theorem wn_inj {wd : List Nat} {i j : Nat} (h : wd ++ TL.numL i = wd ++ TL.numL j) : i = j := TL.numL_inj (List.append_cancel_left h)
theorem once_run {T : HS} {K : As Ans} {ms : List Msg} {wd : List Nat} (hp : ∀ m ∈ ms, valO m.hs onceS = none) (hK : ∀ j, lk K (wd ++ TL.numL j) = none) : ∀ i, i ≤ ms.length → ∃ K', stAt (T.wk K) (namedF ms wd) i = (stAt T ms i).wk K' ∧ (∀ j, j < i → lk K' (wd ++ TL.numL j) = some (ansAt T ms j)) ∧ (∀ o, (∀ j, j < i → o ≠ wd ++ TL.numL j) → lk K' o = lk K o) ∧ (∀ j, j < i → ansAt (T.wk K) (namedF ms wd) j = ansAt T ms j) ∧ K'.length ≤ K.length + i ∧ (∀ x ∈ K', x ∈ K ∨ ∃ j, j < i ∧ x.2 = ansAt T ms j)
  | 0, _ => ⟨K, rfl, (fun j h => absurd h (Nat.not_lt_zero _)), fun _ _ => rfl, (fun j h => absurd h (Nat.not_lt_zero _)), Nat.le_refl _, fun x m => .inl m⟩
  | i + 1, hi => by
    obtain ⟨K', h1, h2, h3, h4, h5, h6⟩ := once_run hp hK i (by omega)
    have e : ms[i]? = some ms[i] := by simp [show i < ms.length by omega]
    generalize ms[i] = m at e
    have en : (namedF ms wd)[i]? = some (namedAt wd i m) := by rw [named_at, e]; rfl
    have hn : lk K' (wd ++ TL.numL i) = none := by
      rw [h3 _ fun j hj z => by have := wn_inj z; omega]
      exact hK i
    have ha := ask_new (stAt T ms i) K' (named_once wd i m) hn
    rw [named_done] at ha
    have hpl := ask_plain (stAt T ms i) (hp m (List.mem_of_getElem? e))
    refine ⟨pk K' (wd ++ TL.numL i) (doneF (stAt T ms i) m).1, ?_, fun j hj => ?_, fun o ho => ?_, fun j hj => ?_, ?_, fun x mx => ?_⟩
    · rw [stAt_succ en, stAt_succ e, h1, ha, hpl]
    · rw [lk_pk]
      rcases Nat.lt_or_eq_of_le (Nat.le_of_lt_succ hj) with h | h
      · rw [if_neg (fun z => by have := wn_inj z; omega)]
        exact h2 j h
      · subst h
        rw [if_pos rfl, ansAt_eq e, hpl]
    · rw [lk_pk, if_neg (ho i (Nat.lt_succ_self _))]
      exact h3 o fun j hj => ho j (by omega)
    · rcases Nat.lt_or_eq_of_le (Nat.le_of_lt_succ hj) with h | h
      · exact h4 j h
      · subst h
        rw [ansAt_eq en, ansAt_eq e, h1, ha, hpl]
    · have := pk_len K' (wd ++ TL.numL i) (doneF (stAt T ms i) m).1
      omega
    · rcases pk_mem mx with mx | rfl
      · rcases h6 x mx with h | ⟨j, hj, h⟩
        · exact .inl h
        · exact .inr ⟨j, by omega, h⟩
      · exact .inr ⟨i, Nat.lt_succ_self _, by rw [ansAt_eq e, hpl]⟩
theorem once_again {T : HS} {K : As Ans} {ms : List Msg} {wd : List Nat} {a : Nat → Ans} (h : ∀ j, j < ms.length → lk K (wd ++ TL.numL j) = some (a j)) : ∀ i, i ≤ ms.length → stAt (T.wk K) (namedF ms wd) i = T.wk K ∧ ∀ j, j < i → ansAt (T.wk K) (namedF ms wd) j = a j
  | 0, _ => ⟨rfl, fun j h => absurd h (Nat.not_lt_zero _)⟩
  | i + 1, hi => by
    obtain ⟨h1, h2⟩ := once_again (T := T) h i (by omega)
    have e : ms[i]? = some ms[i] := by simp [show i < ms.length by omega]
    generalize ms[i] = m at e
    have en : (namedF ms wd)[i]? = some (namedAt wd i m) := by rw [named_at, e]; rfl
    have ha := ask_old T K (named_once wd i m) (h i (by omega))
    refine ⟨by rw [stAt_succ en, h1, ha], fun j hj => ?_⟩
    rcases Nat.lt_or_eq_of_le (Nat.le_of_lt_succ hj) with h' | h'
    · exact h2 j h'
    · subst h'
      rw [ansAt_eq en, h1, ha]
theorem stAt_app1 (T : HS) (ms ns : List Msg) : ∀ i, i ≤ ms.length → stAt T (ms ++ ns) i = stAt T ms i
  | 0, _ => rfl
  | i + 1, hi => by
    have ih := stAt_app1 T ms ns i (by omega)
    have e : ms[i]? = some ms[i] := by simp [show i < ms.length by omega]
    have e2 : (ms ++ ns)[i]? = some ms[i] := by rw [List.getElem?_append_left (by omega), e]
    rw [stAt_succ e, stAt_succ e2, ih]
theorem stAt_app2 (T : HS) (ms ns : List Msg) : ∀ i, i ≤ ns.length → stAt T (ms ++ ns) (ms.length + i) = stAt (stAt T ms ms.length) ns i
  | 0, _ => stAt_app1 T ms ns _ (Nat.le_refl _)
  | i + 1, hi => by
    have ih := stAt_app2 T ms ns i (by omega)
    have e : ns[i]? = some ns[i] := by simp [show i < ns.length by omega]
    have e2 : (ms ++ ns)[ms.length + i]? = some ns[i] := by
      rw [List.getElem?_append_right (by omega), Nat.add_sub_cancel_left, e]
    rw [← Nat.add_assoc, stAt_succ e2, stAt_succ e, ih]
theorem ansAt_app1 (T : HS) (ms ns : List Msg) {i : Nat} (hi : i < ms.length) : ansAt T (ms ++ ns) i = ansAt T ms i := by
  have e : ms[i]? = some ms[i] := by simp [hi]
  have e2 : (ms ++ ns)[i]? = some ms[i] := by rw [List.getElem?_append_left (by omega), e]
  rw [ansAt_eq e, ansAt_eq e2, stAt_app1 T ms ns i (by omega)]
theorem ansAt_app2 (T : HS) (ms ns : List Msg) {i : Nat} (hi : i < ns.length) : ansAt T (ms ++ ns) (ms.length + i) = ansAt (stAt T ms ms.length) ns i := by
  have e : ns[i]? = some ns[i] := by simp [hi]
  have e2 : (ms ++ ns)[ms.length + i]? = some ns[i] := by
    rw [List.getElem?_append_right (by omega), Nat.add_sub_cancel_left, e]
  rw [ansAt_eq e, ansAt_eq e2, stAt_app2 T ms ns i (by omega)]
theorem plain_fits {ms : List Msg} {wd : List Nat} (h : ∀ m ∈ ms, m.hs.length ≤ 5) : Fits ms wd := fun i m e => by
  have h1 := h m (List.mem_of_getElem? e)
  have h2 := putH_len m.hs onceS (wd ++ TL.numL i)
  show (putH _ _ _).length ≤ 8
  omega
theorem range_map_len {α : Type} (f : Nat → α) (n : Nat) : ((List.range n).map f).length = n := by rw [List.length_map, List.length_range]
theorem range_congr {α : Type} {f g : Nat → α} {n : Nat} (h : ∀ j, j < n → f j = g j) : (List.range n).map f = (List.range n).map g := List.map_congr_left fun j hj => h j (List.mem_range.mp hj)
theorem range_app {α : Type} (f : Nat → α) (m n : Nat) : (List.range (m + n)).map f = (List.range m).map f ++ (List.range n).map fun j => f (m + j) := by
  rw [List.range_add, List.map_append, List.map_map]
  rfl
theorem cutD_to (xs : List D) (k : Nat) : cutD xs none (some (k : Int)) = xs.take k := by
  unfold cutD
  rw [HT.sIx_none, HT.sIx_nat]
  simp
theorem cutD_from (xs : List D) (k : Nat) : cutD xs (some (k : Int)) none = xs.drop k := by
  unfold cutD
  rw [HT.sIx_none, HT.sIx_nat, List.take_of_length_le (by rw [List.length_drop]; omega)]
  by_cases h : k ≤ xs.length
  · rw [Nat.min_eq_left h]
  · rw [Nat.min_eq_right (by omega), List.drop_length, List.drop_of_length_le (by omega)]
def fst0 : D → D
  | .tup (x :: _) => x
  | d => d
theorem fst0_sure (S : HS) (ms : List Msg) (ws : List Nat) (j : Nat) : fst0 (sureD S ms ws j) = anD (ansAt S ms j) := rfl
theorem oneN (j i : Nat) : ([111, 110, 101] : List Nat) ++ TL.numL j ≠ [116, 119, 111] ++ TL.numL i := fun h => by
  have := (List.cons.inj h).1
  cases this
theorem wok_one : WordOk [111, 110, 101] := ⟨by decide, by decide, by decide, by decide, by decide⟩
theorem wok_two : WordOk [116, 119, 111] := ⟨by decide, by decide, by decide, by decide, by decide⟩
theorem wok_w : WordOk [119] := ⟨by decide, by decide, by decide, by decide, by decide⟩
theorem answers_pl {f : Nat → Ans} {n : Nat} (h : ∀ j, j < n → okAn (f j)) : ((List.range n).map fun j => anD (f j)).all (pl 12) = true := by
  rw [List.all_map]
  exact List.all_eq_true.mpr fun j m => okAn_pl (h j (List.mem_range.mp m))
structure Twice (ms1 ms2 : List Msg) (T1 T2 : HS) (K1 K2 : As Ans) : Prop where
  t1 : stAt (HS.new 7) ms1 ms1.length = T1
  t2 : stAt T1 ms2 ms2.length = T2
  s1 : stAt (HS.new 7) (namedF ms1 [111, 110, 101]) ms1.length = T1.wk K1
  s2 : stAt (T1.wk K1) (namedF ms2 [116, 119, 111]) ms2.length = T2.wk K2
  a1 : ∀ j, j < ms1.length → ansAt (HS.new 7) (namedF ms1 [111, 110, 101]) j = ansAt (HS.new 7) ms1 j
  a2 : ∀ j, j < ms2.length → ansAt (T1.wk K1) (namedF ms2 [116, 119, 111]) j = ansAt T1 ms2 j
  k1 : ∀ j, j < ms1.length → lk K2 ([111, 110, 101] ++ TL.numL j) = some (ansAt (HS.new 7) ms1 j)
  k2 : ∀ j, j < ms2.length → lk K2 ([116, 119, 111] ++ TL.numL j) = some (ansAt T1 ms2 j)
theorem twice {ms1 ms2 : List Msg} (h1 : ∀ m ∈ ms1, valO m.hs onceS = none) (h2 : ∀ m ∈ ms2, valO m.hs onceS = none) : ∃ T1 T2 K1 K2, Twice ms1 ms2 T1 T2 K1 K2 := by
  obtain ⟨K1, e1, b1, c1, d1, _⟩ := once_run (T := HS.new 7) (K := []) (wd := [111, 110, 101]) h1 (fun _ => rfl) ms1.length (Nat.le_refl _)
  obtain ⟨K2, e2, b2, c2, d2, _⟩ := once_run (T := stAt (HS.new 7) ms1 ms1.length) (K := K1) (wd := [116, 119, 111]) h2 (fun j => by
    rw [c1 _ fun i _ => (oneN i j).symm]; rfl) ms2.length (Nat.le_refl _)
  exact ⟨_, _, K1, K2, rfl, rfl, e1, e2, d1, d2, fun j hj => by rw [c2 _ fun i _ => oneN j i]; exact b1 j hj, b2⟩
def AllI (P : Nat → D → Prop) : Nat → List D → Prop
  | _, [] => True
  | k, d :: r => P k d ∧ AllI P (k + 1) r
theorem allI_app {P : Nat → D → Prop} : ∀ {k : Nat} {a b : List D}, AllI P k a → AllI P (k + a.length) b → AllI P k (a ++ b)
  | _, [], _, _, h => h
  | k, d :: r, b, h, g => ⟨h.1, allI_app h.2 (by rw [List.length_cons, show k + (r.length + 1) = k + 1 + r.length by omega] at g; exact g)⟩
theorem allI_get {P : Nat → D → Prop} : ∀ {k j : Nat} {ds : List D} {d : D}, AllI P k ds → ds[j]? = some d → P (k + j) d
  | _, _, [], _, _, e => by simp at e
  | k, 0, x :: r, d, h, e => by simp at e; subst e; exact h.1
  | k, j + 1, x :: r, d, h, e => by
    have := allI_get (k := k + 1) (j := j) h.2 (by simpa using e)
    rw [show k + 1 + j = k + (j + 1) by omega] at this
    exact this
theorem gi_allI {X : Cx} {H0 : Hp} {ρ : Rho} {ω : Om} {a : Addr} {ds : List D} {i : Int} {Q : QE} (P : Om → Nat → D → Prop) (F : Om → Prop) (ha : ω a = some (.lst ds)) (n : Nat) (hi : i = (n : Int)) (hn : n < ds.length) (hF : F ω) (hp : AllI (P ω) 0 ds) (q : ∀ ω' d, F ω' → P ω' n d → Q d ω') : GI X H0 ρ (.ref a) (.int i) ω Q := by
  subst hi
  have e : ds[n]? = some ds[n] := by simp [hn]
  refine gi_lst ha (atI_nat e) (q ω _ hF ?_)
  have := allI_get hp e
  rw [Nat.zero_add] at this
  exact this
theorem inV_ints (i : Int) : ∀ is : List Int, inV (V.int i) (is.map V.int) = decide (i ∈ is)
  | [] => rfl
  | x :: r => by
    show ((x == i) || inV (V.int i) (r.map V.int)) = _
    rw [inV_ints i r, Bool.eq_iff_iff]
    simp only [Bool.or_eq_true, beq_iff_eq, decide_eq_true_eq, List.mem_cons]
    exact or_congr ⟨fun h => h.symm, fun h => h.symm⟩ Iff.rfl
theorem gb_inI {X : Cx} {H0 : Hp} {ρ : Rho} {ω : Om} {i : Int} {is : List Int} {Q : QE} (q : Q (.bl (decide (i ∈ is))) ω) : GB X H0 ρ (compareOp .In) (.int i) (.tup (is.map D.int)) ω Q := fun σ H u w R hx hy => by
  have hu := im_int hx
  subst hu
  obtain ⟨a, xs, rfl, h1, r1⟩ := im_tup hy
  rw [r1.ints] at h1
  refine ro_of op_in_seq ⟨a, _, rfl, .inr h1, rfl, ?_, ?_⟩
  · rw [List.all_map]
    exact List.all_eq_true.mpr fun _ _ => rfl
  · rw [if_neg Bool.false_ne_true]
    rw [inV_ints]
    exact vp0 R (.bl _) q
def fullM : Msg := ⟨getS, [], [], List.replicate 8 ([97], [98]), []⟩
theorem full_ok : fullM.ok := by
  refine ⟨by decide, by decide, by decide, by decide, by decide, by decide, by decide, by decide, by decide⟩
theorem full_nofit {ms : List Msg} {wd : List Nat} : ¬ Fits (ms ++ [fullM]) wd := fun h => by
  have h1 := h ms.length fullM (by simp)
  have : ∀ t : List Nat, (putH fullM.hs onceS t).length = 9 := fun t => rfl
  have h2 : (putH fullM.hs onceS (wd ++ TL.numL ms.length)).length ≤ 8 := h1
  rw [this] at h2
  omega
theorem isAsks_bad {ds : List D} {d : D} (m : d ∈ ds) (h : isAskingD d = false) : isAsksD (.tup ds) = false := by
  show (decide (ds.length ≤ 9) && ds.all isAskingD) = false
  have : ds.all isAskingD = false := by
    rw [List.all_eq_false]
    exact ⟨d, m, by rw [h]; decide⟩
  rw [this, Bool.and_false]
def Refuse (ω : Om) (num : Bool) (w s z : D) : Prop := kn ω s = true ∧ kn ω w = true ∧ kn ω z = true ∧
  (num = false → (isAsksD s && wordD w) = false ∨ ∃ ms wd, s = .tup (ms.map Msg.D) ∧ w = .str wd ∧ ms.length ≤ 9 ∧ (∀ m ∈ ms, m.ok) ∧ WordOk wd ∧ ¬ Fits ms wd) ∧
  (num = true → ∃ ms wd, s = .tup (ms.map Msg.D) ∧ w = .str wd ∧ ms.length ≤ 9 ∧ (∀ m ∈ ms, m.ok) ∧ WordOk wd ∧ Fits ms wd ∧ isWaysD z = false)
def numI (j : Nat) : Bool := decide (4 < j) && decide (j < 9)
def RefuseI (ω : Om) (j : Nat) (d : D) : Prop := ∃ w s z, d = .tup [w, s, z] ∧ Refuse ω (numI j) w s z
theorem ref_ask {ω : Om} {j : Nat} {w s z : D} (hj : numI j = false) (h1 : kn ω s = true) (h2 : kn ω w = true) (h3 : kn ω z = true) (h : (isAsksD s && wordD w) = false) : RefuseI ω j (.tup [w, s, z]) := ⟨w, s, z, rfl, h1, h2, h3, fun _ => .inl h, fun e => by rw [hj] at e; cases e⟩
theorem ref_num {ω : Om} {j : Nat} {ms : List Msg} {wd : List Nat} {z : D} (hj : numI j = true) (g1 : ms.length ≤ 9) (g2 : ∀ m ∈ ms, m.ok) (g3 : WordOk wd) (g4 : Fits ms wd) (h3 : kn ω z = true) (h : isWaysD z = false) : RefuseI ω j (.tup [.str wd, .tup (ms.map Msg.D), z]) := ⟨_, _, z, rfl, asks_kn _ _, rfl, h3, (fun e => by rw [hj] at e; cases e), fun _ => ⟨ms, wd, rfl, rfl, g1, g2, g3, g4, h⟩⟩
theorem range_at {α : Type} {f : Nat → α} {n i : Nat} {d : α} (h : ((List.range n).map f)[i]? = some d) : i < n ∧ d = f i := by
  have hi := (List.getElem?_eq_some_iff.mp h).1
  rw [List.length_map, List.length_range] at hi
  rw [List.getElem?_map, List.getElem?_range hi] at h
  cases h
  exact ⟨hi, rfl⟩
end Aw
namespace Q2
open PySem PySem.Spec L2
section
variable {X : Cx} {H0 : Hp} {ρ : Rho} {ω ω' : Om} {P : GP}
theorem ge_dsetd {o e f : Expr} {apos cpos : Pos} {Q : QE} (h : GE X H0 o ρ ω fun d ω1 => ∃ a, d = .ref a ∧ (∃ kvs, ω1 a = some (.dct kvs)) ∧ GE X H0 e ρ ω1 fun kd ω2 => GE X H0 f ρ ω2 fun z ω3 => ∃ kvs k, ω3 a = some (.dct kvs) ∧ keyD kd = some k ∧ kvs.length < sizeLine ∧ (∀ v, valD kvs k = some v → Q v ω3) ∧ (valD kvs k = none → Q z (put ω3 a (.dct (putD kvs k z)))))
    (hb : attributeBase o "setdefault" X.env (eval o X.env) = eval o X.env := by rfl)
    (hf : ((backTo cpos (starEach [e, f] X.env)).all (fun x => !x.1) && (backToKw cpos (keywordEach [] X.env)).all (fun x => x.1.isSome) && decide (([e, f] : List Expr).length + ([] : List Keyword).length + (if ([] : List Keyword).isEmpty then 0 else 1) < 30)) = true := by rfl)
    (hl : (apos.endLine == cpos.line) = true := by rfl) (ht : backTo cpos (starEach [e, f] X.env) = [(false, eval e X.env), (false, eval f X.env)] := by rfl) : GE X H0 (.Call (.Attribute o "setdefault" apos) [e, f] [] cpos) ρ ω Q := fun σ H R =>
  we_of (pe_dsetd pe_we pe_we pe_we ⟨hb, hf, hl, ht⟩) (thnE (h σ H R) fun x H1 ⟨t1, d, ω1, R1, i1, a, e1, ⟨kvs, w⟩, h1⟩ => by
    subst e1
    cases i1
    obtain ⟨gs0, g0, _⟩ := R1.hr _ _ w
    refine ⟨a, rfl, .inl ⟨gs0, .inl g0⟩, thnE (h1 σ H1 R1) fun y H2 ⟨t2, kd, ω2, R2, i2, h2⟩ => thnE (h2 σ H2 R2) fun z H3 ⟨t3, zd, ω3, R3, i3, kvs3, k, w3, e2, hln, q1, q2⟩ => ?_⟩
    obtain ⟨gs, g, r⟩ := R3.hr _ _ w3
    have hv := KD.val (k := k) r
    refine ⟨gs, k, g, im_key i2 e2, by rw [r.length]; exact hln, fun v ev => ?_, fun en => ?_⟩
    · cases ed : valD kvs3 k with
      | none => rw [hv.1 ed] at ev; cases ev
      | some d =>
        obtain ⟨v', e', iv⟩ := hv.2 d ed
        rw [e'] at ev
        cases ev
        exact ⟨(t1.trans t2).trans t3, d, ω3, R3, iv, q1 d ed⟩
    · have ed : valD kvs3 k = none := by
        cases ed : valD kvs3 k with
        | none => rfl
        | some d =>
          obtain ⟨v', e', iv⟩ := hv.2 d ed
          rw [e'] at en
          cases en
      have tp := tk_upd (K := X.K) (o' := HO.dK (putK gs k z)) g trivial
      have iz := i3.mono tp
      exact ⟨((t1.trans t2).trans t3).trans tp, zd, _, R3.move tp (R3.hr.put (m := .dct (putD kvs3 k zd)) g trivial ⟨_, upd_same, (r.mono tp).put iz⟩), iz, q2 ed⟩)
theorem ims_three {K : PySem.W.Frag} {H : Hp} {xs : List V} {ds : List D} (r : Ims K H xs ds) (h : ds.length = 3) : ∃ x y z, xs = [x, y, z] := by
  cases r with
  | nil => cases h
  | cons a r => cases r with
    | nil => cases h
    | cons b r => cases r with
      | nil => cases h
      | cons c r => cases r with
        | nil => exact ⟨_, _, _, rfl⟩
        | cons c r => simp at h
theorem tg_three {K : PySem.W.Frag} {j1 j2 j3 : Nat} : TgSet K (gTup K 3 (gCons (gName j1) (gCons (gName j2) (gCons (gName j3) gNil)))) [j1, j2, j3] (spN 3) := ⟨fun v d ds σ H Q i e k => by
  obtain ⟨rfl, hl⟩ := spN_tup e
  obtain ⟨a, xs, rfl, h, r⟩ := im_tup i
  obtain ⟨x, y, z, rfl⟩ := ims_three r hl
  exact ⟨a, _, rfl, h, rfl, x, _, rfl, y, _, rfl, z, _, rfl, rfl, k [x, y, z] r⟩⟩
theorem dset_one {kvs : List (Key × D)} {k : Key} {z : D} {a : Addr} {Q : QE} (he : ∀ v, valD kvs k = some v → v = z) (h : ∀ ω', (ω' = ω ∧ valD kvs k = some z) ∨ (ω' = put ω a (.dct (putD kvs k z)) ∧ valD kvs k = none) → Q z ω') : (∀ v, valD kvs k = some v → Q v ω) ∧ (valD kvs k = none → Q z (put ω a (.dct (putD kvs k z)))) :=
  ⟨fun v e => by obtain rfl := he v e; exact h ω (.inl ⟨rfl, e⟩), fun e => h _ (.inr ⟨rfl, e⟩)⟩
theorem GE.mono {e : Expr} {Q Q' : QE} (h : GE X H0 e ρ ω Q) (g : ∀ d ω', Q d ω' → Q' d ω') : GE X H0 e ρ ω Q' := fun σ H R => thnE (h σ H R) fun v H1 ⟨t, d, ω1, R1, i, q⟩ => ⟨t, d, ω1, R1, i, g _ _ q⟩
theorem ge_dsetd1 {o e f : Expr} {apos cpos : Pos} {Q : QE} (h : GE X H0 o ρ ω fun d ω1 => ∃ a, d = .ref a ∧ (∃ kvs, ω1 a = some (.dct kvs)) ∧ GE X H0 e ρ ω1 fun kd ω2 => GE X H0 f ρ ω2 fun z ω3 => ∃ kvs k, ω3 a = some (.dct kvs) ∧ keyD kd = some k ∧ kvs.length < sizeLine ∧ (∀ v, valD kvs k = some v → v = z) ∧ ∀ ω', (ω' = ω3 ∧ valD kvs k = some z) ∨ (ω' = put ω3 a (.dct (putD kvs k z)) ∧ valD kvs k = none) → Q z ω')
    (hb : attributeBase o "setdefault" X.env (eval o X.env) = eval o X.env := by rfl)
    (hf : ((backTo cpos (starEach [e, f] X.env)).all (fun x => !x.1) && (backToKw cpos (keywordEach [] X.env)).all (fun x => x.1.isSome) && decide (([e, f] : List Expr).length + ([] : List Keyword).length + (if ([] : List Keyword).isEmpty then 0 else 1) < 30)) = true := by rfl)
    (hl : (apos.endLine == cpos.line) = true := by rfl) (ht : backTo cpos (starEach [e, f] X.env) = [(false, eval e X.env), (false, eval f X.env)] := by rfl) : GE X H0 (.Call (.Attribute o "setdefault" apos) [e, f] [] cpos) ρ ω Q :=
  ge_dsetd (GE.mono h fun d ω1 ⟨a, e1, w, h1⟩ => ⟨a, e1, w, GE.mono h1 fun kd ω2 h2 => GE.mono h2 fun z ω3 ⟨kvs, k, w3, e3, hl, he, hq⟩ => ⟨kvs, k, w3, e3, hl, dset_one he hq⟩⟩) hb hf hl ht
theorem any_eqv {d : D} {p : PyData} (hd : pl 12 d = true) (e : py d = some p) : ∀ (as : List D) (ps : List PyData), as.all (pl 12) = true → pys as = some ps → (ps.any fun z => PyData.eqv z p) = as.any fun z => eqD z d
  | [], ps, _, h => by cases h; simp
  | a :: as, ps, ha, h => by
    rw [List.all_cons, Bool.and_eq_true] at ha
    have h : (py a).bind (fun p => (pys as).map fun ps => p :: ps) = some ps := h
    cases ea : py a with
    | none => rw [ea] at h; cases h
    | some pa =>
      rw [ea] at h
      have h : (pys as).map (fun ps => pa :: ps) = some ps := h
      cases e2 : pys as with
      | none => rw [e2] at h; cases h
      | some qs =>
        rw [e2] at h
        cases h
        rw [List.any_cons, List.any_cons, any_eqv hd e as qs ha.2 e2, eqv_eqD a d pa p 12 12 ha.1 hd ea e]
theorem any_eqD (d : D) (as : List D) : (as.any fun z => eqD z d) = true ↔ d ∈ as := by
  rw [List.any_eq_true]
  exact ⟨fun ⟨x, h, e⟩ => (eqD_iff _ _).mp e ▸ h, fun h => ⟨d, h, (eqD_iff _ _).mpr rfl⟩⟩
theorem gb_notInD {d : D} {a : Addr} {as : List D} {Q : QE} (hu : X.A.units + 65 < cLine) (wa : ω a = some (.lst as)) (ha : as.all (pl 12) = true) (hd : pl 12 d = true) (k : Q (.bl (!as.any fun z => eqD z d)) ω) : GB X H0 ρ (compareOp .NotIn) d (.ref a) ω Q := fun σ H x y R hx hy => by
  obtain ⟨p, e1, e2, e3⟩ := pl_py 12 d hd
  cases hy
  obtain ⟨ps, g1, g2, g3, g4⟩ := dp_lst R.hr wa ha
  refine ro_of (op_notInD hu) ⟨p, ps, im_dp _ _ _ hx e1, g4, pl_shaped (by decide) e2 e3, pl_shaped (n := 13) (by decide) g2 g3, ?_⟩
  refine vp0 R (.bl _) ?_
  rw [any_eqv hd e1 as ps ha g1]
  exact k
theorem gc_intB {b : Bool} {Q : QE} (q : Q (.int (if b then 1 else 0)) ω) : GC X H0 ρ (.type "int") [.bl b] ω Q := fun σ H vs R is => by
  obtain ⟨v, rfl, a⟩ := ims1 is
  cases a
  exact rcl_of call_int1 (.inr ⟨b, rfl, vp0 R (.int _) q⟩)
end
end Q2
namespace Aw
open PySem PySem.Spec L2 Q2 SX
inductive AskC (S : HS) (S' : HS) : Prop
  | same (h : S'.held = S.held) (m : S'.many = S.many)
  | drop (k : List Nat) (x : List Nat × Nat) (e : lk S.held k = some x) (h : S'.held = dk S.held k) (m : S'.many = S.many + 1)
  | lay (ps : List (List Nat)) (as : List Hd) (b : List Nat) (h : S'.held = pk S.held (textP ps as) (b, S.many + 1)) (m : S'.many = S.many + 1)
theorem doneC (S : HS) (m : Msg) : AskC S (doneF S m).2 := by
  unfold doneF
  split
  · exact .same rfl rfl
  · split
    · exact .same rfl rfl
    · split
      · exact .same rfl rfl
      · split
        · exact .lay m.ps m.as m.b rfl rfl
        · split
          · unfold dropFn
            cases e : lk S.held m.key with
            | none => exact .same rfl rfl
            | some x => exact .drop _ x e rfl rfl
          · unfold addFn
            split
            · exact .same rfl rfl
            · exact .lay _ [] m.b rfl rfl
theorem askC (S : HS) (m : Msg) : AskC S (askFn S m).2 := by
  unfold askFn
  cases valO m.hs onceS with
  | none => exact doneC S m
  | some o =>
    show AskC S (match lk S.known o with
      | some a => (a, S)
      | none => ((doneF S m).1, { (doneF S m).2 with known := pk (doneF S m).2.known o (doneF S m).1 })).2
    cases lk S.known o with
    | some a => exact .same rfl rfl
    | none =>
      rcases doneC S m with ⟨h, e⟩ | ⟨k, x, g, h, e⟩ | ⟨ps, as, b, h, e⟩
      · exact .same h e
      · exact .drop k x g h e
      · exact .lay ps as b h e
structure MI (S : HS) (met : As (List Nat × List Nat)) : Prop where
  le : ∀ k x, lk S.held k = some x → x.2 ≤ S.many
  un : ∀ k j x y, lk S.held k = some x → lk S.held j = some y → x.2 = y.2 → k = j
  mt : ∀ n v, lk met (markT n) = some v → n ≤ S.many ∧ ∀ k x, lk S.held k = some x → x.2 = n → v = (k, x.1)
  ky : ∀ x ∈ S.held, ∃ t, x.1 = 47 :: t
theorem textP_47 (ps : List (List Nat)) (as : List Hd) : ∃ t, textP ps as = 47 :: t := ⟨_, rfl⟩
theorem MI.new (f : Nat) : MI (HS.new f) [] := ⟨(fun _ _ h => nomatch h), (fun _ _ _ _ h => nomatch h), (fun _ _ h => nomatch h), (fun _ h => nomatch h)⟩
theorem MI.ask {S S' : HS} {met : As (List Nat × List Nat)} (h : MI S met) (c : AskC S S') : MI S' met := by
  rcases c with ⟨e, m⟩ | ⟨k, x, g, e, m⟩ | ⟨ps, as, b, e, m⟩
  · exact ⟨by rw [e, m]; exact h.le, by rw [e]; exact h.un, by rw [e, m]; exact h.mt, by rw [e]; exact h.ky⟩
  · have sub : ∀ j y, lk (dk S.held k) j = some y → lk S.held j = some y := fun j y hy => by
      rw [lk_dk] at hy
      split at hy
      · cases hy
      · exact hy
    refine ⟨?_, ?_, ?_, ?_⟩
    · rw [e, m]
      intro j y hy
      have := h.le j y (sub j y hy)
      omega
    · rw [e]
      exact fun a c x y h1 h2 => h.un a c x y (sub _ _ h1) (sub _ _ h2)
    · rw [e, m]
      intro n v hv
      have h1 := h.mt n v hv
      exact ⟨by omega, fun j y hy => h1.2 j y (sub j y hy)⟩
    · rw [e]
      exact fun y hy => h.ky y (dk_mem hy)
  · have spl : ∀ j y, lk (pk S.held (textP ps as) (b, S.many + 1)) j = some y → (j = textP ps as ∧ y = (b, S.many + 1)) ∨ (j ≠ textP ps as ∧ lk S.held j = some y) := fun j y hy => by
      rw [lk_pk] at hy
      split at hy
      · rename_i hj; cases hy; exact .inl ⟨hj, rfl⟩
      · rename_i hj; exact .inr ⟨hj, hy⟩
    refine ⟨?_, ?_, ?_, ?_⟩
    · rw [e, m]
      intro j y hy
      rcases spl j y hy with ⟨_, rfl⟩ | ⟨_, hy⟩
      · exact Nat.le_refl _
      · have := h.le j y hy; omega
    · rw [e]
      intro a c x y h1 h2 hn
      rcases spl a x h1 with ⟨rfl, rfl⟩ | ⟨_, h1⟩ <;> rcases spl c y h2 with ⟨rfl, rfl⟩ | ⟨_, h2⟩
      · rfl
      · have := h.le c y h2
        have hn : S.many + 1 = y.2 := hn
        omega
      · have := h.le a x h1
        have hn : x.2 = S.many + 1 := hn
        omega
      · exact h.un a c x y h1 h2 hn
    · rw [e, m]
      intro n v hv
      have h1 := h.mt n v hv
      refine ⟨by omega, fun j y hy hyn => ?_⟩
      rcases spl j y hy with ⟨rfl, rfl⟩ | ⟨_, hy⟩
      · have hyn : S.many + 1 = n := hyn
        omega
      · exact h1.2 j y hy hyn
    · rw [e]
      intro y hy
      rcases pk_mem hy with hy | rfl
      · exact h.ky y hy
      · exact textP_47 ps as
theorem markT_inj {a b : Nat} (h : markT a = markT b) : a = b := by
  have := (List.cons.inj h).2
  have h2 := congrArg NumText.digitsVal this
  rwa [TL.numL_val, TL.numL_val] at h2
theorem MI.met {S : HS} {met : As (List Nat × List Nat)} (h : MI S met) {k : List Nat} {x : List Nat × Nat} (e : lk S.held k = some x) : MI S (pk met (markT x.2) (k, x.1)) := by
  refine ⟨h.le, h.un, fun n v hv => ?_, h.ky⟩
  rw [lk_pk] at hv
  split at hv
  · rename_i hn
    cases hv
    cases markT_inj hn
    exact ⟨h.le k x e, fun j y hy hyn => by
      obtain rfl := h.un _ _ _ _ hy e hyn
      rw [e] at hy
      cases hy
      rfl⟩
  · exact h.mt n v hv
theorem markF_some {S : HS} {k : List Nat} {x : List Nat × Nat} (e : lk S.held k = some x) : markF S k = markT x.2 := by unfold markF; rw [e]
theorem thing_some {S : HS} {k : List Nat} {x : List Nat × Nat} (e : lk S.held k = some x) : thingD S k = .tup [.str k, .str x.1, .str (markT x.2)] := by
  unfold thingD
  rw [markF_some e, e]
  rfl
theorem thing_new {S S' : HS} (c : AskC S S') {k : List Nat} {x : List Nat × Nat} (e : lk S'.held k = some x) : (lk S.held k = some x) ∨ x.2 = S'.many := by
  rcases c with ⟨h, m⟩ | ⟨j, y, g, h, m⟩ | ⟨ps, as, b, h, m⟩
  · rw [h] at e; exact .inl e
  · rw [h, lk_dk] at e
    split at e
    · cases e
    · exact .inl e
  · rw [h, lk_pk] at e
    split at e
    · cases e; exact .inr m.symm
    · exact .inl e
theorem mem_of_lk {α : Type} {l : As α} {k : List Nat} {a : α} (h : lk l k = some a) : k ∈ l.map (·.1) := List.mem_map.mpr ⟨_, lk_mem h, rfl⟩
theorem things_diff {S S' : HS} {met : As (List Nat × List Nat)} (hm : MI S met) (c : AskC S S') {ys zs : List (List Nat)} (hy : ys.Perm (S.held.map (·.1))) (hyo : ys.Pairwise (· ≤ ·)) (hz : zs.Perm (S'.held.map (·.1))) (hzo : zs.Pairwise (· ≤ ·)) :
    ((S'.many : Nat) : Int) - ((S.many : Nat) : Int) = if (!eqDs (zs.map (thingD S')) (ys.map (thingD S))) = true then 1 else 0 := by
  have mz : ∀ k, k ∈ zs ↔ k ∈ S'.held.map (·.1) := fun k => hz.mem_iff
  have my : ∀ k, k ∈ ys ↔ k ∈ S.held.map (·.1) := fun k => hy.mem_iff
  by_cases hs : S'.many = S.many
  · rcases c with ⟨h, m⟩ | ⟨j, y, g, h, m⟩ | ⟨ps, as, b, h, m⟩
    · have e : zs = ys := sorted_uniq (hz.trans (by rw [h]; exact hy.symm)) hzo hyo
      have e2 : zs.map (thingD S') = ys.map (thingD S) := by
        rw [e]
        refine List.map_congr_left fun k _ => ?_
        unfold thingD markF
        rw [h]
      rw [e2, (eqDs_iff _ _).mpr rfl, m]
      simp
    · omega
    · omega
  · have hne : zs.map (thingD S') ≠ ys.map (thingD S) := fun e => by
      rcases c with ⟨h, m⟩ | ⟨j, y, g, h, m⟩ | ⟨ps, as, b, h, m⟩
      · exact hs m
      · have h1 := (my j).mpr (mem_of_lk g)
        have h2 : thingD S j ∈ zs.map (thingD S') := e ▸ List.mem_map.mpr ⟨j, h1, rfl⟩
        obtain ⟨i, hi, ei⟩ := List.mem_map.mp h2
        have ei : i = j := by
          unfold thingD at ei
          injection ei with ei
          injection (List.cons.inj ei).1
        subst ei
        have h3 := (mz i).mp hi
        obtain ⟨a, ea⟩ := lk_of_mem h3
        rw [h, lk_dk, if_pos rfl] at ea
        cases ea
      · have e1 : lk S'.held (textP ps as) = some (b, S.many + 1) := by rw [h, lk_pk, if_pos rfl]
        have h1 := (mz _).mpr (mem_of_lk e1)
        have h2 : thingD S' (textP ps as) ∈ ys.map (thingD S) := e ▸ List.mem_map.mpr ⟨_, h1, rfl⟩
        obtain ⟨i, hi, ei⟩ := List.mem_map.mp h2
        obtain ⟨a, ea⟩ := lk_of_mem ((my i).mp hi)
        rw [thing_some e1, thing_some ea] at ei
        injection ei with ei
        have ei := (List.cons.inj (List.cons.inj (List.cons.inj ei).2).2).1
        injection ei with ei
        have := markT_inj ei
        have := hm.le i a ea
        have : a.2 = S.many + 1 := by assumption
        omega
    have e2 : eqDs (zs.map (thingD S')) (ys.map (thingD S)) = false := by
      cases q : eqDs (zs.map (thingD S')) (ys.map (thingD S)) with
      | false => rfl
      | true => exact absurd ((eqDs_iff _ _).mp q) hne
    have hm1 : S'.many = S.many + 1 := by
      rcases c with ⟨h, m⟩ | ⟨j, y, g, h, m⟩ | ⟨ps, as, b, h, m⟩
      · exact absurd m hs
      · exact m
      · exact m
    rw [e2, hm1]
    simp
    omega
def metD (v : List Nat × List Nat) : D := .tup [.str v.1, .str v.2]
theorem valD_met (met : As (List Nat × List Nat)) (k : List Nat) : valD (asD metD met) (sk k) = (lk met k).map metD := valD_as metD k met
end Aw
namespace Aw
open PySem PySem.Spec L2 Q2 SX
abbrev KE := (List Nat × Nat) × Nat
abbrev KN := As KE
abbrev ageS : List Nat := [97, 103, 101]
abbrev farS : List Nat := [102, 97, 114]
abbrev copyS : List Nat := [99, 111, 112, 121]
abbrev renS : List Nat := [114, 101, 110, 101, 119, 101, 100]
abbrev keptA (f : Nat) (x : List Nat × Nat) : Ans := (200, [(markS, markT x.2), (freshS, TL.numL f)], x.1)
abbrev ageF (f : Nat) (e : KE) (now : Nat) : Ans := (200, [(markS, markT e.1.2), (freshS, TL.numL f), (ageS, TL.numL (now - e.2))], e.1.1)
abbrev keptD (f : Nat) (e : KE) : D := .tup [anD (keptA f e.1), .int (e.2 : Nat)]
structure NA where
  dx : Addr
  q : Addr
abbrev NA.all (A : NA) (p : Addr) : List Addr := [p, A.q]
def nFs (A : NA) (t : Nat) : List (Str × D) := [("kept", .ref A.q), ("last", .int (t : Nat))]
structure KAt (C : Addr) (ω : Om) (p : Addr) (A : NA) (f : Nat) (N : KN) (t : Nat) : Prop where
  o : ω p = some (.ins C A.dx (nFs A t))
  kept : ω A.q = some (.dct (asD (keptD f) N))
  nd : p ≠ A.q
theorem nF_kept (A : NA) (t : Nat) : (nFs A t).lookup ("kept" : Str) = some (D.ref A.q) := lkD_here
theorem nF_last (A : NA) (t : Nat) : (nFs A t).lookup ("last" : Str) = some (D.int (t : Nat)) := (lkD_past (by decide +kernel)).trans lkD_here
theorem nF_no {A : NA} {t : Nat} {m : Str} (h : (!(m == ("kept" : Str)) && !(m == ("last" : Str))) = true) : (nFs A t).lookup m = none := by
  simp only [Bool.and_eq_true, Bool.not_eq_true'] at h
  exact (lkD_past h.1).trans ((lkD_past h.2).trans rfl)
theorem nF_put (A : NA) (t n : Nat) : fputD "last" (.int (n : Nat)) (nFs A t) = nFs A n := (fput_past (by decide +kernel)).trans (congrArg _ fput_here)
theorem nF_new (q : Addr) : fputD "last" (.int ((0 : Nat) : Int)) (fputD "kept" (.ref q) []) = nFs ⟨q, q⟩ 0 := (fput_past (by decide +kernel)).trans rfl
section
variable {C : Addr} {ω ω' : Om} {p : Addr} {A : NA} {f : Nat} {N : KN} {t : Nat}
theorem KAt.ext (h : KAt C ω p A f N t) (x : Ext ω ω') : KAt C ω' p A f N t := ⟨x _ _ h.o, x _ _ h.kept, h.nd⟩
theorem KAt.keep {L : List Addr} (h : KAt C ω p A f N t) (k : HKeep L ω ω') (d : ∀ x ∈ A.all p, x ∉ L) : KAt C ω' p A f N t :=
  ⟨k _ _ h.o (d _ (by simp)), k _ _ h.kept (d _ (by simp)), h.nd⟩
theorem KAt.addrs (h : KAt C ω p A f N t) : ∀ x ∈ A.all p, ω x ≠ none := fun x m => by
  simp only [List.mem_cons, List.not_mem_nil, or_false] at m
  rcases m with rfl | rfl
  · rw [h.o]; exact fun h => nomatch h
  · rw [h.kept]; exact fun h => nomatch h
theorem KAt.putK (h : KAt C ω p A f N t) (k : List Nat) (e : KE) : KAt C (put ω A.q (.dct (putD (asD (keptD f) N) (sk k) (keptD f e)))) p A f (pk N k e) t :=
  ⟨(put_ne h.nd).trans h.o, by rw [put_same, putD_as], h.nd⟩
theorem KAt.dropK (h : KAt C ω p A f N t) (k : List Nat) : KAt C (put ω A.q (.dct (dropD (asD (keptD f) N) (sk k)))) p A f (dk N k) t :=
  ⟨(put_ne h.nd).trans h.o, by rw [put_same, dropD_as], h.nd⟩
theorem KAt.last (h : KAt C ω p A f N t) (n : Nat) : KAt C (put ω p (.ins C A.dx (fputD "last" (.int (n : Nat)) (nFs A t)))) p A f N n :=
  ⟨by rw [put_same, nF_put], (put_ne h.nd.symm).trans h.kept, h.nd⟩
theorem KAt.off (h : KAt C ω p A f N t) {q : Addr} {m : MO} (n : q ∉ A.all p) : KAt C (put ω q m) p A f N t :=
  ⟨(put_ne (fun e => n (by rw [← e]; simp))).trans h.o, (put_ne (fun e => n (by rw [← e]; simp))).trans h.kept, h.nd⟩
theorem na_p (A : NA) (p : Addr) : p ∈ A.all p := by simp
theorem na_q (A : NA) (p : Addr) : A.q ∈ A.all p := by simp
end
structure NOk (N : KN) (k : Nat) : Prop where
  len : N.length ≤ k
  body : ∀ x ∈ N, x.2.1.1.length ≤ 120 ∧ okT x.2.1.1 = true ∧ x.2.1.2 ≤ k ∧ x.1.length ≤ 1000 ∧ okT x.1 = true
theorem dk_none {α : Type} {l : As α} {k : List Nat} (h : lk l k = none) : dk l k = l := by
  unfold dk
  refine List.filter_eq_self.mpr fun x hx => ?_
  have h2 := lk_any l k
  rw [h] at h2
  have h3 := List.any_eq_false.mp h2 x hx
  simpa using h3
theorem pk_len2 {α : Type} {l : As α} {k : List Nat} {a b : α} (h : lk l k = some b) : (pk l k a).length = l.length := by
  unfold pk
  rw [lk_any, h, if_pos (by rfl), List.length_map]
theorem NOk.new : NOk [] 0 := ⟨Nat.le_refl _, fun _ m => nomatch m⟩
theorem NOk.mono {N : KN} {j k : Nat} (h : NOk N j) (l : j ≤ k) : NOk N k := ⟨Nat.le_trans h.len l, fun x m => by
  have := h.body x m
  exact ⟨this.1, this.2.1, Nat.le_trans this.2.2.1 l, this.2.2.2⟩⟩
theorem NOk.dk {N : KN} {k : Nat} (h : NOk N k) (j : List Nat) : NOk (dk N j) k := ⟨Nat.le_trans (dk_len N j) h.len, fun x m => h.body x (dk_mem m)⟩
theorem NOk.pk {N : KN} {k : Nat} (h : NOk N k) {j : List Nat} {e : KE} (h1 : e.1.1.length ≤ 120 ∧ okT e.1.1 = true ∧ e.1.2 ≤ k) (h2 : j.length ≤ 1000 ∧ okT j = true) : NOk (pk N j e) (k + 1) := ⟨Nat.le_trans (pk_len N j e) (Nat.add_le_add_right h.len 1), fun x m => by
  rcases pk_mem m with m | rfl
  · have := h.body x m
    exact ⟨this.1, this.2.1, by omega, this.2.2.2⟩
  · exact ⟨h1.1, h1.2.1, by show e.1.2 ≤ k + 1; omega, h2⟩⟩
def freshK (o : Option (List Nat)) : Bool := match o with
  | none => false
  | some t => isFig t 3
def isKept (a : Ans) : Bool := decide (a.1 = 200) && (freshK (valO a.2.1 freshS) && (valO a.2.1 markS).isSome)
def plainF (S : HS) (k : List Nat) : Ans := match lk S.held k with
  | none => (404, [], [])
  | some x => keptA S.fresh x
def renewF (S : HS) (N : KN) (m : Msg) : Option KE := if m.hs.length < 8 then (match lk N m.key with
  | none => none
  | some e => match lk S.held m.key with
    | none => none
    | some x => if x.2 = e.1.2 then some e else none) else none
def afterF (S : HS) (N : KN) (k : List Nat) (now : Nat) : KN := match lk S.held k with
  | none => dk N k
  | some x => pk (dk N k) k (x, now)
def farF (S : HS) (N : KN) (m : Msg) (now : Nat) : (List Nat × Ans) × KN := match renewF S N m with
  | some e => ((renS, keptA S.fresh e.1), pk N m.key (e.1, now))
  | none => ((farS, plainF S m.key), afterF S N m.key now)
def needs (hs : List Hd) : Bool := hs.any fun h => decide (h.1 = onceS) || (decide (h.1 = partS) || decide (h.1 = unlessS))
def nearFn (S : HS) (N : KN) (m : Msg) (now : Nat) : (List Nat × Ans) × HS × KN :=
  if m.w = getS then
    if needs m.hs = true then ((farS, (askFn S m).1), (askFn S m).2, N)
    else match lk N m.key with
      | none => ((farF S N m now).1, S, (farF S N m now).2)
      | some e => if now < e.2 + S.fresh then ((copyS, ageF S.fresh e now), S, N) else ((farF S N m now).1, S, (farF S N m now).2)
  else ((farS, (askFn S m).1), (askFn S m).2, if (askFn S m).1.1 < 400 then dk N m.key else N)
theorem needs_no {hs : List Hd} (h : needs hs = false) : valO hs onceS = none ∧ valO hs partS = none ∧ valO hs unlessS = none := by
  have h1 := List.any_eq_false.mp h
  have go : ∀ n, (∀ x ∈ hs, x.1 ≠ n) → valO hs n = none := fun n h => by
    unfold valO
    rw [List.find?_eq_none.mpr fun x m => by simpa using h x m]
    rfl
  refine ⟨go _ fun x m => ?_, go _ fun x m => ?_, go _ fun x m => ?_⟩ <;> · have := h1 x m; simp at this; first | exact this.1 | exact this.2.1 | exact this.2.2
theorem putH_new {hs : List Hd} {n t : List Nat} (h : ∀ x ∈ hs, x.1 ≠ n) : putH hs n t = hs ++ [(n, t)] := by
  unfold putH
  induction hs with
  | nil => rfl
  | cons x r ih =>
    rw [show Aw.putF n t (x :: r) false = if x.1 = n then _ else x :: Aw.putF n t r false from rfl, if_neg (h x (List.mem_cons_self ..)), ih fun y m => h y (List.mem_cons_of_mem _ m)]
    rfl
theorem valO_app (a b : List Hd) (n : List Nat) : valO (a ++ b) n = (valO a n).or (valO b n) := by
  unfold valO
  rw [List.find?_append]
  cases a.find? _ <;> rfl
theorem getF_plain {S : HS} {k : List Nat} {hs : List Hd} (h1 : valO hs unlessS = none) (h2 : valO hs partS = none) : getF S k hs = plainF S k := by
  unfold getF plainF
  cases lk S.held k with
  | none => rfl
  | some x => simp only []; rw [h1, if_neg (by simp), h2]
theorem ask_plainF {S : HS} {m : Msg} (hw : lk S.ways m.key = none) (hg : m.w = getS) (hn : needs m.hs = false) : askFn S m = (plainF S m.key, S) := by
  obtain ⟨h1, h2, h3⟩ := needs_no hn
  unfold askFn doneF
  rw [h1, hw]
  simp only []
  rw [if_pos hg, getF_plain h3 h2]
abbrev Msg.unl (m : Msg) (n : Nat) : Msg := { m with hs := m.hs ++ [(unlessS, markT n)] }
theorem ask_unless {S : HS} {m : Msg} {n : Nat} (hw : lk S.ways m.key = none) (hg : m.w = getS) (hn : needs m.hs = false) : askFn S (m.unl n) = ((match lk S.held m.key with
  | none => (404, [], [])
  | some x => if x.2 = n then (304, [(markS, markT x.2)], []) else keptA S.fresh x), S) := by
  obtain ⟨h1, h2, h3⟩ := needs_no hn
  have e1 : valO (m.unl n).hs onceS = none := by rw [show (m.unl n).hs = m.hs ++ [(unlessS, markT n)] from rfl, valO_app, h1]; rfl
  have e2 : valO (m.unl n).hs partS = none := by rw [show (m.unl n).hs = m.hs ++ [(unlessS, markT n)] from rfl, valO_app, h2]; rfl
  have e3 : valO (m.unl n).hs unlessS = some (markT n) := by rw [show (m.unl n).hs = m.hs ++ [(unlessS, markT n)] from rfl, valO_app, h3]; rfl
  unfold askFn doneF
  rw [e1, show lk S.ways (m.unl n).key = none from hw]
  simp only []
  rw [if_pos hg]
  unfold getF
  rw [show (m.unl n).key = m.key from rfl]
  cases lk S.held m.key with
  | none => rfl
  | some x =>
    simp only []
    rw [e3, e2]
    by_cases h : x.2 = n
    · rw [if_pos (by rw [h]), if_pos h]
    · rw [if_neg (fun e => h (markT_inj (Option.some.inj e)).symm), if_neg h]
theorem okH_unless {n : Nat} (h : n < 10 ^ 18) : okH (unlessS, markT n) = true := by
  have := Q2.numL_len h (by decide)
  have h2 := num_T1 n
  refine okH_free (by decide) ?_ ?_ ?_ ?_
  · show ((109 :: TL.numL n).length : Int) ≤ 30
    rw [List.length_cons]
    omega
  · show (isT1 109 && okT (TL.numL n)) = true
    rw [h2]
    rfl
  · intro m
    rcases List.mem_cons.mp m with h | h
    · cases h
    · exact num_free (by omega) h
  · intro m
    rcases List.mem_cons.mp m with h | h
    · cases h
    · exact num_free (by omega) h
theorem unl_ok {m : Msg} {n : Nat} (h : m.ok) (h8 : m.hs.length < 8) (hn : n < 10 ^ 18) : (m.unl n).ok := by
  obtain ⟨m1, m2, m3, m4, m5, m6, m7, m8, m9⟩ := h
  refine ⟨m1, m2, m3, m4, m5, ?_, ?_, m8, m9⟩
  · show (m.hs ++ [(unlessS, markT n)]).length ≤ 8
    rw [List.length_append, List.length_singleton]
    omega
  · show (m.hs ++ [(unlessS, markT n)]).all okH = true
    rw [List.all_append, m7]
    show (okH (unlessS, markT n) && true) = true
    rw [okH_unless hn]
    rfl
theorem kept_keys (f : Nat) (N : KN) : (asD (keptD f) N).map (·.1) = (N.map (·.1)).map fun k => Sum.inr (SX.S k) := by
  unfold asD
  rw [List.map_map, List.map_map]
  rfl
theorem num_dig (n : Nat) : (TL.numL n).all (fun c => decide (48 ≤ c) && decide (c ≤ 57)) = true := List.all_eq_true.mpr fun c m => by
  have := TL.numL_digits n c m
  rw [decide_eq_true this.1, decide_eq_true this.2]
  rfl
theorem needs_ne {hs : List Hd} (h : needs hs = false) : ∀ x ∈ hs, x.1 ≠ unlessS := fun x m => by
  have := List.any_eq_false.mp h x m
  simp at this
  exact this.2.2
theorem renew_at {S : HS} {N : KN} {m : Msg} {e : KE} (h : renewF S N m = some e) : lk N m.key = some e ∧ m.hs.length < 8 ∧ ∃ x, lk S.held m.key = some x ∧ x.2 = e.1.2 := by
  unfold renewF at h
  split at h
  · rename_i h8
    cases eN : lk N m.key with
    | none => rw [eN] at h; cases h
    | some e1 =>
      rw [eN] at h
      simp only [] at h
      cases eh : lk S.held m.key with
      | none => rw [eh] at h; cases h
      | some x =>
        rw [eh] at h
        simp only [] at h
        split at h
        · cases h; exact ⟨rfl, h8, x, rfl, by assumption⟩
        · cases h
  · cases h
theorem renew_no1 {S : HS} {N : KN} {m : Msg} (h : ((lk N m.key).isSome && decide (m.hs.length < 8)) = false) : renewF S N m = none := by
  cases e : renewF S N m with
  | none => rfl
  | some x =>
    obtain ⟨h1, h2, _⟩ := renew_at e
    rw [h1, decide_eq_true h2] at h
    cases h
theorem ask_renew {S : HS} {N : KN} {m : Msg} {e : KE} (he : lk N m.key = some e) (h8 : m.hs.length < 8) (hw : lk S.ways m.key = none) (hg : m.w = getS) (hn : needs m.hs = false) :
    askFn S (m.unl e.1.2) = ((match renewF S N m with
      | some e => (304, [(markS, markT e.1.2)], [])
      | none => plainF S m.key), S) := by
  rw [ask_unless hw hg hn]
  unfold renewF plainF
  rw [if_pos h8, he]
  cases eh : lk S.held m.key with
  | none => rfl
  | some x =>
    simp only []
    by_cases h : x.2 = e.1.2
    · rw [if_pos h, if_pos h]
      simp only []
      rw [h]
    · rw [if_neg h, if_neg h]
theorem plain_code {S : HS} {k : List Nat} : (plainF S k).1 = if (lk S.held k).isSome then 200 else 404 := by
  unfold plainF
  cases lk S.held k <;> rfl
theorem far_ren {S : HS} {N : KN} {m : Msg} {now : Nat} {e : KE} (h : renewF S N m = some e) : farF S N m now = ((renS, keptA S.fresh e.1), pk N m.key (e.1, now)) := by
  unfold farF; rw [h]
theorem far_far {S : HS} {N : KN} {m : Msg} {now : Nat} (h : renewF S N m = none) : farF S N m now = ((farS, plainF S m.key), afterF S N m.key now) := by
  unfold farF; rw [h]
theorem isKept_plain {S : HS} {k : List Nat} (hf : S.fresh ≤ 999) : isKept (plainF S k) = (lk S.held k).isSome := by
  unfold plainF
  cases lk S.held k with
  | none => rfl
  | some x =>
    show (true && (isFig (TL.numL S.fresh) 3 && true)) = true
    rw [fig_tab _ (by omega)]
    rfl
theorem plain_some {S : HS} {k : List Nat} {x : List Nat × Nat} (h : lk S.held k = some x) : plainF S k = keptA S.fresh x := by unfold plainF; rw [h]
theorem after_some {S : HS} {N : KN} {k : List Nat} {x : List Nat × Nat} {now : Nat} (h : lk S.held k = some x) : afterF S N k now = pk (dk N k) k (x, now) := by unfold afterF; rw [h]
theorem after_none {S : HS} {N : KN} {k : List Nat} {now : Nat} (h : lk S.held k = none) : afterF S N k now = dk N k := by unfold afterF; rw [h]
def needD (d : D) : Bool := match d with
  | .tup (.str n :: _) => decide (n = onceS) || (decide (n = partS) || decide (n = unlessS))
  | _ => false
theorem needs_filter (hs : List Hd) : decide ((((hs.map hdD).filter needD).map fun d => d) = []) = !needs hs := by
  unfold needs
  induction hs with
  | nil => rfl
  | cons x r ih =>
    rw [List.map_cons, List.filter_cons, List.any_cons]
    by_cases h : needD (hdD x) = true
    · rw [if_pos h]
      have h : (decide (x.1 = onceS) || (decide (x.1 = partS) || decide (x.1 = unlessS))) = true := h
      rw [h]
      rfl
    · rw [if_neg h, ih]
      have h : ¬ (decide (x.1 = onceS) || (decide (x.1 = partS) || decide (x.1 = unlessS))) = true := h
      rw [Bool.not_eq_true] at h
      rw [h]
      rfl
end Aw
namespace Q2
open PySem PySem.Spec L2 PyProof.Rows
theorem once_tup {l : Addr} {u : Tok} {xs : Array Value} {n : Nat} {dd : Option Addr} {sl : Array (Option Value)} : Meets (Builtin.«tuple.__mul__» ⟨[.ref l, .int 1 u], []⟩) (fun _ R s => s.heap.get? l = some { cls := .type "tuple", dict := dd, data := .seq xs n, slots := sl } ∧ R (.ok (.ret (Value.ref l))) s) :=
  .of_wp fun prog w A R s h => by
    obtain ⟨hp, g, d, tk, os⟩ := s
    have hl := h.1
    have hq := h.2
    have f1 := AutoSeq1.idx_int
    wp_walk using wpAny_loadPart' hl
    exact ⟨_, rfl, hq⟩
theorem none_tup {l : Addr} {u : Tok} {xs : Array Value} {n : Nat} {dd : Option Addr} {sl : Array (Option Value)} (hx : xs.isEmpty = false) : Meets (Builtin.«tuple.__mul__» ⟨[.ref l, .int 0 u], []⟩) (fun _ R s => s.heap.get? l = some { cls := .type "tuple", dict := dd, data := .seq xs n, slots := sl } ∧
      R (.ok (.ret (Value.ref s.heap.objs.size))) { s with heap := s.heap.push { cls := Value.type "tuple", data := Data.seq #[] }, toks := s.toks }) :=
  .of_wp fun prog w A R s h => by
    obtain ⟨hp, g, d, tk, os⟩ := s
    have hl := h.1
    have hq := h.2
    have f1 := AutoSeq1.idx_int
    wp_walk using wpAny_loadPart' hl
    exact ⟨_, rfl, hq⟩
theorem op_repOnce {X : Cx} : OpR X (binaryOp .Mult) (fun x y H Q => ∃ l xs, x = .ref l ∧ y = .int 1 ∧ SqT X.K H l xs ∧ Q (.ref l) H) := by
  intro pins s σ H x y v u Q I rx ry h
  obtain ⟨l, xs, rfl, rfl, hT, q⟩ := h
  cases rx
  obtain ⟨t, rfl⟩ := ry
  obtain ⟨its, r, ⟨⟨cls, dd, data, sl⟩, ho, hc, n, hd⟩, hs⟩ := I.tuple hT
  cases hc
  cases hd
  refine wpAny_binaryOp_repeat_ref (U := "int") (T := "tuple") (by decide) ⟨_, ho, rfl⟩ (fun z => typeIs_int z 1 t) noFill_tuple_mul F.fills_int_mul F.slot_int_rmul repeat_tuple F.slot_int_index.lookup ?_
  refine call_meets F.slot_int_rmul (typeIs_int s 1 t) F.entry_int_rmul (F.args_int_rmul_2 _ _) (int_rmul_tuple 1 t l its.toArray n dd sl) ⟨ho, rfl, ⟨_, ho, rfl⟩, ?_⟩
  refine call_meets F.slot_tuple_mul ⟨_, ho, rfl⟩ F.entry_tuple_mul (F.args_tuple_mul_2 _ _) once_tup ⟨ho, ?_⟩
  exact ⟨.ref l, H, I, rfl, q⟩
theorem op_repNone {X : Cx} : OpR X (binaryOp .Mult) (fun x y H Q => ∃ l xs, x = .ref l ∧ y = .int 0 ∧ SqT X.K H l xs ∧ xs ≠ [] ∧ ∀ p, H p = none → Q (.ref p) (upd H p (.tup []))) := by
  intro pins s σ H x y v u Q I rx ry h
  obtain ⟨l, xs, rfl, rfl, hT, hne, q⟩ := h
  cases rx
  obtain ⟨t, rfl⟩ := ry
  obtain ⟨its, r, ⟨⟨cls, dd, data, sl⟩, ho, hc, n, hd⟩, hs⟩ := I.tuple hT
  cases hc
  cases hd
  have hemp : its.toArray.isEmpty = false := by
    cases its with
    | cons a b => rfl
    | nil => cases r; exact absurd rfl hne
  refine wpAny_binaryOp_repeat_ref (U := "int") (T := "tuple") (by decide) ⟨_, ho, rfl⟩ (fun z => typeIs_int z 0 t) noFill_tuple_mul F.fills_int_mul F.slot_int_rmul repeat_tuple F.slot_int_index.lookup ?_
  refine call_meets F.slot_int_rmul (typeIs_int s 0 t) F.entry_int_rmul (F.args_int_rmul_2 _ _) (int_rmul_tuple 0 t l its.toArray n dd sl) ⟨ho, rfl, ⟨_, ho, rfl⟩, ?_⟩
  refine call_meets F.slot_tuple_mul ⟨_, ho, rfl⟩ F.entry_tuple_mul (F.args_tuple_mul_2 _ _) (none_tup hemp) ⟨ho, ?_⟩
  refine ⟨.ref s.heap.objs.size, upd H s.heap.objs.size (.tup []), ?_, rfl, q _ (I.hok.fresh (Nat.le_refl _))⟩
  refine I.laid (o := .tup []) (t' := s.toks) (fun b ob g => Heap.get?_push_of_some _ g) (Nat.le_refl _) ?_
  exact ⟨Nat.zero_le _, [], .nil, IsTup.new _ _⟩
section
variable {X : Cx} {H0 : Hp} {ρ : Rho} {ω ω' : Om}
theorem gb_mulT9 {ds : List D} {n : Int} {Q : QE} (hne : ds ≠ []) (h0 : 0 ≤ n) (h3 : n ≤ 1000) (hl : ds.length ≤ 1000) (q : Q (.tup (List.replicate n.toNat ds).flatten) ω) : GB X H0 ρ (binaryOp .Mult) (.tup ds) (.int n) ω Q := by
  rcases (show n = 0 ∨ n = 1 ∨ 2 ≤ n by omega) with rfl | rfl | h2
  · intro σ H x y R hx hy
    obtain ⟨a, xs, rfl, h1, r1⟩ := im_tup hx
    cases hy
    have hxs : xs ≠ [] := fun e => by
      subst e
      cases r1
      exact hne rfl
    refine ro_of op_repNone ⟨a, xs, rfl, rfl, h1, hxs, fun p hp => ?_⟩
    have e := same_new (o := .tup []) hp
    exact ⟨tk_same e, _, ω, R.same e, .tup (SqT.of upd_same) .nil, q⟩
  · intro σ H x y R hx hy
    obtain ⟨a, xs, rfl, h1, r1⟩ := im_tup hx
    cases hy
    refine ro_of op_repOnce ⟨a, xs, rfl, rfl, h1, ?_⟩
    refine vp0 R hx ?_
    rw [show (List.replicate (Int.toNat 1) ds).flatten = ds by simp] at q
    exact q
  · exact gb_mulT hne h2 h3 hl q
end
end Q2
namespace Aw
open PySem PySem.Spec L2 Q2 SX
theorem nextN_free {held : As (List Nat × Nat)} {ps : List (List Nat)} : ∀ (f n : Nat), (∃ i, i < f ∧ lk held (addK ps (n + i)) = none) → lk held (addK ps (nextN held ps f n)) = none
  | 0, _, ⟨i, h, _⟩ => absurd h (Nat.not_lt_zero _)
  | f + 1, n, ⟨i, h, e⟩ => by
    unfold nextN
    split
    · rename_i hs
      cases i with
      | zero => rw [Nat.add_zero] at e; rw [e] at hs; cases hs
      | succ i => exact nextN_free f (n + 1) ⟨i, Nat.lt_of_succ_lt_succ h, by rw [show n + 1 + i = n + (i + 1) by omega]; exact e⟩
    · rename_i hs
      cases e2 : lk held (addK ps n) with
      | none => rfl
      | some x => rw [e2] at hs; exact absurd rfl hs
theorem addN_free (S : HS) (ps : List (List Nat)) (as : List Hd) : lk S.held (addK ps (addN S ps as)) = none := by
  unfold addN
  refine nextN_free _ _ (Classical.byContradiction fun hno => ?_)
  have h : ∀ i, i < S.held.length + 1 → (lk S.held (addK ps ((lk S.numbers (textP ps as)).getD 0 + 1 + i))).isSome = true := fun i hi => by
    cases e : lk S.held (addK ps ((lk S.numbers (textP ps as)).getD 0 + 1 + i)) with
    | none => exact absurd ⟨i, hi, e⟩ hno
    | some x => rfl
  have := addK_pig h
  omega
inductive AskD (S S' : HS) (m : Msg) (c : Nat) : Prop
  | same (h : S'.held = S.held)
  | drop (h : S'.held = dk S.held m.key) (l : c < 400)
  | lay (b : List Nat × Nat) (h : S'.held = pk S.held m.key b) (l : c < 400)
  | add (k : List Nat) (b : List Nat × Nat) (e : lk S.held k = none) (h : S'.held = pk S.held k b) (l : c < 400)
theorem doneD (S : HS) (m : Msg) : AskD S (doneF S m).2 m (doneF S m).1.1 := by
  unfold doneF
  split
  · exact .same rfl
  · split
    · exact .same rfl
    · split
      · exact .same rfl
      · split
        · refine .lay (m.b, S.many + 1) rfl ?_
          show (if (lk S.held m.key).isSome then 200 else 201) < 400
          split <;> decide
        · split
          · unfold dropFn
            cases e : lk S.held m.key with
            | none => exact .same rfl
            | some x => exact .drop rfl (show 200 < 400 by decide)
          · unfold addFn
            split
            · exact .same rfl
            · exact .add _ (m.b, S.many + 1) (addN_free S m.ps m.as) rfl (show 201 < 400 by decide)
theorem askD (S : HS) (m : Msg) : AskD S (askFn S m).2 m (askFn S m).1.1 := by
  unfold askFn
  cases valO m.hs onceS with
  | none => exact doneD S m
  | some o =>
    show AskD S (match lk S.known o with
      | some a => (a, S)
      | none => ((doneF S m).1, { (doneF S m).2 with known := pk (doneF S m).2.known o (doneF S m).1 })).2 m (match lk S.known o with
      | some a => (a, S)
      | none => ((doneF S m).1, { (doneF S m).2 with known := pk (doneF S m).2.known o (doneF S m).1 })).1.1
    cases lk S.known o with
    | some a => exact .same rfl
    | none =>
      rcases doneD S m with h | ⟨h, l⟩ | ⟨b, h, l⟩ | ⟨k, b, e, h, l⟩
      · exact .same h
      · exact .drop h l
      · exact .lay b h l
      · exact .add k b e h l
theorem ask_fresh (S : HS) (m : Msg) : (askFn S m).2.fresh = S.fresh := by
  have hd : (doneF S m).2.fresh = S.fresh := by
    unfold doneF
    split
    · rfl
    · split
      · rfl
      · split
        · rfl
        · split
          · rfl
          · split
            · unfold dropFn
              cases lk S.held m.key <;> rfl
            · unfold addFn
              split <;> rfl
  unfold askFn
  cases valO m.hs onceS with
  | none => exact hd
  | some o =>
    show (match lk S.known o with
      | some a => (a, S)
      | none => ((doneF S m).1, { (doneF S m).2 with known := pk (doneF S m).2.known o (doneF S m).1 })).2.fresh = S.fresh
    cases lk S.known o with
    | some a => rfl
    | none => exact hd
theorem ask_getH {S : HS} {m : Msg} (h : m.w = getS) : (askFn S m).2.held = S.held := by
  have hd : (doneF S m).2.held = S.held := by
    unfold doneF
    split
    · rfl
    · rw [if_pos h]
  unfold askFn
  cases valO m.hs onceS with
  | none => exact hd
  | some o =>
    show (match lk S.known o with
      | some a => (a, S)
      | none => ((doneF S m).1, { (doneF S m).2 with known := pk (doneF S m).2.known o (doneF S m).1 })).2.held = S.held
    cases lk S.known o with
    | some a => rfl
    | none => exact hd
def KJ (S : HS) (N : KN) : Prop := ∀ k e, lk N k = some e → lk S.held k = some e.1
theorem KJ.dk {S : HS} {N : KN} (h : KJ S N) (j : List Nat) : KJ S (dk N j) := fun k e he => by
  rw [lk_dk] at he
  split at he
  · cases he
  · exact h k e he
theorem KJ.pk {S : HS} {N : KN} (h : KJ S N) {j : List Nat} {e : KE} (he : lk S.held j = some e.1) : KJ S (pk N j e) := fun k e2 h2 => by
  rw [lk_pk] at h2
  split at h2
  · rename_i hk; cases h2; rw [hk]; exact he
  · exact h k e2 h2
theorem KJ.held {S S' : HS} {N : KN} (h : KJ S N) (e : S'.held = S.held) : KJ S' N := fun k x hx => by rw [e]; exact h k x hx
theorem KJ.ask {S : HS} {N : KN} (h : KJ S N) (m : Msg) : KJ (askFn S m).2 (if (askFn S m).1.1 < 400 then Aw.dk N m.key else N) := by
  rcases askD S m with e | ⟨e, l⟩ | ⟨b, e, l⟩ | ⟨k, b, e0, e, l⟩
  · split
    · exact (h.dk _).held e
    · exact h.held e
  · rw [if_pos l]
    intro k x hx
    rw [lk_dk] at hx
    split at hx
    · cases hx
    · rename_i hk
      rw [e, lk_dk, if_neg hk]
      exact h k x hx
  · rw [if_pos l]
    intro k x hx
    rw [lk_dk] at hx
    split at hx
    · cases hx
    · rename_i hk
      rw [e, lk_pk, if_neg hk]
      exact h k x hx
  · rw [if_pos l]
    intro j x hx
    have h1 := (h.dk m.key) j x hx
    rw [e, lk_pk, if_neg (fun hj => by rw [hj, e0] at h1; cases h1)]
    exact h1
theorem KJ.far {S : HS} {N : KN} (h : KJ S N) (m : Msg) (now : Nat) : KJ S (farF S N m now).2 := by
  cases hr : renewF S N m with
  | some e => rw [far_ren hr]; exact h.pk (show lk S.held m.key = some e.1 from h _ _ (renew_at hr).1)
  | none =>
    rw [far_far hr]
    show KJ S (afterF S N m.key now)
    cases eh : lk S.held m.key with
    | none => rw [after_none eh]; exact h.dk _
    | some x => rw [after_some eh]; exact (h.dk _).pk eh
theorem near_state {S : HS} {N : KN} {m : Msg} {now : Nat} (hw : lk S.ways m.key = none) : (nearFn S N m now).2.1 = (askFn S m).2 := by
  unfold nearFn
  split
  · rename_i hg
    split
    · rfl
    · rename_i hn
      rw [ask_plainF hw hg (by simpa using hn)]
      cases lk N m.key with
      | none => rfl
      | some e => simp only []; split <;> rfl
  · rfl
theorem KJ.near {S : HS} {N : KN} (h : KJ S N) {m : Msg} {now : Nat} (hw : lk S.ways m.key = none) : KJ (nearFn S N m now).2.1 (nearFn S N m now).2.2 := by
  unfold nearFn
  split
  · rename_i hg
    split
    · exact h.held (ask_getH hg)
    · cases lk N m.key with
      | none => exact h.far m now
      | some e => simp only []; split <;> first | exact h | exact h.far m now
  · exact h.ask m
theorem near_as {S : HS} {N : KN} (h : KJ S N) {m : Msg} {now : Nat} (hw : lk S.ways m.key = none) :
    ((nearFn S N m now).1.1 = farS ∧ (nearFn S N m now).1.2 = (askFn S m).1) ∨
    (((nearFn S N m now).1.1 = copyS ∨ (nearFn S N m now).1.1 = renS) ∧ (nearFn S N m now).1.2.1 = (askFn S m).1.1 ∧ (nearFn S N m now).1.2.2.2 = (askFn S m).1.2.2 ∧ valO (nearFn S N m now).1.2.2.1 markS = valO (askFn S m).1.2.1 markS ∧ (nearFn S N m now).1.2.2.1.length ≤ 8 ∧ (askFn S m).1.2.1.length ≤ 8) := by
  have far : m.w = getS → needs m.hs = false → ((farF S N m now).1.1 = farS ∧ (farF S N m now).1.2 = (askFn S m).1) ∨ (((farF S N m now).1.1 = copyS ∨ (farF S N m now).1.1 = renS) ∧ (farF S N m now).1.2.1 = (askFn S m).1.1 ∧ (farF S N m now).1.2.2.2 = (askFn S m).1.2.2 ∧ valO (farF S N m now).1.2.2.1 markS = valO (askFn S m).1.2.1 markS ∧ (farF S N m now).1.2.2.1.length ≤ 8 ∧ (askFn S m).1.2.1.length ≤ 8) := fun hg hn => by
    rw [ask_plainF hw hg hn]
    cases hr : renewF S N m with
    | some e =>
      rw [far_ren hr, plain_some (h _ _ (renew_at hr).1)]
      exact .inr ⟨.inr rfl, rfl, rfl, rfl, (by show 2 ≤ 8; decide), (by show 2 ≤ 8; decide)⟩
    | none =>
      rw [far_far hr]
      exact .inl ⟨rfl, rfl⟩
  unfold nearFn
  split
  · rename_i hg
    split
    · exact .inl ⟨rfl, rfl⟩
    · rename_i hn
      have hn : needs m.hs = false := by simpa using hn
      cases eN : lk N m.key with
      | none => exact far hg hn
      | some e =>
        simp only []
        split
        · rw [ask_plainF hw hg hn, plain_some (h _ _ eN)]
          exact .inr ⟨.inl rfl, rfl, rfl, rfl, (by show 3 ≤ 8; decide), (by show 2 ≤ 8; decide)⟩
        · exact far hg hn
  · exact .inl ⟨rfl, rfl⟩
structure NT (S : HS) (N : KN) (k now : Nat) : Prop where
  ok : NOk N k
  t : ∀ x ∈ N, x.2.2 ≤ now
theorem NT.mono {S S' : HS} {N : KN} {k j a b : Nat} (h : NT S N k a) (l : k ≤ j) (l2 : a ≤ b) : NT S' N j b := ⟨h.ok.mono l, fun x m => Nat.le_trans (h.t x m) l2⟩
theorem NT.dk {S : HS} {N : KN} {k a : Nat} (h : NT S N k a) (j : List Nat) : NT S (dk N j) k a := ⟨h.ok.dk j, fun x m => h.t x (dk_mem m)⟩
theorem NT.pk {S : HS} {N : KN} {k a : Nat} (h : NT S N k a) {j : List Nat} {e : KE} (h1 : e.1.1.length ≤ 120 ∧ okT e.1.1 = true ∧ e.1.2 ≤ k) (h2 : j.length ≤ 1000 ∧ okT j = true) (h3 : e.2 ≤ a) : NT S (pk N j e) (k + 1) a := ⟨h.ok.pk h1 h2, fun x m => by
  rcases pk_mem m with m | rfl
  · exact h.t x m
  · exact h3⟩
theorem NT.far {S : HS} {N : KN} {k now : Nat} (hok : HOk S k) (h : NT S N k now) {m : Msg} (hk : m.key.length ≤ 1000 ∧ okT m.key = true) : NT S (farF S N m now).2 (k + 1) now := by
  cases hr : renewF S N m with
  | some e =>
    rw [far_ren hr]
    have hb := h.ok.body _ (lk_mem (renew_at hr).1)
    exact h.pk ⟨hb.1, hb.2.1, hb.2.2.1⟩ hk (Nat.le_refl _)
  | none =>
    rw [far_far hr]
    show NT S (afterF S N m.key now) (k + 1) now
    cases eh : lk S.held m.key with
    | none => rw [after_none eh]; exact (h.dk _).mono (Nat.le_succ _) (Nat.le_refl _)
    | some x =>
      rw [after_some eh]
      exact (h.dk _).pk (hok.lk eh) hk (Nat.le_refl _)
theorem NT.near {S : HS} {N : KN} {k now : Nat} (hok : HOk S k) (h : NT S N k now) {m : Msg} (hk : m.key.length ≤ 1000 ∧ okT m.key = true) {S' : HS} : NT S' (nearFn S N m now).2.2 (k + 1) now := by
  unfold nearFn
  split
  · split
    · exact h.mono (Nat.le_succ _) (Nat.le_refl _)
    · cases lk N m.key with
      | none => exact (h.far hok hk).mono (Nat.le_refl _) (Nat.le_refl _)
      | some e =>
        simp only []
        split
        · exact h.mono (Nat.le_succ _) (Nat.le_refl _)
        · exact (h.far hok hk).mono (Nat.le_refl _) (Nat.le_refl _)
  · show NT S' (if _ then _ else _) _ _
    split
    · exact (h.dk _).mono (Nat.le_succ _) (Nat.le_refl _)
    · exact h.mono (Nat.le_succ _) (Nat.le_refl _)
def KI (S : HS) (N : KN) : Prop := ∀ k e, lk N k = some e → e.1.2 ≤ S.many ∧ ∀ x, lk S.held k = some x → x.2 = e.1.2 → x = e.1
theorem KI.dk {S : HS} {N : KN} (h : KI S N) (j : List Nat) : KI S (dk N j) := fun k e he => by
  rw [lk_dk] at he
  split at he
  · cases he
  · exact h k e he
theorem KI.pk {S : HS} {N : KN} (h : KI S N) {j : List Nat} {e : KE} (h1 : e.1.2 ≤ S.many) (h2 : ∀ x, lk S.held j = some x → x.2 = e.1.2 → x = e.1) : KI S (pk N j e) := fun k e2 he => by
  rw [lk_pk] at he
  split at he
  · rename_i hk; cases he; rw [hk]; exact ⟨h1, h2⟩
  · exact h k e2 he
theorem KI.ask {S S' : HS} {N : KN} (h : KI S N) (c : AskC S S') : KI S' N := fun k e he => by
  have h1 := h k e he
  rcases c with ⟨g, m⟩ | ⟨j, y, _, g, m⟩ | ⟨ps, as, b, g, m⟩
  · rw [g, m]; exact h1
  · rw [g, m]
    refine ⟨by omega, fun x hx hn => ?_⟩
    rw [lk_dk] at hx
    split at hx
    · cases hx
    · exact h1.2 x hx hn
  · rw [g, m]
    refine ⟨by omega, fun x hx hn => ?_⟩
    rw [lk_pk] at hx
    split at hx
    · cases hx
      have hn : S.many + 1 = e.1.2 := hn
      omega
    · exact h1.2 x hx hn
theorem KI.ren {S : HS} {N : KN} (h : KI S N) {m : Msg} {e : KE} (hr : renewF S N m = some e) : lk S.held m.key = some e.1 := by
  obtain ⟨h1, _, x, h3, h4⟩ := renew_at hr
  rw [h3, (h _ _ h1).2 x h3 h4]
theorem KI.far {S : HS} {N : KN} (h : KI S N) (hl : ∀ k x, lk S.held k = some x → x.2 ≤ S.many) (m : Msg) (now : Nat) : KI S (farF S N m now).2 := by
  cases hr : renewF S N m with
  | some e =>
    rw [far_ren hr]
    exact h.pk (h _ _ (renew_at hr).1).1 (h _ _ (renew_at hr).1).2
  | none =>
    rw [far_far hr]
    show KI S (afterF S N m.key now)
    cases eh : lk S.held m.key with
    | none => rw [after_none eh]; exact h.dk _
    | some x =>
      rw [after_some eh]
      exact (h.dk _).pk (hl _ _ eh) fun y hy _ => by rw [eh] at hy; exact (Option.some.inj hy).symm
theorem KI.near {S : HS} {N : KN} (h : KI S N) (hl : ∀ k x, lk S.held k = some x → x.2 ≤ S.many) {m : Msg} {now : Nat} : KI (nearFn S N m now).2.1 (nearFn S N m now).2.2 := by
  unfold nearFn
  split
  · split
    · exact h.ask (askC S m)
    · cases lk N m.key with
      | none => exact h.far hl m now
      | some e => simp only []; split <;> first | exact h | exact h.far hl m now
  · show KI (askFn S m).2 (if _ then _ else _)
    split
    · exact (h.ask (askC S m)).dk _
    · exact h.ask (askC S m)
abbrev TE := (List (List Nat) × List Hd) × Nat × Ans
abbrev toldD (t : TE) : D := .tup [pathD t.1.1 t.1.2, .int (t.2.1 : Nat), anD t.2.2]
def TI (f : Nat) (told : List TE) (N : KN) : Prop := ∀ k e, lk N k = some e → ∃ t ∈ told, textP t.1.1 t.1.2 = k ∧ t.2.1 = e.2 ∧ t.2.2 = keptA f e.1
theorem TI.more {f : Nat} {told : List TE} {N : KN} (h : TI f told N) (t : TE) : TI f (told ++ [t]) N := fun k e he => by
  obtain ⟨u, hu, g⟩ := h k e he
  exact ⟨u, List.mem_append_left _ hu, g⟩
theorem TI.dk {f : Nat} {told : List TE} {N : KN} (h : TI f told N) (j : List Nat) : TI f told (dk N j) := fun k e he => by
  rw [lk_dk] at he
  split at he
  · cases he
  · exact h k e he
theorem TI.pk {f : Nat} {told : List TE} {N : KN} (h : TI f told N) {j : List Nat} {e : KE} (g : ∃ t ∈ told, textP t.1.1 t.1.2 = j ∧ t.2.1 = e.2 ∧ t.2.2 = keptA f e.1) : TI f told (pk N j e) := fun k e2 he => by
  rw [lk_pk] at he
  split at he
  · rename_i hk; cases he; rw [hk]; exact g
  · exact h k e2 he
abbrev getM (ps : List (List Nat)) (as : List Hd) : Msg := ⟨getS, ps, as, [], []⟩
theorem near_get {S : HS} {N : KN} {ps : List (List Nat)} {as : List Hd} {now : Nat} {told : List TE} (h : KI S N) (ti : TI S.fresh told N) (ht : ((ps, as), now, plainF S (textP ps as)) ∈ told) :
    TI S.fresh told (nearFn S N (getM ps as) now).2.2 ∧ (nearFn S N (getM ps as) now).2.1 = S ∧
    (((nearFn S N (getM ps as) now).1.1 ≠ copyS ∧ (nearFn S N (getM ps as) now).1.2 = plainF S (textP ps as)) ∨
     ∃ e, lk N (textP ps as) = some e ∧ now < e.2 + S.fresh ∧ (nearFn S N (getM ps as) now).1 = (copyS, ageF S.fresh e now)) := by
  have far : TI S.fresh told (farF S N (getM ps as) now).2 ∧ (farF S N (getM ps as) now).1.1 ≠ copyS ∧ (farF S N (getM ps as) now).1.2 = plainF S (textP ps as) := by
    cases hr : renewF S N (getM ps as) with
    | some e =>
      have hh : lk S.held (textP ps as) = some e.1 := h.ren hr
      rw [far_ren hr]
      refine ⟨ti.pk ⟨_, ht, rfl, rfl, plain_some hh⟩, (by show renS ≠ copyS; decide), (plain_some hh).symm⟩
    | none =>
      rw [far_far hr]
      refine ⟨?_, (by show farS ≠ copyS; decide), rfl⟩
      show TI S.fresh told (afterF S N (textP ps as) now)
      cases eh : lk S.held (textP ps as) with
      | none => rw [after_none eh]; exact ti.dk _
      | some x =>
        rw [after_some eh]
        exact (ti.dk _).pk ⟨_, ht, rfl, rfl, plain_some eh⟩
  unfold nearFn
  rw [if_pos rfl, if_neg (show ¬ needs [] = true from Bool.false_ne_true)]
  show (TI S.fresh told (match lk N (textP ps as) with
    | none => ((farF S N (getM ps as) now).1, S, (farF S N (getM ps as) now).2)
    | some e => if now < e.2 + S.fresh then ((copyS, ageF S.fresh e now), S, N) else ((farF S N (getM ps as) now).1, S, (farF S N (getM ps as) now).2)).2.2 ∧ _)
  cases eN : lk N (textP ps as) with
  | none => exact ⟨far.1, rfl, .inl far.2⟩
  | some e =>
    simp only []
    split
    · rename_i hl
      exact ⟨ti, rfl, .inr ⟨e, rfl, hl, rfl⟩⟩
    · exact ⟨far.1, rfl, .inl far.2⟩
theorem six_inj : ∀ x ∈ sixP, ∀ y ∈ sixP, textP x.1 x.2 = textP y.1 y.2 → x = y := by decide +kernel
def toldT1 (pd ad : D) (d : D) : Bool := match d with
  | .tup [o, _, n] => eqD o pd && eqD n ad
  | _ => false
def whenD (d : D) : D := match d with
  | .tup [_, w, _] => w
  | _ => d
def youngD (now fr : Nat) (d : D) : Bool := match d with
  | .int w => decide (((now : Nat) : Int) - w < ((fr : Nat) : Int))
  | _ => false
def ageD (now : Nat) (d : D) : D := match d with
  | .int w => .str (TL.numL (((now : Nat) : Int) - w).toNat)
  | _ => d
theorem age_in {told : List TE} {p : List (List Nat) × List Hd} {x : Ans} {wn now fr : Nat} (h : (p, wn, x) ∈ told) (hw : wn ≤ now) (hf : now < wn + fr) :
    D.str (TL.numL (now - wn)) ∈ (((((told.map toldD).filter (toldT1 (pathD p.1 p.2) (anD x))).map whenD).filter (youngD now fr)).map (ageD now)) := by
  refine List.mem_map.mpr ⟨.int (wn : Nat), List.mem_filter.mpr ⟨List.mem_map.mpr ⟨toldD (p, wn, x), List.mem_filter.mpr ⟨List.mem_map.mpr ⟨_, h, rfl⟩, ?_⟩, rfl⟩, ?_⟩, ?_⟩
  · show (eqD (pathD p.1 p.2) (pathD p.1 p.2) && eqD (anD x) (anD x)) = true
    rw [(eqD_iff _ _).mpr rfl, (eqD_iff _ _).mpr rfl]
    rfl
  · exact decide_eq_true (by omega)
  · show D.str (TL.numL (((now : Nat) : Int) - ((wn : Nat) : Int)).toNat) = _
    rw [show (((now : Nat) : Int) - ((wn : Nat) : Int)).toNat = now - wn by omega]
theorem plainF_ok {S : HS} {k : Nat} (h : HOk S k) (hk : k ≤ 900) (j : List Nat) : okAn (plainF S j) := by
  have := h.get hk j []
  rwa [getF_plain rfl rfl] at this
theorem okH_fresh {n : Nat} (h : n < 10 ^ 18) : okH (freshS, TL.numL n) = true := okH_num (by decide) h (by decide)
theorem okH_age {n : Nat} (h : n < 10 ^ 18) : okH (ageS, TL.numL n) = true := okH_num (by decide) h (by decide)
theorem kept_okA {f : Nat} {x : List Nat × Nat} (hf : f ≤ 999) (h1 : x.1.length ≤ 120) (h2 : okT x.1 = true) (h3 : x.2 < 10 ^ 18) : okAn (keptA f x) := okAn_two (by decide) (by decide) (okH_mark h3) (okH_fresh (by omega)) h1 h2
theorem age_okA {f : Nat} {e : KE} {now : Nat} (hf : f ≤ 999) (h1 : e.1.1.length ≤ 120) (h2 : okT e.1.1 = true) (h3 : e.1.2 < 10 ^ 18) (h4 : now ≤ 9999) : okAn (ageF f e now) := by
  have a := kept_okA hf h1 h2 h3
  refine ⟨a.1, a.2.1, (by show 3 ≤ 8; decide), ?_, h1, h2⟩
  show (okH _ && (okH _ && (okH _ && true))) = true
  rw [okH_mark h3, okH_fresh (by omega), okH_age (by omega)]
  rfl
theorem age_pl (now fr : Nat) (l : List D) : ((l.filter fun d => youngD now fr d).map fun d => ageD now d).all (pl 12) = true := by
  refine List.all_eq_true.mpr fun x hx => ?_
  obtain ⟨d, hd, rfl⟩ := List.mem_map.mp hx
  have h2 := (List.mem_filter.mp hd).2
  cases d with
  | int w => exact pl_okS 12 (num_T1 _)
  | _ => cases h2
theorem rep_hd (n : Nat) (x : Hd) : (List.replicate n [hdD x]).flatten = (List.replicate n x).map hdD := by
  induction n with
  | zero => rfl
  | succ n ih =>
    rw [List.replicate_succ, List.replicate_succ, List.flatten_cons, List.map_cons, ih]
    rfl
theorem rep_ok {n : Nat} (h : n ≤ 8) (m : Msg) (hm : m.ok) : (Msg.mk getS m.ps m.as (List.replicate n ([97], [98])) []).ok := by
  obtain ⟨m1, m2, m3, m4, m5, m6, m7, m8, m9⟩ := hm
  refine ⟨(show getS ∈ wordsL by decide), m2, m3, m4, m5, ?_, ?_, Nat.zero_le _, rfl⟩
  · show (List.replicate n _).length ≤ 8
    rw [List.length_replicate]
    exact h
  · exact List.all_eq_true.mpr fun x hx => by
      rw [List.eq_of_mem_replicate hx]
      decide
theorem near_okA {S : HS} {N : KN} {k j t now : Nat} {m : Msg} (hok : HOk S k) (hk : k ≤ 900) (hnt : NT S N j t) (hj : j ≤ 900) (hm : m.ok) (hn : now ≤ 9999) : okAn (nearFn S N m now).1.2 := by
  have kept : ∀ {e : KE}, lk N m.key = some e → e.1.1.length ≤ 120 ∧ okT e.1.1 = true ∧ e.1.2 < 10 ^ 18 := fun {e} he => by
    have := hnt.ok.body _ (lk_mem he)
    have h3 : e.1.2 ≤ j := this.2.2.1
    exact ⟨this.1, this.2.1, by omega⟩
  have far : okAn (farF S N m now).1.2 := by
    cases hr : renewF S N m with
    | some e =>
      rw [far_ren hr]
      have := kept (renew_at hr).1
      exact kept_okA hok.fresh this.1 this.2.1 this.2.2
    | none => rw [far_far hr]; exact plainF_ok hok hk _
  unfold nearFn
  split
  · split
    · exact (hok.ask hk hm).2.1
    · cases eN : lk N m.key with
      | none => exact far
      | some e =>
        simp only []
        split
        · have := kept eN
          exact age_okA hok.fresh this.1 this.2.1 this.2.2 hn
        · exact far
  · exact (hok.ask hk hm).2.1
theorem valO_pl {hs : List Hd} (h : hs.all okH = true) (n : List Nat) : pl 12 (optD (valO hs n)) = true := by
  unfold valO
  cases e : hs.find? fun x => decide (x.1 = n) with
  | none => rfl
  | some x =>
    have h1 := List.all_eq_true.mp h x (List.mem_of_find?_eq_some e)
    refine pl_okS 12 ?_
    unfold okH hvL rowL at h1
    simp at h1
    exact h1.2.1.1.2
end Aw
namespace Aw
open PySem PySem.Spec L2 Q2 SX
def topS (i : Nat) : Stmt := PySem.Challenge.pw_askwire_k19_whole_near_as_far.main.body.getD i (.Pass ⟨0, 0, 0, 0⟩)
abbrev s__wall : Stmt := topS 0
abbrev s_is_within : Stmt := topS 12
abbrev s_is_text : Stmt := topS 13
abbrev s_is_row : Stmt := topS 14
abbrev s_is_figures : Stmt := topS 15
abbrev s_sign_text : Stmt := topS 16
abbrev s_quote : Stmt := topS 17
abbrev s_is_head_name : Stmt := topS 21
abbrev s_is_head_value : Stmt := topS 22
abbrev s_are_heads : Stmt := topS 23
abbrev s_checked_heads : Stmt := topS 24
abbrev s_look_head : Stmt := topS 25
abbrev s_found_value : Stmt := topS 26
abbrev s_value_of : Stmt := topS 27
abbrev s_put_head : Stmt := topS 28
abbrev s_is_path : Stmt := topS 30
abbrev s_text_of : Stmt := topS 31
abbrev s_is_asking : Stmt := topS 35
abbrev s_checked_asking : Stmt := topS 36
abbrev s_is_kept : Stmt := topS 38
abbrev s_Near___init__ : Stmt := inClass (topS 39) 0
abbrev s_Near_aged : Stmt := inClass (topS 39) 1
abbrev s_Near_is_fresh : Stmt := inClass (topS 39) 2
abbrev s_Near_forget : Stmt := inClass (topS 39) 3
abbrev s_Near_far : Stmt := inClass (topS 39) 4
abbrev s_Near_ask : Stmt := inClass (topS 39) 5
abbrev s_Near_copies : Stmt := inClass (topS 39) 6
abbrev s_part_of : Stmt := topS 42
abbrev s_House___init__ : Stmt := inClass (topS 43) 0
abbrev s_House_mark : Stmt := inClass (topS 43) 1
abbrev s_House_lay : Stmt := inClass (topS 43) 2
abbrev s_House_to_get : Stmt := inClass (topS 43) 3
abbrev s_House_to_put : Stmt := inClass (topS 43) 4
abbrev s_House_to_drop : Stmt := inClass (topS 43) 5
abbrev s_House_to_add : Stmt := inClass (topS 43) 6
abbrev s_House_done : Stmt := inClass (topS 43) 7
abbrev s_House_ask : Stmt := inClass (topS 43) 8
abbrev s_House_send_on : Stmt := inClass (topS 43) 9
abbrev s_House_things : Stmt := inClass (topS 43) 10
abbrev s_House_changes : Stmt := inClass (topS 43) 11
abbrev s__law_cell : Stmt := topS 45
abbrev s__law_mix : Stmt := topS 46
abbrev s__law_seed : Stmt := topS 47
abbrev s__law_pick : Stmt := topS 48
abbrev s__law_signs : Stmt := topS 49
abbrev s__law_text : Stmt := topS 50
abbrev s__law_quote : Stmt := topS 51
abbrev s__law_path_text : Stmt := topS 52
abbrev s__law_place : Stmt := topS 53
abbrev s__law_deed : Stmt := topS 54
abbrev s__law_value_in : Stmt := topS 55
abbrev s__law_answered : Stmt := topS 56
abbrev s__law_got : Stmt := topS 57
abbrev s__law_changed : Stmt := topS 58
abbrev s_law : Stmt := topS 59
def sp__law_cell : DSp := fun ds ω Q _ => ∃ a ns, ∃ k : Nat, ds = [.ref a, .int k] ∧ Sc ω a (ns.map D.int) ∧ Q (.int (cellF ns k)) ω
def sp_is_within : DSp := fun ds ω Q _ => ∃ d lo hi, ds = [d, .int lo, .int hi] ∧ kn ω d = true ∧ Q (.bl (withinD d lo hi)) ω
def sp_House___init__ (aHouse aBadNumber : Addr) : DSp := fun ds ω Q E => ∃ p dx d, ds = [.ref p, d] ∧ kn ω d = true ∧ ω p = some (.ins aHouse dx []) ∧ (∀ fr : Nat, d = .int (fr : Nat) → fr ≤ 999 → ∀ ω' A, HKeep [p] ω ω' → HAt aHouse ω' p A (HS.new fr) → (∀ x ∈ [A.ph, A.pn, A.pk, A.pw], ω x = none) → Q .non ω') ∧ (withinD d 0 999 = false → E (.ref aBadNumber) none ω)
def sp_Near___init__ (aNear : Addr) : DSp := fun ds ω Q _ => ∃ p dx, ds = [.ref p] ∧ ω p = some (.ins aNear dx []) ∧ (∀ ω' A, HKeep [p] ω ω' → (∀ f, KAt aNear ω' p A f [] 0) → ω A.q = none → Q .non ω')
def sp__law_mix : DSp := fun ds ω Q _ => ∃ c p m, ds = [.int c, .int p, .int m] ∧ 0 < p ∧ p ≤ 2147483647 ∧ 0 < m ∧ Q (.int (mixF c p m)) ω
def sp__law_seed : DSp := fun ds ω Q _ => ∃ s k, ds = [.int s, .int k] ∧ Q (.int (seedF s k)) ω
def sp__law_place : DSp := fun ds ω Q _ => ∃ s, ds = [.int s] ∧ Q (pathD (placeF s).1 (placeF s).2) ω
def sp__law_signs : DSp := fun ds ω Q _ => ds = [] ∧ Q (.str lSIGNS) ω
def sp__law_quote : DSp := fun ds ω Q _ => ∃ l, ds = [.str l] ∧ okT l = true ∧ l.length ≤ 100000 ∧ Q (.str (quoteL l)) ω
def sp__law_path_text : DSp := fun ds ω Q _ => ∃ ps as, ds = [pathD ps as] ∧ ps.length ≤ 5 ∧ as.length ≤ 4 ∧ ps.all okPart = true ∧ as.all okAsk = true ∧ Q (.str (textP ps as)) ω
def sp__law_pick : DSp := fun ds ω Q _ => ∃ s m, ds = [.int s, .int m] ∧ 0 < m ∧ Q (.int (pickF s m)) ω
def sp__law_text : DSp := fun ds ω Q _ => ∃ s m b, ds = [.int s, .int m, .bl b] ∧ 0 ≤ m ∧ m ≤ 100000 ∧ Q (.str (textF s m b)) ω
def sp__law_deed : DSp := fun ds ω Q _ => ∃ s a Z S k, ds = [.int s, .ref a] ∧ 0 ≤ s ∧ SAt ω a Z S ∧ HOk S k ∧ k ≤ 900 ∧ ∀ m : Msg, m.ok → DeedH m.hs 5 → (m.ps, m.as) = placeF (s / 5) → m.b.length ≤ 12 → Q m.D ω
def sp_is_text : DSp := fun ds ω Q _ => ∃ d m, ds = [d, .int m] ∧ (∃ k, kindD ω d = some k) ∧ Q (.bl (isTextD d m)) ω
def sp_is_path : DSp := fun ds ω Q _ => ∃ d, ds = [d] ∧ kn ω d = true ∧ Q (.bl (isPathD d)) ω
def sp_is_head_name : DSp := fun ds ω Q _ => ∃ d, ds = [d] ∧ kn ω d = true ∧ Q (.bl (isHNameD d)) ω
def sp_is_row : DSp := fun ds ω Q _ => ∃ d m, ds = [d, .int m] ∧ kn ω d = true ∧ Q (.bl (isRowD d m)) ω
def sp_is_head_value : DSp := fun ds ω Q _ => ∃ n d, ds = [.str n, d] ∧ kn ω d = true ∧ Q (.bl (isHValD n d)) ω
def sp_are_heads : DSp := fun ds ω Q _ => ∃ d, ds = [d] ∧ kn ω d = true ∧ Q (.bl (isHeadsD d)) ω
def sp_is_asking : DSp := fun ds ω Q _ => ∃ d, ds = [d] ∧ kn ω d = true ∧ Q (.bl (isAskingD d)) ω
def sp_checked_asking (aBadAsking : Addr) : DSp := fun ds ω Q E => ∃ d, ds = [d] ∧ kn ω d = true ∧ (isAskingD d = true → Q d ω) ∧ (isAskingD d = false → E (.ref aBadAsking) none ω)
def sp_sign_text : DSp := fun ds ω Q _ => ∃ c, ds = [.str [c]] ∧ isT1 c = true ∧ Q (.str (qs c)) ω
def sp_quote : DSp := fun ds ω Q _ => ∃ l, ds = [.str l] ∧ okT l = true ∧ l.length ≤ 100000 ∧ Q (.str (quoteL l)) ω
def sp_text_of : DSp := fun ds ω Q _ => ∃ ps as, ds = [pathD ps as] ∧ ps.length ≤ 6 ∧ as.length ≤ 4 ∧ ps.all (fun s => decide (s.length ≤ 1000) && okT s) = true ∧ as.all okAsk = true ∧ Q (.str (textP ps as)) ω
def sp_found_value : DSp := fun ds ω Q _ => ∃ hs n, ds = [hsD hs, .str n] ∧ Q (valOf hs n) ω
def sp_House_mark (aHouse : Addr) : DSp := fun ds ω Q _ => ∃ p A S k key, ds = [.ref p, .str key] ∧ HAt aHouse ω p A S ∧ HOk S k ∧ k ≤ 900 ∧ Q (.str (markF S key)) ω
def sp_is_figures : DSp := fun ds ω Q _ => ∃ l m, ds = [.str l, .int m] ∧ Q (.bl (isFig l m)) ω
def sp_part_of : DSp := fun ds ω Q _ => ∃ t m, ds = [.str t, .int ((m : Nat) : Int)] ∧ Q (pairO (partF t m)) ω
def sp_House_to_get (aHouse : Addr) : DSp := fun ds ω Q _ => ∃ p A S k key hs, ds = [.ref p, .str key, hsD hs] ∧ HAt aHouse ω p A S ∧ HOk S k ∧ k ≤ 900 ∧ hs.all okH = true ∧ Q (anD (getF S key hs)) ω
def sp_House_lay (aHouse : Addr) : DSp := fun ds ω Q _ => ∃ p A S k key b, ds = [.ref p, .str key, .str b] ∧ HAt aHouse ω p A S ∧ HOk S k ∧ k ≤ 900 ∧ ∀ ω', HKeep (A.all p) ω ω' → HAt aHouse ω' p A (layF S key b) → Q .non ω'
def sp_House_to_put (aHouse : Addr) : DSp := fun ds ω Q _ => ∃ p A S k key b, ds = [.ref p, .str key, .str b] ∧ HAt aHouse ω p A S ∧ HOk S k ∧ k < 900 ∧ (key.length ≤ 1000 ∧ okT key = true) ∧ b.length ≤ 120 ∧ okT b = true ∧ ∀ ω', HKeep (A.all p) ω ω' → HAt aHouse ω' p A (putFn S key b).2 → Q (anD (putFn S key b).1) ω'
def sp_House_to_drop (aHouse : Addr) : DSp := fun ds ω Q _ => ∃ p A S k key, ds = [.ref p, .str key] ∧ HAt aHouse ω p A S ∧ HOk S k ∧ k < 900 ∧ ∀ ω', HKeep (A.all p) ω ω' → HAt aHouse ω' p A (dropFn S key).2 → Q (anD (dropFn S key).1) ω'
def sp_House_to_add (aHouse : Addr) : DSp := fun ds ω Q _ => ∃ p A S k ps as b, ds = [.ref p, pathD ps as, .str b] ∧ HAt aHouse ω p A S ∧ HOk S k ∧ k < 899 ∧ ps.length ≤ 5 ∧ as.length ≤ 4 ∧ ps.all okPart = true ∧ as.all okAsk = true ∧ b.length ≤ 120 ∧ okT b = true ∧ ∀ ω', HKeep (A.all p) ω ω' → HAt aHouse ω' p A (addFn S ps as b).2 → Q (anD (addFn S ps as b).1) ω'
def sp_House_done (aHouse : Addr) : DSp := fun ds ω Q _ => ∃ p A S k m, ds = [.ref p, Msg.D m] ∧ HAt aHouse ω p A S ∧ HOk S k ∧ k < 899 ∧ m.ok ∧ ∀ ω', HKeep (A.all p) ω ω' → HAt aHouse ω' p A (doneF S m).2 → Q (anD (doneF S m).1) ω'
def sp_House_ask (aHouse aBadAsking : Addr) : DSp := fun ds ω Q E => ∃ p d, ds = [.ref p, d] ∧ kn ω d = true ∧ (∃ A S k, HAt aHouse ω p A S ∧ HOk S k ∧ k < 899 ∧ (∀ m : Msg, d = m.D → m.ok → ∀ ω', HKeep (A.all p) ω ω' → HAt aHouse ω' p A (askFn S m).2 → Q (anD (askFn S m).1) ω')) ∧ (isAskingD d = false → E (.ref aBadAsking) none ω)
def sp_Near_is_fresh (aNear : Addr) : DSp := fun ds ω Q _ => ∃ p A f N t k e now, ds = [.ref p, .str k, .int ((now : Nat) : Int)] ∧ KAt aNear ω p A f N t ∧ f ≤ 999 ∧ lk N k = some e ∧ Q (.bl (decide (now < e.2 + f))) ω
def sp_put_head : DSp := fun ds ω Q _ => ∃ hs n t, ds = [hsD hs, .str n, .str t] ∧ hs.length ≤ 1000 ∧ Q (hsD (putH hs n t)) ω
def sp_Near_aged (aNear : Addr) : DSp := fun ds ω Q _ => ∃ p A f N t k e now, ds = [.ref p, .str k, .int ((now : Nat) : Int)] ∧ KAt aNear ω p A f N t ∧ lk N k = some e ∧ e.2 ≤ now ∧ now ≤ 9999 ∧ Q (anD (ageF f e now)) ω
def sp_Near_forget (aNear : Addr) : DSp := fun ds ω Q _ => ∃ p A f N t k, ds = [.ref p, .str k] ∧ KAt aNear ω p A f N t ∧ (∀ ω', HKeep (A.all p) ω ω' → KAt aNear ω' p A f (dk N k) t → Q .non ω')
def sp_is_kept : DSp := fun ds ω Q _ => ∃ a : Ans, ds = [anD a] ∧ Q (.bl (isKept a)) ω
def sp_Near_far (aNear aHouse aBadAsking : Addr) : DSp := fun ds ω Q _ => ∃ p A h B S k N t j m now, ds = [.ref p, .ref h, Msg.D m, .int ((now : Nat) : Int)] ∧ KAt aNear ω p A S.fresh N t ∧ HAt aHouse ω h B S ∧ (∀ x ∈ A.all p, x ∉ B.all h) ∧ HOk S k ∧ k < 899 ∧ NOk N j ∧ j ≤ 900 ∧ m.ok ∧ lk S.ways m.key = none ∧ m.w = getS ∧ needs m.hs = false ∧ ∀ ω', HKeep (A.all p ++ B.all h) ω ω' → KAt aNear ω' p A S.fresh (farF S N m now).2 t → HAt aHouse ω' h B S → Q (.tup [.str (farF S N m now).1.1, anD (farF S N m now).1.2]) ω'
def sp_Near_ask (aNear aHouse aBadAsking aBadNumber : Addr) : DSp := fun ds ω Q _ => ∃ p A h B S k N t j m now, ds = [.ref p, .ref h, Msg.D m, .int ((now : Nat) : Int)] ∧ KAt aNear ω p A S.fresh N t ∧ HAt aHouse ω h B S ∧ (∀ x ∈ A.all p, x ∉ B.all h) ∧ HOk S k ∧ k < 899 ∧ NOk N j ∧ j ≤ 900 ∧ m.ok ∧ S.ways = [] ∧ t ≤ now ∧ now ≤ 9999 ∧ (∀ x ∈ N, x.2.2 ≤ now) ∧ ∀ ω', HKeep (A.all p ++ B.all h) ω ω' → KAt aNear ω' p A S.fresh (nearFn S N m now).2.2 now → HAt aHouse ω' h B (nearFn S N m now).2.1 → Q (.tup [.str (nearFn S N m now).1.1, anD (nearFn S N m now).1.2]) ω'
def sp__law_value_in : DSp := fun ds ω Q _ => ∃ hs n, ds = [hsD hs, .str n] ∧ Q (valOf hs n) ω
def sp__law_got : DSp := fun ds ω Q _ => ∃ a Z S k key hs, ds = [.ref a, .str key, hsD hs] ∧ SAt ω a Z S ∧ HOk S k ∧ k ≤ 900 ∧ hs.all okH = true ∧ Q (anD (getF S key hs)) ω
def sp__law_changed : DSp := fun ds ω Q _ => ∃ a Z S k m, ds = [.ref a, .str (Msg.key m), Msg.D m] ∧ SAt ω a Z S ∧ HOk S k ∧ k < 899 ∧ m.ok ∧ ¬ m.w = getS ∧ lk S.ways m.key = none ∧ ∀ ω', HKeep (Z.all a) ω ω' → SAt ω' a Z (doneF S m).2 → Q (anD (doneF S m).1) ω'
def sp__law_answered : DSp := fun ds ω Q _ => ∃ a Z S k m, ds = [.ref a, Msg.D m] ∧ SAt ω a Z S ∧ HOk S k ∧ k < 899 ∧ m.ok ∧ ∀ ω', HKeep (Z.all a) ω ω' → SAt ω' a Z (askFn S m).2 → Q (anD (askFn S m).1) ω'
def sp_checked_heads (aBadHeads : Addr) : DSp := fun ds ω Q E => ∃ d, ds = [d] ∧ kn ω d = true ∧ (isHeadsD d = true → Q d ω) ∧ (isHeadsD d = false → E (.ref aBadHeads) none ω)
def sp_look_head (aBadHeads : Addr) : DSp := fun ds ω Q E => ∃ n t, ds = [n, t] ∧ kn ω n = true ∧ kn ω t = true ∧ (lookD n t = true → Q .non ω) ∧ (lookD n t = false → E (.ref aBadHeads) none ω)
def sp_value_of (aBadHeads : Addr) : DSp := fun ds ω Q E => ∃ h n, ds = [h, n] ∧ kn ω h = true ∧ kn ω n = true ∧ (∀ hs s, h = hsD hs → hs.length ≤ 8 → hs.all okH = true → n = .str s → hnL s = true → Q (valOf hs s) ω) ∧ ((isHeadsD h && isHNameD n) = false → E (.ref aBadHeads) none ω)
def sp_House_things (aHouse : Addr) : DSp := fun ds ω Q _ => ∃ p A S k, ds = [.ref p] ∧ HAt aHouse ω p A S ∧ HOk S k ∧ k ≤ 63 ∧ ∀ ys : List (List Nat), ys.Perm (S.held.map (·.1)) → ys.Pairwise (· ≤ ·) → ∀ l, ω l = none → Q (.ref l) (put ω l (.lst (ys.map (thingD S))))
def sp_House_changes (aHouse : Addr) : DSp := fun ds ω Q _ => ∃ p A S, ds = [.ref p] ∧ HAt aHouse ω p A S ∧ Q (.int (S.many : Nat)) ω
def sp_law : DSp := fun ds ω Q _ => ∃ (a : Addr) (ns : List Int), ds = [.ref a] ∧ ω a = some (.rol (ns.map D.int)) ∧ ns.length ≤ 63 ∧ Q (.bl true) ω
section
local macro_rules | `(tactic| walk_at "z") => `(tactic| first | assumption | ((try simp only [List.length_append, List.length_cons, List.length_nil, List.length_map, List.length_replicate]); first | omega | (rw [sizeLine_eq]; omega)) | decide +kernel | ((repeat' split) <;> decide +kernel))
local macro_rules | `(tactic| walk_at "o") => `(tactic| first | with_reducible exact put_same | with_reducible assumption | ((repeat (first | with_reducible exact put_same | with_reducible assumption | refine Ext.new (by assumption) _ _ ?_)); done) | (simp only [put, if_pos, if_true]; done) | simp [put, *])
local macro_rules | `(tactic| walk_at "bp") => `(tactic| first | with_reducible refine gb_add ?_ | with_reducible refine gb_adds (by walk_at "z") ?_ | with_reducible refine gb_addt (by walk_at "z") ?_ | refine gb_addl (by walk_at "o") (by walk_at "o") (by walk_at "z") fun _ _ => ?_ | refine gb_add ?_ | refine gb_adds (by walk_at "z") ?_)
local macro_rules | `(tactic| walk_at "be") => `(tactic| first | with_reducible refine gb_eqI ?_ | with_reducible refine gb_eqS ?_ | refine gb_eqS ?_ | refine gb_eqI ?_)
local macro_rules | `(tactic| walk_at "bn") => `(tactic| first | with_reducible refine gb_neI ?_ | with_reducible refine gb_neS ?_ | refine gb_neS ?_ | refine gb_neI ?_)
local macro_rules | `(tactic| walk_at "t") => `(tactic| first | refine ⟨_, rfl, ?_⟩ | refine ⟨_, tru_lst (by walk_at "o"), ?_⟩)
local macro_rules | `(tactic| walk_at "s") => `(tactic| first | refine ⟨_, rfl, ?_⟩ | refine ⟨_, isT_lst (by walk_at "o"), ?_⟩)
local macro_rules | `(tactic| walk_at "c") => `(tactic| first | with_reducible refine gc_lenS ?_ | with_reducible refine gc_lenT ?_ | with_reducible refine gc_lenL (by walk_at "o") ?_ | with_reducible refine gc_tupL (by walk_at "o") ?_ | with_reducible refine gc_tupT ?_ | with_reducible refine gc_min rfl ?_ | with_reducible refine gc_max rfl ?_ | with_reducible refine gc_lenR (by walk_at "o") ?_ | refine gc_tupL (by walk_at "o") ?_ | refine gc_lenL (by walk_at "o") ?_ | refine gc_lenS ?_ | refine gc_lenT ?_)
local macro_rules | `(tactic| walk_at "l") => `(tactic| first | with_reducible refine gl_str ?_ | with_reducible refine gl_tup ?_ | with_reducible refine gl_lst (by walk_at "o") ?_ | refine gl_lst (by walk_at "o") ?_ | refine gl_str ?_)
local macro_rules | `(tactic| walk_at "i") => `(tactic| first | with_reducible refine gi_tup (by rfl) ?_ | refine gi_lst (by walk_at "o") atI_0 ?_ | with_reducible refine gi_lst (by walk_at "o") (by rfl) ?_ | refine gi_tup rfl ?_)
local macro_rules | `(tactic| walk_at "y") => `(tactic| first | refine ⟨rfl, ?_⟩ | refine ⟨.inl ⟨rfl, _, by walk_at "o"⟩, ?_⟩ | refine ⟨.inr ⟨rfl, _, by walk_at "o"⟩, ?_⟩)
local macro_rules | `(tactic| walk_at "m") => `(tactic| first | with_reducible refine gm_count ?_ | with_reducible refine gm_startswith ?_ | with_reducible refine gm_strip ?_ | with_reducible refine gm_lstrip ?_ | with_reducible refine gm_partition (by decide) ?_ | with_reducible refine gm_append (by walk_at "o") (by walk_at "z") ?_ | refine gm_append (by walk_at "o") (by walk_at "z") ?_)
local macro_rules | `(tactic| walk_at "j") => `(tactic| first | refine ⟨_, rfl, ?_⟩ | refine ⟨_, _, rfl, by walk_at "o", ?_⟩)
local macro_rules | `(tactic| walk_at "x") => `(tactic| first | with_reducible exact Ext.refl _ | with_reducible assumption | (with_reducible refine Ext.trans ?_ (Ext.new (by assumption)); walk_at "x") | (with_reducible refine Ext.mut ?_ (by assumption); walk_at "x"))
local macro_rules | `(tactic| walk_at "eq") => `(tactic| first | rfl | assumption | (simp_all; done) | (simp_all; omega) | (rw [Bool.eq_iff_iff]; simp_all; done) | (rw [Bool.eq_iff_iff]; simp_all; omega))
local macro_rules | `(tactic| walk_at "k") => `(tactic| repeat' (first | with_reducible refine kn_tupI ?_ | with_reducible refine kns_app ?_ ?_ | with_reducible refine kns_cons ?_ ?_ | with_reducible exact kns_strs _ | with_reducible exact kns_cut _ _ (kns_strs _) | exact hsk _ | exact kns_cut _ _ (hsk _) | with_reducible refine kns_cut _ _ ?_ | exact kn_lst (by walk_at "o") | rfl | assumption))
variable {P : Program} {w : World} {K : PySem.W.Frag} {mg : Str → Option Value} {base : Heap}
theorem sc__law_cell : FnScope ["_law_script", "_law_k"] ["_law_script", "_law_k"] (defScope s__law_cell) := ⟨rfl, rfl, rfl, by decide +kernel, rfl, by decide +kernel, by decide +kernel⟩
theorem ok__law_cell (B : Bl mg) (A : DefAt K mg "_law_cell" s__law_cell ["_law_script", "_law_k"]) : Cal P w K mg base 1 "_law_cell" sp__law_cell := by
  refine cal_of A sc__law_cell (fun ds ω Q E h => by obtain ⟨a, ns, k, rfl, hs, q⟩ := h; rfl) ?_
  intro X f cdv Ar outer sh H E ds ω Qd Ed hX hr tk h'
  subst hX
  obtain ⟨a, ns, k, rfl, hs, q⟩ := h'
  show GSs _ H _ [some (.ref a), some (.int k)] ω _
  show GSs _ _ _ [_, _] _ _
  refine gss_cons (gs_if ?_)
  refine gt_cmp (nomark _) ?_
  refine ge_var 1 rfl (.inl rfl) rfl ?_
  refine ge_callB B.«len» rfl bb_len ?_
  refine ga_cons ?_
  refine ge_var 0 rfl (.inl rfl) rfl ?_
  refine ga_nil ?_
  refine gc_lenA hs ?_
  refine gb_lt ?_
  refine ⟨_, rfl, ?_⟩
  refine ⟨fun h1 => ?_, fun h2 => ?_⟩
  · show GSs _ _ _ [_, _] _ _
    refine gss_one (gs_ret ?_)
    refine ge_ix (fun _ _ => rfl) ?_
    refine ge_var 0 rfl (.inl rfl) rfl ?_
    refine ge_var 1 rfl (.inl rfl) rfl ?_
    have hk : k < ns.length := by simpa using h1
    refine gi_A hs (cell_at hk) ?_
    exact rtq (by walk_at "x") q (by walk_at "eq")
  · refine gss_nil ?_
    show GSs _ _ _ [_, _] _ _
    refine gss_one (gs_ret ?_)
    refine ge_int ?_
    exact rtq (by walk_at "x") q (by rw [cell_no (by simpa using h2)])
theorem sc_is_within : FnScope ["thing", "low", "high"] ["thing", "low", "high"] (defScope s_is_within) := ⟨rfl, rfl, rfl, by decide +kernel, rfl, by decide +kernel, by decide +kernel⟩
theorem ok_is_within (B : Bl mg) (A : DefAt K mg "is_within" s_is_within ["thing", "low", "high"]) : Cal P w K mg base 1 "is_within" sp_is_within := by
  refine cal_of A sc_is_within (fun ds ω Q E h => by obtain ⟨d, lo, hi, rfl, hk, q⟩ := h; rfl) ?_
  intro X f cdv Ar outer sh H E ds ω Qd Ed hX hr tk h'
  subst hX
  obtain ⟨d, lo, hi, rfl, hk, q⟩ := h'
  show GSs _ H _ [some (d), some (.int lo), some (.int hi)] ω _
  show GSs _ _ _ [_, _, _] _ _
  refine gss_one (gs_ret ?_)
  refine ge_ev (.bl (withinD d lo hi)) ?_ ?_
  · refine ge_and ?_
    refine ge_isi B.«isinstance» rfl bb_isinstance B.«int» rfl bb_int (by decide) ?_
    refine ge_var 0 rfl (.inl rfl) rfl ?_
    refine ⟨_, it_int hk, ?_⟩
    walk_at "t"
    refine ⟨fun h1 => ?_, fun h2 => ?_⟩
    · skip
      refine ge_and ?_
      refine ge_not ?_
      refine ge_isi B.«isinstance» rfl bb_isinstance B.«bool» rfl bb_bool (by decide) ?_
      refine ge_var 0 rfl (.inl rfl) rfl ?_
      refine ⟨_, it_bl hk, ?_⟩
      walk_at "t"
      walk_at "t"
      refine ⟨fun h3 => ?_, fun h4 => ?_⟩
      · obtain ⟨i, rfl⟩ : ∃ i, d = .int i := by
          cases d with
          | int i => exact ⟨i, rfl⟩
          | bl b => cases h3
          | _ => cases h1
        refine ge_one ?_
        refine ge_chain (by with_unfolding_all rfl) ?_
        refine ge_var 1 rfl (.inl rfl) rfl ?_
        refine ge_var 0 rfl (.inl rfl) rfl ?_
        refine gb_le ?_
        refine ⟨_, rfl, fun h5 => ?_, fun h6 => ?_⟩
        · refine ge_var 2 rfl (.inl rfl) rfl ?_
          refine gb_le ?_
          refine ⟨by walk_at "x", ?_⟩
          show D.bl (decide (i ≤ hi)) = D.bl (decide (lo ≤ i) && decide (i ≤ hi))
          rw [h5]
          rfl
        · refine ⟨by walk_at "x", ?_⟩
          show D.bl false = D.bl (decide (lo ≤ i) && decide (i ≤ hi))
          rw [h6]
          rfl
      · skip
        refine ⟨by walk_at "x", ?_⟩
        cases d with
        | bl b => rfl
        | int i => cases h4
        | _ => cases h1
    · skip
      refine ⟨by walk_at "x", ?_⟩
      cases d with
      | int i => cases h2
      | bl b => cases h2
      | _ => rfl
  · exact rtq (by walk_at "x") q rfl
theorem sc_House___init__ : FnScope ["self", "fresh"] ["self", "fresh"] (defScope s_House___init__) := ⟨rfl, rfl, rfl, by decide +kernel, rfl, by decide +kernel, by decide +kernel⟩
theorem ok_House___init__ {aHouse aBadNumber : Addr} (c_is_within : Cal P w K mg base 1 "is_within" sp_is_within) (x_BadNumber : ExcC K mg "BadNumber" aBadNumber) (cl_House : Cls K aHouse) (na_House__fresh : NoAttr K aHouse "fresh") (na_House__held : NoAttr K aHouse "held") (na_House__many : NoAttr K aHouse "many") (na_House__numbers : NoAttr K aHouse "numbers") (na_House__known : NoAttr K aHouse "known") (na_House__ways : NoAttr K aHouse "ways") (A : NAt K mg "House" aHouse "House.__init__" s_House___init__ ["self", "fresh"]) : NCal P w K mg base 2 "House" aHouse (sp_House___init__ aHouse aBadNumber) := by
  refine ncal_of A sc_House___init__ (fun ds ω Q E h => by obtain ⟨p, dx, d, rfl, hkd, hp, q, qe⟩ := h; rfl) ?_
  intro X f cdv Ar outer sh H E ds ω Qd Ed hX hr tk h'
  subst hX
  obtain ⟨p, dx, d, rfl, hkd, hp, q, qe⟩ := h'
  show GSs _ H _ [some (.ref p), some (d)] ω _
  show GSs _ _ _ [_, _] _ _
  refine gss_cons (gs_if ?_)
  refine gt_not ?_
  refine gt_truth (by intro _; rfl) ?_
  refine ge_call (Ex := bodyX Ed) c_is_within (hr.mono (by decide)) tk rfl ?_
  refine ga_cons ?_
  refine ge_var 1 rfl (.inl rfl) rfl ?_
  refine ga_cons ?_
  refine ge_int ?_
  refine ga_cons ?_
  refine ge_int ?_
  refine ga_nil ?_
  refine ⟨_, _, _, rfl, hkd, ?_⟩
  walk_at "t"
  refine ⟨fun h1 => ?_, fun h2 => ?_⟩
  · skip
    show GSs _ _ _ [_, _] _ _
    refine gss_one (gs_raise rfl tk (pmk_exc x_BadNumber rfl) ?_)
    exact bx1 (by walk_at "x") (qe (nb1 h1))
  · have hw := nb0 h2
    obtain ⟨fr, rfl, hfr⟩ : ∃ fr : Nat, d = .int (fr : Nat) ∧ fr ≤ 999 := by
      cases d with
      | int i =>
        have h3 : (decide (0 ≤ i) && decide (i ≤ 999)) = true := hw
        rw [Bool.and_eq_true] at h3
        have h4 := of_decide_eq_true h3.1
        have h5 := of_decide_eq_true h3.2
        exact ⟨i.toNat, by rw [Int.toNat_of_nonneg h4], by omega⟩
      | _ => cases hw
    refine gss_nil ?_
    show GSs _ _ _ [_, _] _ _
    refine gss_cons (gs_fld cl_House na_House__fresh ?_)
    refine ge_var 1 rfl (.inl rfl) rfl ?_
    refine ge_var 0 rfl (.inl rfl) rfl ?_
    refine ⟨_, _, _, rfl, hp, by decide, ?_⟩
    show GSs _ _ _ [_, _] _ _
    refine gss_cons (gs_fld cl_House na_House__held ?_)
    refine ge_dnew fun p3 np4 => ?_
    refine ge_var 0 rfl (.inl rfl) rfl ?_
    refine ⟨_, _, _, rfl, by walk_at "o", Nat.lt_of_le_of_lt (fputD_le (Nat.le_refl 0)) (by decide), ?_⟩
    show GSs _ _ _ [_, _] _ _
    refine gss_cons (gs_fld cl_House na_House__many ?_)
    refine ge_int ?_
    refine ge_var 0 rfl (.inl rfl) rfl ?_
    refine ⟨_, _, _, rfl, by walk_at "o", Nat.lt_of_le_of_lt (fputD_le (fputD_le (Nat.le_refl 0))) (by decide), ?_⟩
    show GSs _ _ _ [_, _] _ _
    refine gss_cons (gs_fld cl_House na_House__numbers ?_)
    refine ge_dnew fun p5 np6 => ?_
    refine ge_var 0 rfl (.inl rfl) rfl ?_
    refine ⟨_, _, _, rfl, by walk_at "o", Nat.lt_of_le_of_lt (fputD_le (fputD_le (fputD_le (Nat.le_refl 0)))) (by decide), ?_⟩
    show GSs _ _ _ [_, _] _ _
    refine gss_cons (gs_fld cl_House na_House__known ?_)
    refine ge_dnew fun p7 np8 => ?_
    refine ge_var 0 rfl (.inl rfl) rfl ?_
    refine ⟨_, _, _, rfl, by walk_at "o", Nat.lt_of_le_of_lt (fputD_le (fputD_le (fputD_le (fputD_le (Nat.le_refl 0))))) (by decide), ?_⟩
    show GSs _ _ _ [_, _] _ _
    refine gss_one (gs_fld cl_House na_House__ways ?_)
    refine ge_dnew fun p9 np10 => ?_
    refine ge_var 0 rfl (.inl rfl) rfl ?_
    refine ⟨_, _, _, rfl, by walk_at "o", Nat.lt_of_le_of_lt (fputD_le (fputD_le (fputD_le (fputD_le (fputD_le (Nat.le_refl 0)))))) (by decide), ?_⟩
    have hmd := house_made np4 np6 np8 np10 (congrArg (MO.ins aHouse dx) (hF_new ⟨dx, p3, p5, p7, p9⟩ fr))
    obtain ⟨g1, g2, g3, g4, g5, g6⟩ := hmd
    refine rtq (Ext.refl _) (q fr rfl hfr _ _ g2 g1 ?_) rfl
    intro x mx
    simp only [List.mem_cons, List.not_mem_nil, or_false] at mx
    rcases mx with rfl | rfl | rfl | rfl
    · exact g3
    · exact g4
    · exact g5
    · exact g6
theorem sc_Near___init__ : FnScope ["self"] ["self"] (defScope s_Near___init__) := ⟨rfl, rfl, rfl, by decide +kernel, rfl, by decide +kernel, by decide +kernel⟩
theorem ok_Near___init__ {aNear : Addr} (cl_Near : Cls K aNear) (na_Near__kept : NoAttr K aNear "kept") (na_Near__last : NoAttr K aNear "last") (A : NAt K mg "Near" aNear "Near.__init__" s_Near___init__ ["self"]) : NCal P w K mg base 1 "Near" aNear (sp_Near___init__ aNear) := by
  refine ncal_of A sc_Near___init__ (fun ds ω Q E h => by obtain ⟨p, dx, rfl, hp, q⟩ := h; rfl) ?_
  intro X f cdv Ar outer sh H E ds ω Qd Ed hX hr tk h'
  subst hX
  obtain ⟨p, dx, rfl, hp, q⟩ := h'
  show GSs _ H _ [some (.ref p)] ω _
  show GSs _ _ _ [_] _ _
  refine gss_cons (gs_fld cl_Near na_Near__kept ?_)
  refine ge_dnew fun p1 np2 => ?_
  refine ge_var 0 rfl (.inl rfl) rfl ?_
  refine ⟨_, _, _, rfl, Ext.new np2 _ _ hp, by decide, ?_⟩
  show GSs _ _ _ [_] _ _
  refine gss_one (gs_fld cl_Near na_Near__last ?_)
  refine ge_int ?_
  refine ge_var 0 rfl (.inl rfl) rfl ?_
  refine ⟨_, _, _, rfl, put_same, Nat.lt_of_le_of_lt (fputD_le (Nat.le_refl 0)) (by decide), ?_⟩
  have hpp : p ≠ p1 := fun e => by rw [e, np2] at hp; cases hp
  refine rtq (Ext.refl _) (q _ ⟨dx, p1⟩ ?_ (fun f => ⟨?_, ?_, hpp⟩) np2) rfl
  · exact ((HKeep.refl.ext (Ext.new np2)).put (by simp)).put (by simp)
  · exact put_same.trans (congrArg (fun z => some (MO.ins aNear dx z)) (nF_new p1))
  · exact (put_ne hpp.symm).trans ((put_ne hpp.symm).trans put_same)
theorem sc__law_mix : FnScope ["_law_cell_here", "_law_prime", "_law_many"] ["_law_cell_here", "_law_prime", "_law_many"] (defScope s__law_mix) := ⟨rfl, rfl, rfl, by decide +kernel, rfl, by decide +kernel, by decide +kernel⟩
theorem ok__law_mix  (A : DefAt K mg "_law_mix" s__law_mix ["_law_cell_here", "_law_prime", "_law_many"]) : Cal P w K mg base 1 "_law_mix" sp__law_mix := by
  refine cal_of A sc__law_mix (fun ds ω Q E h => by obtain ⟨c, p, m, rfl, hp0, hp1, hm, q⟩ := h; rfl) ?_
  intro X f cdv Ar outer sh H E ds ω Qd Ed hX hr tk h'
  subst hX
  obtain ⟨c, p, m, rfl, hp0, hp1, hm, q⟩ := h'
  show GSs _ H _ [some (.int c), some (.int p), some (.int m)] ω _
  have hlo : 0 ≤ c * 48271 % p := Int.emod_nonneg _ (by omega)
  have hhi : c * 48271 % p < p := Int.emod_lt_of_pos _ hp0
  show GSs _ _ _ [_, _, _] _ _
  refine gss_one (gs_ret ?_)
  refine ge_bin ?_
  refine ge_bin ?_
  refine ge_bin ?_
  refine ge_bin ?_
  refine ge_bin ?_
  refine ge_var 0 rfl (.inl rfl) rfl ?_
  refine ge_int ?_
  refine gb_mul (.inr ⟨by decide, by decide⟩) ?_
  refine ge_var 1 rfl (.inl rfl) rfl ?_
  refine gb_mod (by first | decide | omega | (simp only [List.length_map]; omega)) ?_
  refine ge_int ?_
  refine gb_pow ⟨by decide, by decide, by omega⟩ ?_
  refine ge_var 1 rfl (.inl rfl) rfl ?_
  refine gb_mod (by first | decide | omega | (simp only [List.length_map]; omega)) ?_
  refine ge_var 2 rfl (.inl rfl) rfl ?_
  refine gb_mod (by first | decide | omega | (simp only [List.length_map]; omega)) ?_
  exact rtq (by walk_at "x") q (by walk_at "eq")
theorem sc__law_seed : FnScope ["_law_seed_here", "_law_k"] ["_law_seed_here", "_law_k"] (defScope s__law_seed) := ⟨rfl, rfl, rfl, by decide +kernel, rfl, by decide +kernel, by decide +kernel⟩
theorem ok__law_seed  (A : DefAt K mg "_law_seed" s__law_seed ["_law_seed_here", "_law_k"]) : Cal P w K mg base 1 "_law_seed" sp__law_seed := by
  refine cal_of A sc__law_seed (fun ds ω Q E h => by obtain ⟨s, k, rfl, q⟩ := h; rfl) ?_
  intro X f cdv Ar outer sh H E ds ω Qd Ed hX hr tk h'
  subst hX
  obtain ⟨s, k, rfl, q⟩ := h'
  show GSs _ H _ [some (.int s), some (.int k)] ω _
  show GSs _ _ _ [_, _] _ _
  refine gss_one (gs_ret ?_)
  refine ge_bin ?_
  refine ge_bin ?_
  refine ge_bin ?_
  refine ge_bin ?_
  refine ge_bin ?_
  refine ge_bin ?_
  refine ge_var 0 rfl (.inl rfl) rfl ?_
  refine ge_int ?_
  refine gb_mul (.inr ⟨by decide, by decide⟩) ?_
  refine ge_bin ?_
  refine ge_int ?_
  refine ge_var 1 rfl (.inl rfl) rfl ?_
  refine gb_mul (.inl ⟨by decide, by decide⟩) ?_
  walk_at "bp"
  refine ge_int ?_
  walk_at "bp"
  refine ge_int ?_
  refine gb_mod (by first | decide | omega | (simp only [List.length_map]; omega)) ?_
  refine ge_int ?_
  refine gb_pow ⟨by decide, by decide, by omega⟩ ?_
  refine ge_int ?_
  refine gb_mod (by first | decide | omega | (simp only [List.length_map]; omega)) ?_
  exact rtq (by walk_at "x") q (by walk_at "eq")
theorem sc__law_place : FnScope ["_law_seed_here", "_law_some"] ["_law_seed_here"] (defScope s__law_place) := ⟨rfl, rfl, rfl, by decide +kernel, rfl, by decide +kernel, by decide +kernel⟩
theorem ok__law_place  (A : DefAt K mg "_law_place" s__law_place ["_law_seed_here"]) : Cal P w K mg base 1 "_law_place" sp__law_place := by
  refine cal_of A sc__law_place (fun ds ω Q E h => by obtain ⟨s, rfl, q⟩ := h; rfl) ?_
  intro X f cdv Ar outer sh H E ds ω Qd Ed hX hr tk h'
  subst hX
  obtain ⟨s, rfl, q⟩ := h'
  show GSs _ H _ [some (.int s), none] ω _
  show GSs _ _ _ [_, _] _ _
  refine gss_cons (gs_set 1 sc__law_place.nd rfl (.inl rfl) ?_)
  refine ge_lst ?_
  refine ga_cons ?_
  refine ge_tup ?_
  refine ga_cons ?_
  refine ge_tup ?_
  refine ga_cons ?_
  refine ge_str [97] (by decide +kernel) ?_
  refine ga_nil ?_
  refine ⟨show 1 ≤ sizeLine by decide, ?_⟩
  refine ga_cons ?_
  refine ge_tup ?_
  refine ga_nil ?_
  refine ⟨show 0 ≤ sizeLine by decide, ?_⟩
  refine ga_nil ?_
  refine ⟨show 2 ≤ sizeLine by decide, ?_⟩
  refine ga_cons ?_
  refine ge_tup ?_
  refine ga_cons ?_
  refine ge_tup ?_
  refine ga_nil ?_
  refine ⟨show 0 ≤ sizeLine by decide, ?_⟩
  refine ga_cons ?_
  refine ge_tup ?_
  refine ga_nil ?_
  refine ⟨show 0 ≤ sizeLine by decide, ?_⟩
  refine ga_nil ?_
  refine ⟨show 2 ≤ sizeLine by decide, ?_⟩
  refine ga_cons ?_
  refine ge_tup ?_
  refine ga_cons ?_
  refine ge_tup ?_
  refine ga_cons ?_
  refine ge_str [97] (by decide +kernel) ?_
  refine ga_cons ?_
  refine ge_str [49] (by decide +kernel) ?_
  refine ga_nil ?_
  refine ⟨show 2 ≤ sizeLine by decide, ?_⟩
  refine ga_cons ?_
  refine ge_tup ?_
  refine ga_nil ?_
  refine ⟨show 0 ≤ sizeLine by decide, ?_⟩
  refine ga_nil ?_
  refine ⟨show 2 ≤ sizeLine by decide, ?_⟩
  refine ga_cons ?_
  refine ge_tup ?_
  refine ga_cons ?_
  refine ge_tup ?_
  refine ga_cons ?_
  refine ge_str [97] (by decide +kernel) ?_
  refine ga_nil ?_
  refine ⟨show 1 ≤ sizeLine by decide, ?_⟩
  refine ga_cons ?_
  refine ge_tup ?_
  refine ga_cons ?_
  refine ge_tup ?_
  refine ga_cons ?_
  refine ge_str [98] (by decide +kernel) ?_
  refine ga_cons ?_
  refine ge_str [] (by decide +kernel) ?_
  refine ga_nil ?_
  refine ⟨show 2 ≤ sizeLine by decide, ?_⟩
  refine ga_nil ?_
  refine ⟨show 1 ≤ sizeLine by decide, ?_⟩
  refine ga_nil ?_
  refine ⟨show 2 ≤ sizeLine by decide, ?_⟩
  refine ga_cons ?_
  refine ge_tup ?_
  refine ga_cons ?_
  refine ge_bin ?_
  refine ge_tup ?_
  refine ga_cons ?_
  refine ge_str [97] (by decide +kernel) ?_
  refine ga_nil ?_
  refine ⟨show 1 ≤ sizeLine by decide, ?_⟩
  refine ge_int ?_
  refine gb_mulT (by decide) (by decide) (by decide) (by decide) ?_
  refine ga_cons ?_
  refine ge_tup ?_
  refine ga_nil ?_
  refine ⟨show 0 ≤ sizeLine by decide, ?_⟩
  refine ga_nil ?_
  refine ⟨show 2 ≤ sizeLine by decide, ?_⟩
  refine ga_cons ?_
  refine ge_tup ?_
  refine ga_cons ?_
  refine ge_tup ?_
  refine ga_cons ?_
  refine ge_str [97] (by decide +kernel) ?_
  refine ga_cons ?_
  refine ge_str [50] (by decide +kernel) ?_
  refine ga_nil ?_
  refine ⟨show 2 ≤ sizeLine by decide, ?_⟩
  refine ga_cons ?_
  refine ge_tup ?_
  refine ga_nil ?_
  refine ⟨show 0 ≤ sizeLine by decide, ?_⟩
  refine ga_nil ?_
  refine ⟨show 2 ≤ sizeLine by decide, ?_⟩
  refine ga_nil ?_
  refine ⟨show 6 ≤ sizeLine by decide, fun p1 np2 => ?_⟩
  show GSs _ _ _ [_, _] _ _
  refine gss_one (gs_ret ?_)
  refine ge_ix (fun _ _ => rfl) ?_
  refine ge_var 1 rfl (.inl rfl) rfl ?_
  refine ge_bin ?_
  refine ge_var 0 rfl (.inl rfl) rfl ?_
  refine ge_int ?_
  refine gb_mod (by first | decide | omega | (simp only [List.length_map]; omega)) ?_
  refine gi_lst (ds := sixP.map fun x => pathD x.1 x.2) (show _ = _ from put_same) (place_at s) ?_
  exact rtq (by walk_at "x") q (by walk_at "eq")
theorem sc__law_signs : FnScope ["_law_found"] [] (defScope s__law_signs) := ⟨rfl, rfl, rfl, by decide +kernel, rfl, by decide +kernel, by decide +kernel⟩
theorem ok__law_signs  (A : DefAt K mg "_law_signs" s__law_signs []) : Cal P w K mg base 1 "_law_signs" sp__law_signs := by
  refine cal_of A sc__law_signs (fun ds ω Q E h => by obtain ⟨rfl, q⟩ := h; rfl) ?_
  intro X f cdv Ar outer sh H E ds ω Qd Ed hX hr tk h'
  subst hX
  obtain ⟨rfl, q⟩ := h'
  show GSs _ H _ [none] ω _
  show GSs _ _ _ [_] _ _
  refine gss_cons (gs_set 0 sc__law_signs.nd rfl (.inl rfl) ?_)
  refine ge_str lSG1 (by decide +kernel) ?_
  show GSs _ _ _ [_] _ _
  refine gss_one (gs_ret ?_)
  refine ge_bin ?_
  refine ge_var 0 rfl (.inl rfl) rfl ?_
  refine ge_str lSG2 (by decide +kernel) ?_
  walk_at "bp"
  exact rtq (by walk_at "x") q (by rw [signs_app])
theorem sc__law_quote : FnScope ["_law_text_here", "_law_found", "_law_sign", "_law_number"] ["_law_text_here"] (defScope s__law_quote) := ⟨rfl, rfl, rfl, by decide +kernel, rfl, by decide +kernel, by decide +kernel⟩
theorem ok__law_quote (B : Bl mg) (c__law_signs : Cal P w K mg base 1 "_law_signs" sp__law_signs) (A : DefAt K mg "_law_quote" s__law_quote ["_law_text_here"]) : Cal P w K mg base 2 "_law_quote" sp__law_quote := by
  refine cal_of A sc__law_quote (fun ds ω Q E h => by obtain ⟨l, rfl, ho, hl, q⟩ := h; rfl) ?_
  intro X f cdv Ar outer sh H E ds ω Qd Ed hX hr tk h'
  subst hX
  obtain ⟨l, rfl, ho, hl, q⟩ := h'
  show GSs _ H _ [some (.str l), none, none, none] ω _
  show GSs _ _ _ [_, _, _, _] _ _
  refine gss_cons (gs_set 1 sc__law_quote.nd rfl (.inl rfl) ?_)
  refine ge_str [] (by decide +kernel) ?_
  show GSs _ _ _ [_, _, _, _] _ _
  refine gss_cons (gs_for (fun _ i ρ1 ω1 => ω = ω1 ∧ ∃ a b, ρ1 = [some (.str l), some (.str (quoteL (l.take i))), a, b]) (passes_of rfl) rfl ?_)
  refine gj_str ?_
  refine ge_var 0 rfl (.inl rfl) rfl ?_
  walk_at "j"
  try intro hz
  refine ⟨⟨rfl, none, none, rfl⟩, fun _ _ _ _ _ => trivial, ?_, ?_⟩
  · rintro i d ρ1 ω1 hd ⟨rfl, a, b, rfl⟩
    obtain ⟨c, hc, rfl⟩ : ∃ c, l[i]? = some c ∧ d = chD c := by
      rw [List.getElem?_map] at hd
      cases hh : l[i]? with
      | none => rw [hh] at hd; cases hd
      | some c => rw [hh] at hd; cases hd; exact ⟨c, rfl, rfl⟩
    have hcl := qt_len l i
    have hc1 : isT1 c = true := List.all_eq_true.mp ho c (List.mem_of_getElem? hc)
    have hls := lqs_qs c ((mem_allSg c).mpr hc1)
    refine gg_name 2 sc__law_quote.nd rfl (.inl rfl) ?_
    show GSs _ _ _ [_, _, _, _] _ _
    refine gss_one (gs_if ?_)
    refine gt_cmp rfl ?_
    refine ge_var 2 rfl (.inl rfl) rfl ?_
    refine ge_str lPLAIN (by decide +kernel) ?_
    refine gb_inC ?_
    refine ⟨_, rfl, ?_⟩
    refine ⟨fun h1 => ?_, fun h2 => ?_⟩
    · show GSs _ _ _ [_, _, _, _] _ _
      refine gss_one (gs_set 1 sc__law_quote.nd rfl (.inl rfl) ?_)
      refine ge_bin ?_
      refine ge_var 1 rfl (.inl rfl) rfl ?_
      refine ge_var 2 rfl (.inl rfl) rfl ?_
      walk_at "bp"
      have h : c ∈ lPLAIN := by simpa using h1
      refine ⟨rfl, some (.str [c]), b, ?_⟩
      rw [qt_succ hc, ← hls]
      unfold lqs
      rw [if_pos h]
      rfl
    · show GSs _ _ _ [_, _, _, _] _ _
      refine gss_cons (gs_set 3 sc__law_quote.nd rfl (.inl rfl) ?_)
      refine ge_if ?_
      refine gt_cmp (nomark _) ?_
      refine ge_var 2 rfl (.inl rfl) rfl ?_
      refine ge_str [10] (by decide +kernel) ?_
      walk_at "be"
      refine ⟨_, rfl, ?_⟩
      refine ⟨fun h3 => ?_, fun h4 => ?_⟩
      · refine ge_str [57, 57] (by decide +kernel) ?_
        show GSs _ _ _ [_, _, _, _] _ _
        refine gss_one (gs_set 1 sc__law_quote.nd rfl (.inl rfl) ?_)
        refine ge_bin ?_
        refine ge_bin ?_
        refine ge_bin ?_
        refine ge_var 1 rfl (.inl rfl) rfl ?_
        refine ge_str [126] (by decide +kernel) ?_
        walk_at "bp"
        refine ge_bin ?_
        refine ge_str [48] (by decide +kernel) ?_
        refine ge_bin ?_
        refine ge_int ?_
        refine ge_callB B.«len» rfl bb_len ?_
        refine ga_cons ?_
        refine ge_var 3 rfl (.inl rfl) rfl ?_
        refine ga_nil ?_
        walk_at "c"
        refine gb_sub ?_
        refine gb_muls (mulOk_S (by decide) (by decide) (by decide)) (show 0 ≤ sizeLine by decide) ?_
        rw [rep_eq]
        walk_at "bp"
        refine ge_var 3 rfl (.inl rfl) rfl ?_
        walk_at "bp"
        have h : ¬ c ∈ lPLAIN := by simpa using h2
        have e : c = 10 := by simpa using h3
        refine ⟨rfl, some (.str [c]), some (.str [57, 57]), ?_⟩
        rw [qt_succ hc, ← hls]
        unfold lqs
        rw [if_neg h, if_pos e, List.append_assoc, List.append_assoc]
        rfl
      · refine ge_callTy B.«str» rfl bb_str ?_
        refine ga_cons ?_
        refine ge_bm PySem.F.plainAttrs_str PySem.F.slot_str_index PySem.F.type_str_index ?_
        refine ge_call0 c__law_signs (hr.mono (by decide)) rfl ?_
        refine ⟨rfl, ?_⟩
        walk_at "y"
        refine ga_cons ?_
        refine ge_var 2 rfl (.inl rfl) rfl ?_
        refine ga_nil ?_
        have hn : c ≠ 10 := by simpa using h4
        have hs := isT_sg hc1 hn
        have hi := idx_lt hs
        have hil := num2 (idx c) hi
        refine gm_index rfl (idx_find c (sg_mem hs)) ?_
        refine ga_nil ?_
        refine gc_str rfl (numL_len2 (idx_lt hs)) ?_
        show GSs _ _ _ [_, _, _, _] _ _
        refine gss_one (gs_set 1 sc__law_quote.nd rfl (.inl rfl) ?_)
        refine ge_bin ?_
        refine ge_bin ?_
        refine ge_bin ?_
        refine ge_var 1 rfl (.inl rfl) rfl ?_
        refine ge_str [126] (by decide +kernel) ?_
        walk_at "bp"
        refine ge_bin ?_
        refine ge_str [48] (by decide +kernel) ?_
        refine ge_bin ?_
        refine ge_int ?_
        refine ge_callB B.«len» rfl bb_len ?_
        refine ga_cons ?_
        refine ge_var 3 rfl (.inl rfl) rfl ?_
        refine ga_nil ?_
        walk_at "c"
        refine gb_sub ?_
        refine gb_muls (mulOk_S (by omega) (by decide) (by omega)) ?_ ?_
        · have := rep_len (c := 48) (2 - ((TL.numL (idx c)).length : Int)).toNat
          rw [this]; have h2 : sizeLine = 16777216 := sizeLine_eq; omega
        rw [rep_eq]
        walk_at "bp"
        refine ge_var 3 rfl (.inl rfl) rfl ?_
        walk_at "bp"
        have h : ¬ c ∈ lPLAIN := by simpa using h2
        refine ⟨rfl, some (.str [c]), some (.str (TL.numL (idx c))), ?_⟩
        rw [qt_succ hc, ← hls]
        unfold lqs
        rw [if_neg h, if_neg hn, List.append_assoc, List.append_assoc]
        have e : (2 - ((TL.numL (idx c)).length : Int)).toNat = 2 - (TL.numL (idx c)).length := by omega
        rw [e]
        rfl
  · rintro ρ1 ω1 ⟨rfl, a, b, rfl⟩
    show GSs _ _ _ [_, _, _, _] _ _
    refine gss_one (gs_ret ?_)
    refine ge_var 1 rfl (.inl rfl) rfl ?_
    exact rtq (by walk_at "x") q (by rw [List.length_map, List.take_length])
theorem sc__law_path_text : FnScope ["_law_path", "_law_found", "_law_part", "_law_k", "_law_name", "_law_what"] ["_law_path"] (defScope s__law_path_text) := ⟨rfl, rfl, rfl, by decide +kernel, rfl, by decide +kernel, by decide +kernel⟩
theorem ok__law_path_text (c__law_quote : Cal P w K mg base 2 "_law_quote" sp__law_quote) (B : Bl mg) (A : DefAt K mg "_law_path_text" s__law_path_text ["_law_path"]) : Cal P w K mg base 3 "_law_path_text" sp__law_path_text := by
  refine cal_of A sc__law_path_text (fun ds ω Q E h => by obtain ⟨ps, as, rfl, hl1, hl2, h1, h2, q⟩ := h; rfl) ?_
  intro X f cdv Ar outer sh H E ds ω Qd Ed hX hr tk h'
  subst hX
  obtain ⟨ps, as, rfl, hl1, hl2, h1, h2, q⟩ := h'
  show GSs _ H _ [some (pathD ps as), none, none, none, none, none] ω _
  show GSs _ _ _ [_, _, _, _, _, _] _ _
  refine gss_cons (gs_set 1 sc__law_path_text.nd rfl (.inl rfl) ?_)
  refine ge_bin ?_
  refine ge_str [47] (by decide +kernel) ?_
  refine ge_bm PySem.F.plainAttrs_str PySem.F.slot_str_join PySem.F.type_str_join ?_
  refine ge_str [47] (by decide +kernel) ?_
  walk_at "y"
  refine ga_cons ?_
  refine ge_lc (own := [("_law_part", 2)]) (js := [2]) (split := sp1) rfl sc__law_path_text.nd tg_name (by decide) (blkOk_by (own := [("_law_part", 2)]) (N := ["_law_path", "_law_found", "_law_part", "_law_k", "_law_name", "_law_what"]) (sc := defScope s__law_path_text) (by decide +kernel)) (fun _ _ _ _ _ => pg_name (i := 2) sc__law_path_text.nd rfl (Or.inl rfl)) ?_
  have hbig : sizeLine = 16777216 := sizeLine_eq
  have hj1 := joinL_len [47] (ps.map quoteL)
  have hj2 := parts_sum h1
  rw [List.length_map, List.length_cons, List.length_nil] at hj1
  have hj5 := partsT_len h1 hl1
  refine gj_tup ?_
  refine ge_ix (fun _ _ => rfl) ?_
  refine ge_var 0 rfl (.inl rfl) rfl ?_
  refine ge_int ?_
  walk_at "i"
  walk_at "j"
  try intro hz
  refine lc_pure (fun d => true) (fun d => .str (quoteL (strOf d))) (by rw [List.length_map]; omega) (fun _ x => by first | trivial | exact x _ _ (by walk_at "o")) ?_ ?_
  · rintro d ω1 hd x1
    obtain ⟨s0, hy, rfl⟩ := List.mem_map.mp hd
    have ho := okPart_len (List.all_eq_true.mp h1 s0 hy)
    refine ⟨_, rfl, fun s H C cl fp => ?_, fun hc s H C cl fp => ?_⟩
    · exact ⟨by walk_at "x", rfl⟩
    · refine ge_call (Ex := fun _ _ _ _ => False) c__law_quote (hr.mono (by decide)) xw0 rfl ?_
      refine ga_cons ?_
      refine ge_var 2 rfl (.inl rfl) rfl ?_
      refine ga_nil ?_
      refine ⟨_, rfl, ho.2.1, by omega, ?_⟩
      refine ⟨by walk_at "x", ?_⟩
      walk_at "eq"
  · intro p1 np2
    refine ga_nil ?_
    rw [parts_eq]
    refine gm_joinL put_same ?_ ?_
    · rw [List.length_map, List.length_cons, List.length_nil]; omega
    walk_at "bp"
    show GSs _ _ _ [_, _, _, _, _, _] _ _
    refine gss_cons (gs_for (fun ds i ρ1 ω1 => Ext ω ω1 ∧ ∃ a b c d, ρ1 = [some (pathD ps as), some (.str (partsT ps ++ asksT (as.take i))), a, b, c, d]) (passes_of rfl) rfl ?_)
    refine gj_enumT B.«enumerate» rfl ?_
    refine ge_ix (fun _ _ => rfl) ?_
    refine ge_var 0 rfl (.inl rfl) rfl ?_
    refine ge_int ?_
    walk_at "i"
    walk_at "j"
    try intro hz
    refine ⟨⟨by walk_at "x", none, none, none, none, by rw [List.take_zero]; show _ = [_, some (D.str (partsT ps ++ [])), _, _, _, _]; rw [List.append_nil]; rfl⟩, fun _ _ _ _ _ => trivial, ?_, ?_⟩
    · rintro i x ρ1 ω1 hx ⟨x1, a, b, c, d, rfl⟩
      rw [numD_at, List.getElem?_map] at hx
      obtain ⟨y, hy, rfl⟩ : ∃ y, as[i]? = some y ∧ x = .tup [.int (i : Nat), hdD y] := by
        cases e : as[i]? with
        | none => rw [e] at hx; cases hx
        | some y =>
          rw [e] at hx
          cases hx
          refine ⟨y, rfl, ?_⟩
          rw [Nat.zero_add]
      have ho := okAsk_len (List.all_eq_true.mp h2 y (List.mem_of_getElem? hy))
      have e1 := quote_len y.1
      have e2 := quote_len y.2
      have e3 := asksT_len (as := as.take i) (List.all_eq_true.mpr fun z m => List.all_eq_true.mp h2 z (List.mem_of_mem_take m)) (by rw [List.length_take]; omega)
      have hst := asks_step hy
      skip
      refine gg_tup rfl rfl ?_
      refine ggs_cons ?_
      refine gg_name 3 sc__law_path_text.nd rfl (.inl rfl) ?_
      refine ggs_cons ?_
      skip
      refine gg_tup rfl rfl ?_
      refine ggs_cons ?_
      refine gg_name 4 sc__law_path_text.nd rfl (.inl rfl) ?_
      refine ggs_cons ?_
      refine gg_name 5 sc__law_path_text.nd rfl (.inl rfl) ?_
      refine ggs_nil ?_
      refine ggs_nil ?_
      show GSs _ _ _ [_, _, _, _, _, _] _ _
      refine gss_one (gs_set 1 sc__law_path_text.nd rfl (.inl rfl) ?_)
      refine ge_bin ?_
      refine ge_bin ?_
      refine ge_bin ?_
      refine ge_bin ?_
      refine ge_var 1 rfl (.inl rfl) rfl ?_
      refine ge_if ?_
      refine gt_cmp (nomark _) ?_
      refine ge_var 3 rfl (.inl rfl) rfl ?_
      refine ge_int ?_
      walk_at "be"
      refine ⟨_, rfl, ?_⟩
      refine ⟨fun h3 => ?_, fun h4 => ?_⟩
      · refine ge_str [63] (by decide +kernel) ?_
        walk_at "bp"
        refine ge_call (Ex := bodyX Ed) c__law_quote (hr.mono (by decide)) tk rfl ?_
        refine ga_cons ?_
        refine ge_var 4 rfl (.inl rfl) rfl ?_
        refine ga_nil ?_
        refine ⟨_, rfl, ho.2.1, by omega, ?_⟩
        walk_at "bp"
        refine ge_str [61] (by decide +kernel) ?_
        walk_at "bp"
        refine ge_call (Ex := bodyX Ed) c__law_quote (hr.mono (by decide)) tk rfl ?_
        refine ga_cons ?_
        refine ge_var 5 rfl (.inl rfl) rfl ?_
        refine ga_nil ?_
        refine ⟨_, rfl, ho.2.2.2, by omega, ?_⟩
        walk_at "bp"
        have e0 : i = 0 := by simp at h3; omega
        have e5 : partsT ps ++ asksT (List.take (i + 1) as) = partsT ps ++ asksT (List.take i as) ++ [63] ++ quoteL y.1 ++ [61] ++ quoteL y.2 := by
          rw [hst, if_pos e0]
          unfold askT
          simp only [List.append_assoc]
        exact ⟨by walk_at "x", _, _, _, _, by rw [e5]; rfl⟩
      · refine ge_str [38] (by decide +kernel) ?_
        walk_at "bp"
        refine ge_call (Ex := bodyX Ed) c__law_quote (hr.mono (by decide)) tk rfl ?_
        refine ga_cons ?_
        refine ge_var 4 rfl (.inl rfl) rfl ?_
        refine ga_nil ?_
        refine ⟨_, rfl, ho.2.1, by omega, ?_⟩
        walk_at "bp"
        refine ge_str [61] (by decide +kernel) ?_
        walk_at "bp"
        refine ge_call (Ex := bodyX Ed) c__law_quote (hr.mono (by decide)) tk rfl ?_
        refine ga_cons ?_
        refine ge_var 5 rfl (.inl rfl) rfl ?_
        refine ga_nil ?_
        refine ⟨_, rfl, ho.2.2.2, by omega, ?_⟩
        walk_at "bp"
        have e0 : ¬ i = 0 := by simp at h4; omega
        have e5 : partsT ps ++ asksT (List.take (i + 1) as) = partsT ps ++ asksT (List.take i as) ++ [38] ++ quoteL y.1 ++ [61] ++ quoteL y.2 := by
          rw [hst, if_neg e0]
          unfold askT
          simp only [List.append_assoc]
        exact ⟨by walk_at "x", _, _, _, _, by rw [e5]; rfl⟩
    · rintro ρ1 ω1 ⟨x1, a, b, c, d, rfl⟩
      rw [numD_len, List.length_map, List.take_length]
      show GSs _ _ _ [_, _, _, _, _, _] _ _
      refine gss_one (gs_ret ?_)
      refine ge_var 1 rfl (.inl rfl) rfl ?_
      exact rtq (by walk_at "x") q rfl
theorem sc__law_pick : FnScope ["_law_seed_here", "_law_many"] ["_law_seed_here", "_law_many"] (defScope s__law_pick) := ⟨rfl, rfl, rfl, by decide +kernel, rfl, by decide +kernel, by decide +kernel⟩
theorem ok__law_pick  (A : DefAt K mg "_law_pick" s__law_pick ["_law_seed_here", "_law_many"]) : Cal P w K mg base 1 "_law_pick" sp__law_pick := by
  refine cal_of A sc__law_pick (fun ds ω Q E h => by obtain ⟨s, m, rfl, hm, q⟩ := h; rfl) ?_
  intro X f cdv Ar outer sh H E ds ω Qd Ed hX hr tk h'
  subst hX
  obtain ⟨s, m, rfl, hm, q⟩ := h'
  show GSs _ H _ [some (.int s), some (.int m)] ω _
  show GSs _ _ _ [_, _] _ _
  refine gss_one (gs_ret ?_)
  refine ge_bin ?_
  refine ge_bin ?_
  refine ge_var 0 rfl (.inl rfl) rfl ?_
  refine ge_int ?_
  refine gb_div ⟨by decide, by decide⟩ ?_
  refine ge_var 1 rfl (.inl rfl) rfl ?_
  refine gb_mod (by first | decide | omega | (simp only [List.length_map]; omega)) ?_
  exact rtq (by walk_at "x") q (by walk_at "eq")
theorem sc__law_text : FnScope ["_law_seed_here", "_law_most", "_law_lines", "_law_signs_here", "_law_many", "_law_k"] ["_law_seed_here", "_law_most", "_law_lines"] (defScope s__law_text) := ⟨rfl, rfl, rfl, by decide +kernel, rfl, by decide +kernel, by decide +kernel⟩
theorem ok__law_text (c__law_signs : Cal P w K mg base 1 "_law_signs" sp__law_signs) (c__law_pick : Cal P w K mg base 1 "_law_pick" sp__law_pick) (B : Bl mg) (c__law_seed : Cal P w K mg base 1 "_law_seed" sp__law_seed) (A : DefAt K mg "_law_text" s__law_text ["_law_seed_here", "_law_most", "_law_lines"]) : Cal P w K mg base 2 "_law_text" sp__law_text := by
  refine cal_of A sc__law_text (fun ds ω Q E h => by obtain ⟨s, m, b, rfl, hm0, hm1, q⟩ := h; rfl) ?_
  intro X f cdv Ar outer sh H E ds ω Qd Ed hX hr tk h'
  subst hX
  obtain ⟨s, m, b, rfl, hm0, hm1, q⟩ := h'
  show GSs _ H _ [some (.int s), some (.int m), some (.bl b), none, none, none] ω _
  show GSs _ _ _ [_, _, _, _, _, _] _ _
  refine gss_cons (gs_set 3 sc__law_text.nd rfl (.inr rfl) ?_)
  refine ge_call0 c__law_signs (hr.mono (by decide)) rfl ?_
  refine ⟨rfl, ?_⟩
  show GSs _ _ _ [_, _, _, _, _, _] _ _
  refine gss_cut (fun ρ1 ω1 => ρ1 = [some (.int s), some (.int m), some (.bl b), some (.str (if s / 5 % 3 = 0 then lPLAIN else lSIGNS)), none, none] ∧ ω = ω1) ?_ ?_
  · refine gs_if ?_
    refine gt_cmp (nomark _) ?_
    refine ge_bin ?_
    refine ge_bin ?_
    refine ge_var 0 rfl (.inr (.inl rfl)) rfl ?_
    refine ge_int ?_
    refine gb_div ⟨by decide, by decide⟩ ?_
    refine ge_int ?_
    refine gb_mod (by first | decide | omega | (simp only [List.length_map]; omega)) ?_
    refine ge_int ?_
    walk_at "be"
    refine ⟨_, rfl, ?_⟩
    refine ⟨fun h1 => ?_, fun h2 => ?_⟩
    · show GSs _ _ _ [_, _, _, _, _, _] _ _
      refine gss_one (gs_set 3 sc__law_text.nd rfl (.inr rfl) ?_)
      refine ge_str lPLAIN (by decide +kernel) ?_
      have h : s / 5 % 3 = 0 := by simpa using h1
      refine ⟨?_, rfl⟩
      rw [if_pos h]
      all_goals rfl
    · refine gss_nil ?_
      have h : ¬ s / 5 % 3 = 0 := by simpa using h2
      refine ⟨?_, rfl⟩
      rw [if_neg h]
      all_goals rfl
  · rintro ρ1 ω1 ⟨rfl, rfl⟩
    show GSs _ _ _ [_, _, _, _, _, _] _ _
    refine gss_cut (fun ρ1 ω1 => ρ1 = [some (.int s), some (.int m), some (.bl b), some (.str (lawSigns s b)), none, none] ∧ ω = ω1) ?_ ?_
    · refine gs_if (gt_ev (b && decide (s / 7 % 2 = 0)) ?_ ⟨fun h3 => ?_, fun h4 => ?_⟩)
      · refine gt_bool ?_
        refine gw_and ?_
        refine gt_truth (by intro _; rfl) ?_
        refine ge_var 2 rfl (.inl rfl) rfl ?_
        walk_at "t"
        refine ⟨fun h5 => ?_, fun h6 => ?_⟩
        · refine gw_and1 ?_
          refine gt_cmp (nomark _) ?_
          refine ge_bin ?_
          refine ge_bin ?_
          refine ge_var 0 rfl (.inr (.inl rfl)) rfl ?_
          refine ge_int ?_
          refine gb_div ⟨by decide, by decide⟩ ?_
          refine ge_int ?_
          refine gb_mod (by first | decide | omega | (simp only [List.length_map]; omega)) ?_
          refine ge_int ?_
          walk_at "be"
          refine ⟨_, rfl, ?_⟩
          refine ⟨by walk_at "x", ?_⟩
          walk_at "eq"
        · refine ⟨by walk_at "x", ?_⟩
          walk_at "eq"
      · show GSs _ _ _ [_, _, _, _, _, _] _ _
        refine gss_one (gs_set 3 sc__law_text.nd rfl (.inr rfl) ?_)
        refine ge_bin ?_
        refine ge_var 3 rfl (.inr (.inl rfl)) rfl ?_
        refine ge_str [10, 10, 10] (by decide +kernel) ?_
        walk_at "bp"
        have h : b = true ∧ s / 7 % 2 = 0 := by simpa using h3
        refine ⟨?_, rfl⟩
        unfold lawSigns
        rw [if_pos h]
        all_goals rfl
      · refine gss_nil ?_
        have h : ¬ (b = true ∧ s / 7 % 2 = 0) := by simpa using h4
        refine ⟨?_, rfl⟩
        unfold lawSigns
        rw [if_neg h, List.append_nil]
    · rintro ρ1 ω1 ⟨rfl, rfl⟩
      have hsl := lawSigns_len s b
      show GSs _ _ _ [_, _, _, _, _, _] _ _
      refine gss_cons (gs_set 4 sc__law_text.nd rfl (.inl rfl) ?_)
      refine ge_ix (fun _ _ => rfl) ?_
      refine ge_lst ?_
      refine ga_cons ?_
      refine ge_bin ?_
      refine ge_bin ?_
      refine ge_var 0 rfl (.inr (.inl rfl)) rfl ?_
      refine ge_int ?_
      refine gb_div ⟨by decide, by decide⟩ ?_
      refine ge_bin ?_
      refine ge_var 1 rfl (.inl rfl) rfl ?_
      refine ge_int ?_
      walk_at "bp"
      refine gb_mod (by first | decide | omega | (simp only [List.length_map]; omega)) ?_
      refine ga_cons ?_
      refine ge_bin ?_
      refine ge_bin ?_
      refine ge_var 0 rfl (.inr (.inl rfl)) rfl ?_
      refine ge_int ?_
      refine gb_div ⟨by decide, by decide⟩ ?_
      refine ge_int ?_
      refine gb_mod (by first | decide | omega | (simp only [List.length_map]; omega)) ?_
      refine ga_cons ?_
      refine ge_var 1 rfl (.inl rfl) rfl ?_
      refine ga_nil ?_
      refine ⟨show 3 ≤ sizeLine by decide, fun p7 np8 => ?_⟩
      refine ge_call (Ex := bodyX Ed) c__law_pick (hr.mono (by decide)) tk rfl ?_
      refine ga_cons ?_
      refine ge_var 0 rfl (.inr (.inl rfl)) rfl ?_
      refine ga_cons ?_
      refine ge_int ?_
      refine ga_nil ?_
      refine ⟨_, _, rfl, by decide, ?_⟩
      refine gi_lst put_same (many_at s m) ?_
      show GSs _ _ _ [_, _, _, _, _, _] _ _
      refine gss_one (gs_ret ?_)
      refine ge_bm PySem.F.plainAttrs_str PySem.F.slot_str_join PySem.F.type_str_join ?_
      refine ge_str [] (by decide +kernel) ?_
      walk_at "y"
      refine ga_cons ?_
      refine ge_lc (own := [("_law_k", 5)]) (js := [5]) (split := sp1) rfl sc__law_text.nd tg_name (by decide) (blkOk_by (own := [("_law_k", 5)]) (N := ["_law_seed_here", "_law_most", "_law_lines", "_law_signs_here", "_law_many", "_law_k"]) (sc := defScope s__law_text) (by decide +kernel)) (fun _ _ _ _ _ => pg_name (i := 5) sc__law_text.nd rfl (Or.inl rfl)) ?_
      refine gj_range1 B.«range» rfl ?_
      refine ge_callB B.«min» rfl bb_min ?_
      refine ga_cons ?_
      refine ge_var 4 rfl (.inl rfl) rfl ?_
      refine ga_cons ?_
      refine ge_var 1 rfl (.inl rfl) rfl ?_
      refine ga_nil ?_
      walk_at "c"
      have hmn := manyF_lo s m hm0
      refine ⟨_, rfl, ?_, ?_⟩
      · split <;> omega
      rw [min_if]
      try intro hz
      refine lc_pure (fun d => true) (fun d => D.str [(lawSigns s b).getD (pickF (seedF s (intOf d)) ((lawSigns s b).length : Nat)).toNat 0]) (by unfold rngD; rw [List.length_map, List.length_range]; have h1 := hm1; have h2 : sizeLine = 16777216 := sizeLine_eq; omega) (fun _ x => by first | trivial | exact x _ _ (by walk_at "o")) ?_ ?_
      · rintro d ω1 hd x1
        obtain ⟨k, hk, rfl⟩ := List.mem_map.mp hd
        refine ⟨_, rfl, fun s H C cl fp => ?_, fun hc s H C cl fp => ?_⟩
        · exact ⟨by walk_at "x", rfl⟩
        · refine ge_ix (fun _ _ => rfl) ?_
          refine ge_var 3 rfl (.inr (.inl rfl)) rfl ?_
          refine ge_call (Ex := fun _ _ _ _ => False) c__law_pick (hr.mono (by decide)) xw0 rfl ?_
          refine ga_cons ?_
          refine ge_call (Ex := fun _ _ _ _ => False) c__law_seed (hr.mono (by decide)) xw0 rfl ?_
          refine ga_cons ?_
          refine ge_var 0 rfl (.inr (.inl rfl)) rfl ?_
          refine ga_cons ?_
          refine ge_var 5 rfl (.inl rfl) rfl ?_
          refine ga_nil ?_
          refine ⟨_, _, rfl, ?_⟩
          refine ga_cons ?_
          refine ge_callB B.«len» rfl bb_len ?_
          refine ga_cons ?_
          refine ge_var 3 rfl (.inr (.inl rfl)) rfl ?_
          refine ga_nil ?_
          walk_at "c"
          refine ga_nil ?_
          refine ⟨_, _, rfl, by omega, ?_⟩
          refine gi_str (at_pick (by omega)) ?_
          refine ⟨by walk_at "x", ?_⟩
          rfl
      · intro p9 np10
        refine ga_nil ?_
        refine gm_joinL (ys := (textF s m b).map fun c => [c]) ?_ ?_ ?_
        · rw [put_same, filter_true]
          unfold textF rngD
          simp only [List.map_map]
          congr 2
          refine List.map_congr_left fun k _ => ?_
          simp [intOf]
        · have := textF_len s m b
          rw [sum_ones]; simp; omega
        exact rtq (by walk_at "x") q (by rw [join_ones])
theorem sc__law_deed : FnScope ["_law_seed_here", "_law_state", "_law_word", "_law_path", "_law_key", "_law_mark", "_law_heads", "_law_first", "_law_some"] ["_law_seed_here", "_law_state"] (defScope s__law_deed) := ⟨rfl, rfl, rfl, by decide +kernel, rfl, by decide +kernel, by decide +kernel⟩
theorem ok__law_deed (c__law_place : Cal P w K mg base 1 "_law_place" sp__law_place) (c__law_path_text : Cal P w K mg base 3 "_law_path_text" sp__law_path_text) (B : Bl mg) (c__law_text : Cal P w K mg base 2 "_law_text" sp__law_text) (c__law_seed : Cal P w K mg base 1 "_law_seed" sp__law_seed) (A : DefAt K mg "_law_deed" s__law_deed ["_law_seed_here", "_law_state"]) : Cal P w K mg base 4 "_law_deed" sp__law_deed := by
  refine cal_of A sc__law_deed (fun ds ω Q E h => by obtain ⟨s, a, Z, S, k, rfl, hs0, hat, hok, hk9, q⟩ := h; rfl) ?_
  intro X f cdv Ar outer sh H E ds ω Qd Ed hX hr tk h'
  subst hX
  obtain ⟨s, a, Z, S, k, rfl, hs0, hat, hok, hk9, q⟩ := h'
  show GSs _ H _ [some (.int s), some (.ref a), none, none, none, none, none, none, none] ω _
  have hbig : sizeLine = 16777216 := sizeLine_eq
  have hpo := place_ok (s / 5)
  have hmk : ∀ {n}, hnL n = true → (30 : Int) ≤ hvM n → okH (n, markF S (textP (placeF (s / 5)).1 (placeF (s / 5)).2)) = true := fun h1 h2 => okH_markF hok hk9 _ h1 h2
  show GSs _ _ _ [_, _, _, _, _, _, _, _, _] _ _
  refine gss_cons (gs_set 2 sc__law_deed.nd rfl (.inl rfl) ?_)
  refine ge_ix (fun _ _ => rfl) ?_
  refine ge_lst ?_
  refine ga_cons ?_
  refine ge_str [103, 101, 116] (by decide +kernel) ?_
  refine ga_cons ?_
  refine ge_str [112, 117, 116] (by decide +kernel) ?_
  refine ga_cons ?_
  refine ge_str [97, 100, 100] (by decide +kernel) ?_
  refine ga_cons ?_
  refine ge_str [100, 114, 111, 112] (by decide +kernel) ?_
  refine ga_cons ?_
  refine ge_str [103, 101, 116] (by decide +kernel) ?_
  refine ga_cons ?_
  refine ge_str [112, 117, 116] (by decide +kernel) ?_
  refine ga_nil ?_
  refine ⟨show 6 ≤ sizeLine by decide, fun p1 np2 => ?_⟩
  refine ge_bin ?_
  refine ge_bin ?_
  refine ge_var 0 rfl (.inl rfl) rfl ?_
  refine ge_int ?_
  refine gb_div ⟨by decide, by decide⟩ ?_
  refine ge_int ?_
  refine gb_mod (by first | decide | omega | (simp only [List.length_map]; omega)) ?_
  refine gi_all (fun d => ∃ w, d = D.str w ∧ w ∈ wordsL) put_same (Int.emod_nonneg _ (by decide)) (Int.emod_lt_of_pos _ (by decide)) (all_cons ⟨_, rfl, by decide⟩ (all_cons ⟨_, rfl, by decide⟩ (all_cons ⟨_, rfl, by decide⟩ (all_cons ⟨_, rfl, by decide⟩ (all_cons ⟨_, rfl, by decide⟩ (all_cons ⟨_, rfl, by decide⟩ all_nil)))))) ?_
  rintro d ⟨w0, rfl, hw0⟩
  have hat0 : SAt (put ω p1 (.lst [.str [103, 101, 116], .str [112, 117, 116], .str [97, 100, 100], .str [100, 114, 111, 112], .str [103, 101, 116], .str [112, 117, 116]])) a Z S := hat.ext (Ext.new np2)
  show GSs _ _ _ [_, _, _, _, _, _, _, _, _] _ _
  refine gss_cons (gs_set 3 sc__law_deed.nd rfl (.inl rfl) ?_)
  refine ge_call (Ex := bodyX Ed) c__law_place (hr.mono (by decide)) tk rfl ?_
  refine ga_cons ?_
  refine ge_bin ?_
  refine ge_var 0 rfl (.inl rfl) rfl ?_
  refine ge_int ?_
  refine gb_div ⟨by decide, by decide⟩ ?_
  refine ga_nil ?_
  refine ⟨_, rfl, ?_⟩
  show GSs _ _ _ [_, _, _, _, _, _, _, _, _] _ _
  refine gss_cons (gs_set 4 sc__law_deed.nd rfl (.inl rfl) ?_)
  refine ge_call (Ex := bodyX Ed) c__law_path_text (hr.mono (by decide)) tk rfl ?_
  refine ga_cons ?_
  refine ge_var 3 rfl (.inl rfl) rfl ?_
  refine ga_nil ?_
  refine ⟨_, _, rfl, hpo.1, hpo.2.1, hpo.2.2.1, hpo.2.2.2, ?_⟩
  show GSs _ _ _ [_, _, _, _, _, _, _, _, _] _ _
  refine gss_cons (gs_set 5 sc__law_deed.nd rfl (.inl rfl) ?_)
  refine ge_ev (.str (markF S (textP (placeF (s / 5)).1 (placeF (s / 5)).2))) ?_ ?_
  · refine ge_if ?_
    refine gt_cmp rfl ?_
    refine ge_var 4 rfl (.inl rfl) rfl ?_
    refine ge_dget hr.units (fun _ _ => rfl) ?_
    refine ge_var 1 rfl (.inl rfl) rfl ?_
    refine ge_str [104, 101, 108, 100] (by decide +kernel) ?_
    refine ⟨_, _, _, _, rfl, SAt.o (by assumption), rfl, sF_held _ _, ?_⟩
    refine gb_din hr.units (SAt.held (by assumption)) rfl ?_
    refine ⟨_, rfl, ?_⟩
    refine ⟨fun h3 => ?_, fun h4 => ?_⟩
    · refine ge_bin ?_
      refine ge_str [109] (by decide +kernel) ?_
      refine ge_callTy B.«str» rfl bb_str ?_
      refine ga_cons ?_
      refine ge_ix (fun _ _ => rfl) ?_
      refine ge_dget hr.units (fun _ _ => rfl) ?_
      refine ge_dget hr.units (fun _ _ => rfl) ?_
      refine ge_var 1 rfl (.inl rfl) rfl ?_
      refine ge_str [104, 101, 108, 100] (by decide +kernel) ?_
      refine ⟨_, _, _, _, rfl, SAt.o (by assumption), rfl, sF_held _ _, ?_⟩
      refine ge_var 4 rfl (.inl rfl) rfl ?_
      obtain ⟨x, e1, e2⟩ := din_some h3
      have hx := hok.lk e1
      have hml := markT_len (n := x.2) (Nat.lt_of_le_of_lt (Nat.le_trans hx.2.2 hk9) (by decide))
      unfold markT at hml
      rw [List.length_cons] at hml
      refine ⟨_, _, _, _, rfl, hat0.held, rfl, e2, ?_⟩
      refine ge_int ?_
      walk_at "i"
      refine ga_nil ?_
      refine gc_str rfl (Nat.lt_of_le_of_lt (Nat.le_trans hx.2.2 hk9) (by decide)) ?_
      walk_at "bp"
      refine ⟨by walk_at "x", ?_⟩
      unfold markF
      rw [e1]
      rfl
    · refine ge_str [110, 111, 110, 101] (by decide +kernel) ?_
      refine ⟨by walk_at "x", ?_⟩
      unfold markF
      rw [din_none h4]
  · show GSs _ _ _ [_, _, _, _, _, _, _, _, _] _ _
    refine gss_cons (gs_set 6 sc__law_deed.nd rfl (.inl rfl) ?_)
    refine ge_bin ?_
    refine ge_lst ?_
    refine ga_cons ?_
    refine ge_tup ?_
    refine ga_cons ?_
    refine ge_str [97] (by decide +kernel) ?_
    refine ga_cons ?_
    refine ge_str [98] (by decide +kernel) ?_
    refine ga_nil ?_
    refine ⟨show 2 ≤ sizeLine by decide, ?_⟩
    refine ga_nil ?_
    refine ⟨show 1 ≤ sizeLine by decide, fun p5 np6 => ?_⟩
    refine ge_bin ?_
    refine ge_bin ?_
    refine ge_var 0 rfl (.inl rfl) rfl ?_
    refine ge_int ?_
    refine gb_div ⟨by decide, by decide⟩ ?_
    refine ge_int ?_
    refine gb_mod (by first | decide | omega | (simp only [List.length_map]; omega)) ?_
    refine gb_mulL put_same (by omega) (by omega) (by show 1 * _ ≤ _; omega) fun pL npL => ?_
    obtain ⟨hs1, eh1, hh1⟩ := DeedH.start (n := s / 17 % 2) (by omega) (by omega)
    have npL0 := (put_none (put_none npL).2).2
    have kp1 : Keep ω (put (put (put ω p1 (.lst [.str [103, 101, 116], .str [112, 117, 116], .str [97, 100, 100], .str [100, 114, 111, 112], .str [103, 101, 116], .str [112, 117, 116]])) p5 (.lst [.tup [.str [97], .str [98]]])) pL (.lst (hs1.map hdD))) pL := keep_put (keep_new (keep_new keep_refl np2) np6)
    rw [show (List.replicate (s / 17 % 2).toNat [D.tup [D.str [97], D.str [98]]]).flatten = hs1.map hdD from eh1]
    have wL : (put (put (put ω p1 (.lst [.str [103, 101, 116], .str [112, 117, 116], .str [97, 100, 100], .str [100, 114, 111, 112], .str [103, 101, 116], .str [112, 117, 116]])) p5 (.lst [.tup [.str [97], .str [98]]])) pL (.lst (hs1.map hdD))) pL = some (.lst (hs1.map hdD)) := put_same
    have hzz : (hs1.map hdD).length < sizeLine := by rw [List.length_map]; have := hh1.1; omega
    show GSs _ _ _ [_, _, _, _, _, _, _, _, _] _ _
    refine gss_cut (fun ρ1 ω1 => Keep ω ω1 pL ∧ ∃ hs y7 y8, DeedH hs 2 ∧ ω1 pL = some (.lst (hs.map hdD)) ∧ ρ1 = [some (.int s), some (.ref a), some (.str w0), some (pathD (placeF (s / 5)).1 (placeF (s / 5)).2), some (.str (textP (placeF (s / 5)).1 (placeF (s / 5)).2)), some (.str (markF S (textP (placeF (s / 5)).1 (placeF (s / 5)).2))), some (.ref pL), y7, y8]) ?_ ?_
    · refine gs_if ?_
      refine gt_cmp (nomark _) ?_
      refine ge_bin ?_
      refine ge_bin ?_
      refine ge_var 0 rfl (.inl rfl) rfl ?_
      refine ge_int ?_
      refine gb_div ⟨by decide, by decide⟩ ?_
      refine ge_int ?_
      refine gb_mod (by first | decide | omega | (simp only [List.length_map]; omega)) ?_
      refine ge_int ?_
      refine gb_eqI ?_
      refine ⟨_, rfl, ?_⟩
      refine ⟨fun h7 => ?_, fun h8 => ?_⟩
      · skip
        show GSs _ _ _ [_, _, _, _, _, _, _, _, _] _ _
        refine gss_one (gs_expr ?_)
        refine ge_bm PySem.F.plainAttrs_list PySem.F.slot_list_append PySem.F.type_list_append ?_
        refine ge_var 6 rfl (.inl rfl) rfl ?_
        walk_at "y"
        refine ga_cons ?_
        refine ge_tup ?_
        refine ga_cons ?_
        refine ge_str [111, 110, 99, 101] (by decide +kernel) ?_
        refine ga_cons ?_
        refine ge_ix (fun _ _ => rfl) ?_
        refine ge_lst ?_
        refine ga_cons ?_
        refine ge_str [120] (by decide +kernel) ?_
        refine ga_cons ?_
        refine ge_str [121] (by decide +kernel) ?_
        refine ga_cons ?_
        refine ge_str [122, 49] (by decide +kernel) ?_
        refine ga_nil ?_
        refine ⟨show 3 ≤ sizeLine by decide, fun p9 np10 => ?_⟩
        refine ge_bin ?_
        refine ge_bin ?_
        refine ge_var 0 rfl (.inl rfl) rfl ?_
        refine ge_int ?_
        refine gb_div ⟨by decide, by decide⟩ ?_
        refine ge_int ?_
        refine gb_mod (by first | decide | omega | (simp only [List.length_map]; omega)) ?_
        refine gi_all (fun d => ∃ v, d = D.str v ∧ okH (onceS, v) = true) put_same (Int.emod_nonneg _ (by decide)) (Int.emod_lt_of_pos _ (by decide)) (all_cons ⟨_, rfl, by decide⟩ (all_cons ⟨_, rfl, by decide⟩ (all_cons ⟨_, rfl, by decide⟩ all_nil))) ?_
        rintro d ⟨v, rfl, hv⟩
        refine ga_nil ?_
        refine ⟨show 2 ≤ sizeLine by decide, ?_⟩
        refine ga_nil ?_
        refine gm_append (Ext.new np10 _ _ wL) hzz ?_
        exact ⟨keep_put (keep_new kp1 np10), hs1 ++ [(onceS, v)], none, none, hh1.app hv (show onceS ∈ deedNames by decide), by rw [put_same, List.map_append]; rfl, rfl⟩
      · skip
        refine gss_nil ?_
        exact ⟨kp1, hs1, none, none, hh1.more (by decide), wL, rfl⟩
    · rintro ρ1 ω1 ⟨kp, hs, y7, y8, hh, w1, rfl⟩
      have hzz : (hs.map hdD).length < sizeLine := by rw [List.length_map]; have := hh.1; omega
      show GSs _ _ _ [_, _, _, _, _, _, _, _, _] _ _
      refine gss_cut (fun ρ1 ω1 => Keep ω ω1 pL ∧ ∃ hs y7 y8, DeedH hs 3 ∧ ω1 pL = some (.lst (hs.map hdD)) ∧ ρ1 = [some (.int s), some (.ref a), some (.str w0), some (pathD (placeF (s / 5)).1 (placeF (s / 5)).2), some (.str (textP (placeF (s / 5)).1 (placeF (s / 5)).2)), some (.str (markF S (textP (placeF (s / 5)).1 (placeF (s / 5)).2))), some (.ref pL), y7, y8]) ?_ ?_
      · refine gs_if ?_
        refine gt_cmp (nomark _) ?_
        refine ge_bin ?_
        refine ge_bin ?_
        refine ge_var 0 rfl (.inl rfl) rfl ?_
        refine ge_int ?_
        refine gb_div ⟨by decide, by decide⟩ ?_
        refine ge_int ?_
        refine gb_mod (by first | decide | omega | (simp only [List.length_map]; omega)) ?_
        refine ge_int ?_
        refine gb_eqI ?_
        refine ⟨_, rfl, ?_⟩
        refine ⟨fun h11 => ?_, fun h12 => ?_⟩
        · skip
          show GSs _ _ _ [_, _, _, _, _, _, _, _, _] _ _
          refine gss_one (gs_expr ?_)
          refine ge_bm PySem.F.plainAttrs_list PySem.F.slot_list_append PySem.F.type_list_append ?_
          refine ge_var 6 rfl (.inl rfl) rfl ?_
          walk_at "y"
          refine ga_cons ?_
          refine ge_tup ?_
          refine ga_cons ?_
          refine ge_str [117, 110, 108, 101, 115, 115] (by decide +kernel) ?_
          refine ga_cons ?_
          refine ge_ix (fun _ _ => rfl) ?_
          refine ge_lst ?_
          refine ga_cons ?_
          refine ge_var 5 rfl (.inl rfl) rfl ?_
          refine ga_cons ?_
          refine ge_str [109, 49] (by decide +kernel) ?_
          refine ga_cons ?_
          refine ge_var 5 rfl (.inl rfl) rfl ?_
          refine ga_nil ?_
          refine ⟨show 3 ≤ sizeLine by decide, fun p13 np14 => ?_⟩
          refine ge_bin ?_
          refine ge_bin ?_
          refine ge_var 0 rfl (.inl rfl) rfl ?_
          refine ge_int ?_
          refine gb_div ⟨by decide, by decide⟩ ?_
          refine ge_int ?_
          refine gb_mod (by first | decide | omega | (simp only [List.length_map]; omega)) ?_
          refine gi_all (fun d => ∃ v, d = D.str v ∧ okH (unlessS, v) = true) put_same (Int.emod_nonneg _ (by decide)) (Int.emod_lt_of_pos _ (by decide)) (all_cons ⟨_, rfl, hmk (by decide) (by decide)⟩ (all_cons ⟨_, rfl, by decide⟩ (all_cons ⟨_, rfl, hmk (by decide) (by decide)⟩ all_nil))) ?_
          rintro d ⟨v, rfl, hv⟩
          refine ga_nil ?_
          refine ⟨show 2 ≤ sizeLine by decide, ?_⟩
          refine ga_nil ?_
          refine gm_append (Ext.new np14 _ _ w1) hzz ?_
          refine ⟨keep_put (keep_new kp np14), hs ++ [(unlessS, v)], y7, y8, hh.app hv (show unlessS ∈ deedNames by decide), by rw [put_same, List.map_append]; rfl, rfl⟩
        · skip
          refine gss_nil ?_
          exact ⟨kp, hs, y7, y8, hh.more (by decide), w1, rfl⟩
      · rintro ρ1 ω1 ⟨kp, hs, y7, y8, hh, w1, rfl⟩
        have hzz : (hs.map hdD).length < sizeLine := by rw [List.length_map]; have := hh.1; omega
        show GSs _ _ _ [_, _, _, _, _, _, _, _, _] _ _
        refine gss_cut (fun ρ1 ω1 => Keep ω ω1 pL ∧ ∃ hs y7 y8, DeedH hs 4 ∧ ω1 pL = some (.lst (hs.map hdD)) ∧ ρ1 = [some (.int s), some (.ref a), some (.str w0), some (pathD (placeF (s / 5)).1 (placeF (s / 5)).2), some (.str (textP (placeF (s / 5)).1 (placeF (s / 5)).2)), some (.str (markF S (textP (placeF (s / 5)).1 (placeF (s / 5)).2))), some (.ref pL), y7, y8]) ?_ ?_
        · refine gs_if ?_
          refine gt_cmp (nomark _) ?_
          refine ge_bin ?_
          refine ge_bin ?_
          refine ge_var 0 rfl (.inl rfl) rfl ?_
          refine ge_int ?_
          refine gb_div ⟨by decide, by decide⟩ ?_
          refine ge_int ?_
          refine gb_mod (by first | decide | omega | (simp only [List.length_map]; omega)) ?_
          refine ge_int ?_
          refine gb_eqI ?_
          refine ⟨_, rfl, ?_⟩
          refine ⟨fun h15 => ?_, fun h16 => ?_⟩
          · skip
            show GSs _ _ _ [_, _, _, _, _, _, _, _, _] _ _
            refine gss_one (gs_expr ?_)
            refine ge_bm PySem.F.plainAttrs_list PySem.F.slot_list_append PySem.F.type_list_append ?_
            refine ge_var 6 rfl (.inl rfl) rfl ?_
            walk_at "y"
            refine ga_cons ?_
            refine ge_tup ?_
            refine ga_cons ?_
            refine ge_str [111, 110, 108, 121] (by decide +kernel) ?_
            refine ga_cons ?_
            refine ge_ix (fun _ _ => rfl) ?_
            refine ge_lst ?_
            refine ga_cons ?_
            refine ge_var 5 rfl (.inl rfl) rfl ?_
            refine ga_cons ?_
            refine ge_str [109, 50] (by decide +kernel) ?_
            refine ga_cons ?_
            refine ge_var 5 rfl (.inl rfl) rfl ?_
            refine ga_cons ?_
            refine ge_str [110, 111, 110, 101] (by decide +kernel) ?_
            refine ga_nil ?_
            refine ⟨show 4 ≤ sizeLine by decide, fun p17 np18 => ?_⟩
            refine ge_bin ?_
            refine ge_bin ?_
            refine ge_var 0 rfl (.inl rfl) rfl ?_
            refine ge_int ?_
            refine gb_div ⟨by decide, by decide⟩ ?_
            refine ge_int ?_
            refine gb_mod (by first | decide | omega | (simp only [List.length_map]; omega)) ?_
            refine gi_all (fun d => ∃ v, d = D.str v ∧ okH (onlyS, v) = true) put_same (Int.emod_nonneg _ (by decide)) (Int.emod_lt_of_pos _ (by decide)) (all_cons ⟨_, rfl, hmk (by decide) (by decide)⟩ (all_cons ⟨_, rfl, by decide⟩ (all_cons ⟨_, rfl, hmk (by decide) (by decide)⟩ (all_cons ⟨_, rfl, by decide⟩ all_nil)))) ?_
            rintro d ⟨v, rfl, hv⟩
            refine ga_nil ?_
            refine ⟨show 2 ≤ sizeLine by decide, ?_⟩
            refine ga_nil ?_
            refine gm_append (Ext.new np18 _ _ w1) hzz ?_
            refine ⟨keep_put (keep_new kp np18), hs ++ [(onlyS, v)], y7, y8, hh.app hv (show onlyS ∈ deedNames by decide), by rw [put_same, List.map_append]; rfl, rfl⟩
          · skip
            refine gss_nil ?_
            exact ⟨kp, hs, y7, y8, hh.more (by decide), w1, rfl⟩
        · rintro ρ1 ω1 ⟨kp, hs, y7, y8, hh, w1, rfl⟩
          have hzz : (hs.map hdD).length < sizeLine := by rw [List.length_map]; have := hh.1; omega
          show GSs _ _ _ [_, _, _, _, _, _, _, _, _] _ _
          refine gss_cut (fun ρ1 ω1 => Keep ω ω1 pL ∧ ∃ hs y7 y8, DeedH hs 5 ∧ ω1 pL = some (.lst (hs.map hdD)) ∧ ρ1 = [some (.int s), some (.ref a), some (.str w0), some (pathD (placeF (s / 5)).1 (placeF (s / 5)).2), some (.str (textP (placeF (s / 5)).1 (placeF (s / 5)).2)), some (.str (markF S (textP (placeF (s / 5)).1 (placeF (s / 5)).2))), some (.ref pL), y7, y8]) ?_ ?_
          · refine gs_if ?_
            refine gt_cmp (nomark _) ?_
            refine ge_bin ?_
            refine ge_bin ?_
            refine ge_var 0 rfl (.inl rfl) rfl ?_
            refine ge_int ?_
            refine gb_div ⟨by decide, by decide⟩ ?_
            refine ge_int ?_
            refine gb_mod (by first | decide | omega | (simp only [List.length_map]; omega)) ?_
            refine ge_int ?_
            refine gb_eqI ?_
            refine ⟨_, rfl, ?_⟩
            refine ⟨fun h19 => ?_, fun h20 => ?_⟩
            · skip
              show GSs _ _ _ [_, _, _, _, _, _, _, _, _] _ _
              refine gss_cons (gs_set 7 sc__law_deed.nd rfl (.inl rfl) ?_)
              refine ge_bin ?_
              refine ge_bin ?_
              refine ge_var 0 rfl (.inl rfl) rfl ?_
              refine ge_int ?_
              refine gb_div ⟨by decide, by decide⟩ ?_
              refine ge_int ?_
              refine gb_mod (by first | decide | omega | (simp only [List.length_map]; omega)) ?_
              show GSs _ _ _ [_, _, _, _, _, _, _, _, _] _ _
              refine gss_cons (gs_set 8 sc__law_deed.nd rfl (.inl rfl) ?_)
              refine ge_lst ?_
              refine ga_cons ?_
              refine ge_bin ?_
              refine ge_bin ?_
              refine ge_callTy B.«str» rfl bb_str ?_
              refine ga_cons ?_
              refine ge_var 7 rfl (.inl rfl) rfl ?_
              refine ga_nil ?_
              have hf1 : 0 ≤ s / 47 % 9 ∧ s / 47 % 9 < 9 := ⟨Int.emod_nonneg _ (by decide), Int.emod_lt_of_pos _ (by decide)⟩
              have hf2 : 0 ≤ s / 53 % 9 ∧ s / 53 % 9 < 9 := ⟨Int.emod_nonneg _ (by decide), Int.emod_lt_of_pos _ (by decide)⟩
              have hfl := numL_len (n := (s / 47 % 9).toNat) (k := 3) (by omega) (by decide)
              have hgl := numL_len (n := (s / 47 % 9 + s / 53 % 9).toNat) (k := 3) (by omega) (by decide)
              refine gc_str (Int.toNat_of_nonneg hf1.1).symm (by omega) ?_
              refine ge_str [45] (by decide +kernel) ?_
              walk_at "bp"
              refine ge_callTy B.«str» rfl bb_str ?_
              refine ga_cons ?_
              refine ge_bin ?_
              refine ge_var 7 rfl (.inl rfl) rfl ?_
              refine ge_bin ?_
              refine ge_bin ?_
              refine ge_var 0 rfl (.inl rfl) rfl ?_
              refine ge_int ?_
              refine gb_div ⟨by decide, by decide⟩ ?_
              refine ge_int ?_
              refine gb_mod (by first | decide | omega | (simp only [List.length_map]; omega)) ?_
              walk_at "bp"
              refine ga_nil ?_
              refine gc_str (Int.toNat_of_nonneg (show 0 ≤ s / 47 % 9 + s / 53 % 9 by omega)).symm (by omega) ?_
              walk_at "bp"
              refine ga_cons ?_
              refine ge_bin ?_
              refine ge_callTy B.«str» rfl bb_str ?_
              refine ga_cons ?_
              refine ge_var 7 rfl (.inl rfl) rfl ?_
              refine ga_nil ?_
              refine gc_str (Int.toNat_of_nonneg hf1.1).symm (by omega) ?_
              refine ge_str [45, 57, 57, 57] (by decide +kernel) ?_
              walk_at "bp"
              refine ga_cons ?_
              refine ge_str [51, 45, 49] (by decide +kernel) ?_
              refine ga_cons ?_
              refine ge_str [120, 45, 50] (by decide +kernel) ?_
              refine ga_cons ?_
              refine ge_str [48, 49, 45, 50] (by decide +kernel) ?_
              refine ga_cons ?_
              refine ge_str [50] (by decide +kernel) ?_
              refine ga_cons ?_
              refine ge_str [48, 45, 48] (by decide +kernel) ?_
              refine ga_nil ?_
              refine ⟨show 7 ≤ sizeLine by decide, fun p21 np22 => ?_⟩
              show GSs _ _ _ [_, _, _, _, _, _, _, _, _] _ _
              refine gss_one (gs_expr ?_)
              refine ge_bm PySem.F.plainAttrs_list PySem.F.slot_list_append PySem.F.type_list_append ?_
              refine ge_var 6 rfl (.inl rfl) rfl ?_
              walk_at "y"
              refine ga_cons ?_
              refine ge_tup ?_
              refine ga_cons ?_
              refine ge_str [112, 97, 114, 116] (by decide +kernel) ?_
              refine ga_cons ?_
              refine ge_ix (fun _ _ => rfl) ?_
              refine ge_var 8 rfl (.inl rfl) rfl ?_
              refine ge_bin ?_
              refine ge_bin ?_
              refine ge_var 0 rfl (.inl rfl) rfl ?_
              refine ge_int ?_
              refine gb_div ⟨by decide, by decide⟩ ?_
              refine ge_int ?_
              refine gb_mod (by first | decide | omega | (simp only [List.length_map]; omega)) ?_
              refine gi_all (fun d => ∃ v, d = D.str v ∧ okH (partS, v) = true) put_same (Int.emod_nonneg _ (by decide)) (Int.emod_lt_of_pos _ (by decide)) (all_cons ⟨_, rfl, okH_span hf1.1 (by omega) (by omega) (by omega)⟩ (all_cons ⟨_, rfl, okH_999 hf1.1 (by omega)⟩ (all_cons ⟨_, rfl, by decide⟩ (all_cons ⟨_, rfl, by decide⟩ (all_cons ⟨_, rfl, by decide⟩ (all_cons ⟨_, rfl, by decide⟩ (all_cons ⟨_, rfl, by decide⟩ all_nil))))))) ?_
              rintro d ⟨v, rfl, hv⟩
              refine ga_nil ?_
              refine ⟨show 2 ≤ sizeLine by decide, ?_⟩
              refine ga_nil ?_
              refine gm_append (Ext.new np22 _ _ w1) hzz ?_
              exact ⟨keep_put (keep_new kp np22), hs ++ [(partS, v)], _, _, hh.app hv (show partS ∈ deedNames by decide), by rw [put_same, List.map_append]; rfl, rfl⟩
            · skip
              refine gss_nil ?_
              exact ⟨kp, hs, y7, y8, hh.more (by decide), w1, rfl⟩
          · rintro ρ1 ω1 ⟨kp, hs, y7, y8, hh, w1, rfl⟩
            have hzz : (hs.map hdD).length < sizeLine := by rw [List.length_map]; have := hh.1; omega
            show GSs _ _ _ [_, _, _, _, _, _, _, _, _] _ _
            refine gss_one (gs_ret ?_)
            refine ge_tup ?_
            refine ga_cons ?_
            refine ge_var 2 rfl (.inl rfl) rfl ?_
            refine ga_cons ?_
            refine ge_var 3 rfl (.inl rfl) rfl ?_
            refine ga_cons ?_
            refine ge_callTy B.«tuple» rfl bb_tuple ?_
            refine ga_cons ?_
            refine ge_var 6 rfl (.inl rfl) rfl ?_
            refine ga_nil ?_
            walk_at "c"
            refine ga_cons ?_
            refine ge_call (Ex := bodyX Ed) c__law_text (hr.mono (by decide)) tk rfl ?_
            refine ga_cons ?_
            refine ge_call (Ex := bodyX Ed) c__law_seed (hr.mono (by decide)) tk rfl ?_
            refine ga_cons ?_
            refine ge_var 0 rfl (.inl rfl) rfl ?_
            refine ga_cons ?_
            refine ge_int ?_
            refine ga_nil ?_
            refine ⟨_, _, rfl, ?_⟩
            refine ga_cons ?_
            refine ge_int ?_
            refine ga_cons ?_
            refine ge_bl ?_
            refine ga_nil ?_
            refine ⟨_, _, _, rfl, by decide, by decide, ?_⟩
            have htl := textF_len (seedF s 3) 12 true
            refine ga_nil ?_
            refine ⟨show 4 ≤ sizeLine by decide, ?_⟩
            exact rtq (fun b m e => kp b m e fun z => by rw [z, npL0] at e; cases e) (q ⟨w0, (placeF (s / 5)).1, (placeF (s / 5)).2, hs, textF (seedF s 3) 12 true⟩ ⟨hw0, hpo.1, hpo.2.1, hpo.2.2.1, hpo.2.2.2, Nat.le_trans hh.1 (by decide), hh.2.1, by show (textF (seedF s 3) 12 true).length ≤ 120; omega, textF_ok _ _ _⟩ hh rfl (by show (textF (seedF s 3) 12 true).length ≤ 12; omega)) rfl
theorem sc_is_text : FnScope ["thing", "most", "sign"] ["thing", "most"] (defScope s_is_text) := ⟨rfl, rfl, rfl, by decide +kernel, rfl, by decide +kernel, by decide +kernel⟩
theorem ok_is_text (B : Bl mg) (g_SIGNS : Glob K mg "SIGNS" (.str lSIGNS)) (A : DefAt K mg "is_text" s_is_text ["thing", "most"]) : Cal P w K mg base 1 "is_text" sp_is_text := by
  refine cal_of A sc_is_text (fun ds ω Q E h => by obtain ⟨d, m, rfl, ⟨kd, hk⟩, q⟩ := h; rfl) ?_
  intro X f cdv Ar outer sh H E ds ω Qd Ed hX hr tk h'
  subst hX
  obtain ⟨d, m, rfl, ⟨kd, hk⟩, q⟩ := h'
  show GSs _ H _ [some (d), some (.int m), none] ω _
  show GSs _ _ _ [_, _, _] _ _
  refine gss_cons (gs_if (gt_ev (!strLe d m) ?_ ⟨fun h1 => ?_, fun h2 => ?_⟩))
  · refine gt_bool ?_
    refine gw_or ?_
    refine gt_not ?_
    refine gt_truth (by intro _; rfl) ?_
    refine ge_isi B.«isinstance» rfl bb_isinstance B.«str» rfl bb_str (by decide) ?_
    refine ge_var 0 rfl (.inl rfl) rfl ?_
    obtain ⟨b1, hb1, hs1, hn1⟩ := isT_str hk
    refine ⟨b1, hb1, ?_⟩
    walk_at "t"
    refine ⟨fun h3 => ?_, fun h4 => ?_⟩
    · skip
      refine ⟨by walk_at "x", ?_⟩
      rw [strLe_no (hn1 (by simpa using h3))]
      rfl
    · obtain ⟨s, rfl⟩ := hs1 (by simpa using h4)
      refine gw_or1 ?_
      refine gt_cmp (nomark _) ?_
      refine ge_callB B.«len» rfl bb_len ?_
      refine ga_cons ?_
      refine ge_var 0 rfl (.inl rfl) rfl ?_
      refine ga_nil ?_
      walk_at "c"
      refine ge_var 1 rfl (.inl rfl) rfl ?_
      refine gb_gt ?_
      refine ⟨_, rfl, ?_⟩
      refine ⟨by walk_at "x", ?_⟩
      show decide (m < (s.length : Int)) = !decide ((s.length : Int) ≤ m)
      rw [Bool.eq_iff_iff]
      simp
  · skip
    show GSs _ _ _ [_, _, _] _ _
    refine gss_one (gs_ret ?_)
    refine ge_bl ?_
    exact rtq (by walk_at "x") q (by rw [isText_no (by simpa using h1)])
  · obtain ⟨l, rfl⟩ := strLe_str (by simpa using h2)
    refine gss_nil ?_
    show GSs _ _ _ [_, _, _] _ _
    refine gss_one (gs_ret ?_)
    refine ge_not ?_
    refine ge_lc (own := [("sign", 2)]) (js := [2]) (split := sp1) rfl sc_is_text.nd tg_name (by decide) (blkOk_by (own := [("sign", 2)]) (N := ["thing", "most", "sign"]) (sc := defScope s_is_text) (by decide +kernel)) (fun _ _ _ _ _ => pg_name (i := 2) sc_is_text.nd rfl (Or.inl rfl)) ?_
    refine gj_str ?_
    refine ge_var 0 rfl (.inl rfl) rfl ?_
    walk_at "j"
    try intro hz
    refine lc_pure (fun d => !isT1 (chOf d)) (fun d => d) (by first | (rw [List.length_map]; exact hz) | walk_at "z") (fun _ x => by first | trivial | exact x _ _ (by walk_at "o")) ?_ ?_
    · rintro d ω1 hd x1
      first | (obtain ⟨c, hcm, rfl⟩ := List.mem_map.mp hd) | skip
      refine ⟨_, rfl, fun s H C cl fp => ?_, fun hc s H C cl fp => ?_⟩
      · refine gt_bool ?_
        refine gw_and ?_
        refine gt_cmp rfl ?_
        refine ge_var 2 rfl (.inl rfl) rfl ?_
        refine ge_glob g_SIGNS rfl ?_
        refine gb_notInC ?_
        refine ⟨_, rfl, ?_⟩
        refine ⟨fun h5 => ?_, fun h6 => ?_⟩
        · refine gw_and1 ?_
          refine gt_cmp (nomark _) ?_
          refine ge_var 2 rfl (.inl rfl) rfl ?_
          refine ge_str [10] (by decide +kernel) ?_
          walk_at "bn"
          refine ⟨_, rfl, ?_⟩
          refine ⟨by walk_at "x", ?_⟩
          rw [mem_SIGNS] at h5
          show (!decide ([c] = [10])) = !isT1 c
          unfold isT1
          simp at h5
          simp [h5]
        · refine ⟨by walk_at "x", ?_⟩
          rw [mem_SIGNS] at h6
          show false = !isT1 c
          unfold isT1
          simp at h6
          simp [h6]
      · refine ge_var 2 rfl (.inl rfl) rfl ?_
        refine ⟨by walk_at "x", ?_⟩
        walk_at "eq"
    · intro p7 np8
      walk_at "t"
      refine rtq (by walk_at "x") q ?_
      rw [not_filter (p := fun c => !isT1 c) fun c => rfl]
      simp [strLe] at h2
      simp [isTextD, okT, h2]
theorem sc_is_path : FnScope ["thing", "parts", "asks", "part", "ask"] ["thing"] (defScope s_is_path) := ⟨rfl, rfl, rfl, by decide +kernel, rfl, by decide +kernel, by decide +kernel⟩
theorem ok_is_path (B : Bl mg) (c_is_text : Cal P w K mg base 1 "is_text" sp_is_text) (A : DefAt K mg "is_path" s_is_path ["thing"]) : Cal P w K mg base 2 "is_path" sp_is_path := by
  refine cal_of A sc_is_path (fun ds ω Q E h => by obtain ⟨d, rfl, hk, q⟩ := h; rfl) ?_
  intro X f cdv Ar outer sh H E ds ω Qd Ed hX hr tk h'
  subst hX
  obtain ⟨d, rfl, hk, q⟩ := h'
  show GSs _ H _ [some (d), none, none, none, none] ω _
  show GSs _ _ _ [_, _, _, _, _] _ _
  refine gss_cons (gs_if (gt_ev (!len2D d) ?_ ⟨fun h1 => ?_, fun h2 => ?_⟩))
  · refine gt_bool ?_
    refine gw_or ?_
    refine gt_not ?_
    refine gt_truth (by intro _; rfl) ?_
    refine ge_isi B.«isinstance» rfl bb_isinstance B.«tuple» rfl bb_tuple (by decide) ?_
    refine ge_var 0 rfl (.inl rfl) rfl ?_
    refine ⟨_, it_tup hk, ?_⟩
    walk_at "t"
    refine ⟨fun h3 => ?_, fun h4 => ?_⟩
    · skip
      refine ⟨by walk_at "x", ?_⟩
      rw [len2_no (by simpa using h3)]
      rfl
    · obtain ⟨ss, rfl⟩ := tupB_iff (d := d) (by simpa using h4)
      refine gw_or1 ?_
      refine gt_cmp (nomark _) ?_
      refine ge_callB B.«len» rfl bb_len ?_
      refine ga_cons ?_
      refine ge_var 0 rfl (.inl rfl) rfl ?_
      refine ga_nil ?_
      walk_at "c"
      refine ge_int ?_
      walk_at "bn"
      refine ⟨_, rfl, ?_⟩
      refine ⟨by walk_at "x", ?_⟩
      rw [← len2_eq]
  · skip
    show GSs _ _ _ [_, _, _, _, _] _ _
    refine gss_one (gs_ret ?_)
    refine ge_bl ?_
    refine rtq (by walk_at "x") q ?_
    refine congrArg D.bl ?_
    unfold isPathD
    split
    · cases h1
    · rfl
  · obtain ⟨x, y, rfl⟩ := len2_of (d := d) (by simpa using h2)
    have hkx : kn ω x = true := kn_tup hk x (by simp)
    have hky : kn ω y = true := kn_tup hk y (by simp)
    refine gss_nil ?_
    show GSs _ _ _ [_, _, _, _, _] _ _
    refine gss_cons (gs_asg ?_)
    refine ge_var 0 rfl (.inl rfl) rfl ?_
    skip
    refine gg_tup rfl rfl ?_
    refine ggs_cons ?_
    refine gg_name 1 sc_is_path.nd rfl (.inl rfl) ?_
    refine ggs_cons ?_
    refine gg_name 2 sc_is_path.nd rfl (.inl rfl) ?_
    refine ggs_nil ?_
    show GSs _ _ _ [_, _, _, _, _] _ _
    refine gss_cons (gs_if (gt_ev (!(tupB x && tupB y)) ?_ ⟨fun h5 => ?_, fun h6 => ?_⟩))
    · refine gt_bool ?_
      refine gw_or ?_
      refine gt_not ?_
      refine gt_truth (by intro _; rfl) ?_
      refine ge_isi B.«isinstance» rfl bb_isinstance B.«tuple» rfl bb_tuple (by decide) ?_
      refine ge_var 1 rfl (.inl rfl) rfl ?_
      refine ⟨_, it_tup hkx, ?_⟩
      walk_at "t"
      refine ⟨fun h7 => ?_, fun h8 => ?_⟩
      · skip
        refine ⟨by walk_at "x", ?_⟩
        have e : tupB x = false := by simpa using h7
        rw [e]
        rfl
      · have e : tupB x = true := by simpa using h8
        refine gw_or1 ?_
        refine gt_not ?_
        refine gt_truth (by intro _; rfl) ?_
        refine ge_isi B.«isinstance» rfl bb_isinstance B.«tuple» rfl bb_tuple (by decide) ?_
        refine ge_var 2 rfl (.inl rfl) rfl ?_
        refine ⟨_, it_tup hky, ?_⟩
        walk_at "t"
        refine ⟨by walk_at "x", ?_⟩
        rw [e]
        rfl
    · skip
      show GSs _ _ _ [_, _, _, _, _] _ _
      refine gss_one (gs_ret ?_)
      refine ge_bl ?_
      refine rtq (by walk_at "x") q ?_
      refine congrArg D.bl ?_
      unfold isPathD
      split
      · rename_i e; cases e; cases h5
      · rfl
    · obtain ⟨ps, rfl⟩ := tupB_iff (d := x) (by simp at h6; exact h6.1)
      obtain ⟨as, rfl⟩ := tupB_iff (d := y) (by simp at h6; exact h6.2)
      refine gss_nil ?_
      show GSs _ _ _ [_, _, _, _, _] _ _
      refine gss_cons (gs_if (gt_ev (!(decide (ps.length ≤ 5) && decide (as.length ≤ 4) && ps.all isPartD)) ?_ ⟨fun h9 => ?_, fun h10 => ?_⟩))
      · refine gt_bool ?_
        refine gw_or ?_
        refine gt_cmp (nomark _) ?_
        refine ge_callB B.«len» rfl bb_len ?_
        refine ga_cons ?_
        refine ge_var 1 rfl (.inl rfl) rfl ?_
        refine ga_nil ?_
        walk_at "c"
        refine ge_int ?_
        refine gb_gt ?_
        refine ⟨_, rfl, ?_⟩
        refine ⟨fun h11 => ?_, fun h12 => ?_⟩
        · skip
          refine ⟨by walk_at "x", ?_⟩
          have e : ¬ ps.length ≤ 5 := by simp at h11; omega
          rw [decide_eq_false e]
          rfl
        · have e5 : ps.length ≤ 5 := by simp at h12; omega
          refine gw_or ?_
          refine gt_cmp (nomark _) ?_
          refine ge_callB B.«len» rfl bb_len ?_
          refine ga_cons ?_
          refine ge_var 2 rfl (.inl rfl) rfl ?_
          refine ga_nil ?_
          walk_at "c"
          refine ge_int ?_
          refine gb_gt ?_
          refine ⟨_, rfl, ?_⟩
          refine ⟨fun h13 => ?_, fun h14 => ?_⟩
          · skip
            refine ⟨by walk_at "x", ?_⟩
            have e : ¬ as.length ≤ 4 := by simp at h13; omega
            rw [decide_eq_false e, Bool.and_false]
            rfl
          · have e4 : as.length ≤ 4 := by simp at h14; omega
            refine gw_or1 ?_
            refine gt_truth (by intro _; rfl) ?_
            refine ge_lc (own := [("part", 3)]) (js := [3]) (split := sp1) rfl sc_is_path.nd tg_name (by decide) (blkOk_by (own := [("part", 3)]) (N := ["thing", "parts", "asks", "part", "ask"]) (sc := defScope s_is_path) (by decide +kernel)) (fun _ _ _ _ _ => pg_name (i := 3) sc_is_path.nd rfl (Or.inl rfl)) ?_
            refine gj_tup ?_
            refine ge_var 1 rfl (.inl rfl) rfl ?_
            walk_at "j"
            try intro hz
            refine lc_pure (fun d => !isPartD d) (fun d => d) (by have h2 : sizeLine = 16777216 := sizeLine_eq; omega) (fun _ x => by first | trivial | exact x _ _ (by walk_at "o")) ?_ ?_
            · rintro d ω1 hd x1
              have hkd : kn ω1 d = true := kn_ext x1 _ (kn_tup hkx d hd)
              refine ⟨_, rfl, fun s H C cl fp => ?_, fun hc s H C cl fp => ?_⟩
              · refine gt_bool ?_
                refine gw_or ?_
                refine gt_not ?_
                refine gt_truth (by intro _; rfl) ?_
                refine ge_call (Ex := fun _ _ _ _ => False) c_is_text (hr.mono (by decide)) xw0 rfl ?_
                refine ga_cons ?_
                refine ge_var 3 rfl (.inl rfl) rfl ?_
                refine ga_cons ?_
                refine ge_int ?_
                refine ga_nil ?_
                refine ⟨d, 8, rfl, kn_kind hkd, ?_⟩
                walk_at "t"
                refine ⟨fun h15 => ?_, fun h16 => ?_⟩
                · skip
                  refine ⟨by walk_at "x", ?_⟩
                  have e : isTextD d 8 = false := by simpa using h15
                  show true = !(isTextD d 8 && !isEmS d)
                  rw [e]
                  rfl
                · have e : isTextD d 8 = true := by simpa using h16
                  obtain ⟨s1, rfl⟩ := isText_sh e
                  refine gw_or1 ?_
                  refine gt_cmp (nomark _) ?_
                  refine ge_var 3 rfl (.inl rfl) rfl ?_
                  refine ge_str [] (by decide +kernel) ?_
                  walk_at "be"
                  refine ⟨_, rfl, ?_⟩
                  refine ⟨by walk_at "x", ?_⟩
                  show decide (s1 = []) = !(isTextD (.str s1) 8 && !isEmS (.str s1))
                  rw [e]
                  cases s1 <;> rfl
              · refine ge_var 3 rfl (.inl rfl) rfl ?_
                refine ⟨by walk_at "x", ?_⟩
                walk_at "eq"
            · intro p17 np18
              walk_at "t"
              refine ⟨by walk_at "x", ?_⟩
              rw [decide_eq_true e5, decide_eq_true e4, part_all]
              rfl
      · show GSs _ _ _ [_, _, _, _, _] _ _
        refine gss_one (gs_ret ?_)
        refine ge_bl ?_
        refine rtq (by walk_at "x") q ?_
        refine congrArg D.bl ?_
        show (decide (ps.length ≤ 5) && decide (as.length ≤ 4) && ps.all isPartD && as.all isAskD) = false
        have e : (decide (ps.length ≤ 5) && decide (as.length ≤ 4) && ps.all isPartD) = false := nb1 h9
        rw [e]
        rfl
      · refine gss_nil ?_
        show GSs _ _ _ [_, _, _, _, _] _ _
        refine gss_cons (gs_for (fun _ i ρ1 ω1 => Ext ω ω1 ∧ (as.take i).all isAskD = true ∧ ∃ a b, ρ1 = [some (.tup [.tup ps, .tup as]), some (.tup ps), some (.tup as), a, b]) (passes_of rfl) rfl ?_)
        refine gj_tup ?_
        refine ge_var 2 rfl (.inl rfl) rfl ?_
        walk_at "j"
        try intro hz
        refine ⟨⟨Ext.refl _, rfl, none, none, rfl⟩, fun _ _ _ _ _ => trivial, ?_, ?_⟩
        · rintro i z ρ1 ω1 hz1 ⟨x1, ht, a, b, rfl⟩
          have hkz : kn ω1 z = true := kn_ext x1 _ (kn_tup hky z (List.mem_of_getElem? hz1))
          have hpf : (decide (ps.length ≤ 5) && decide (as.length ≤ 4) && ps.all isPartD) = true := nb0 h10
          refine gg_name 4 sc_is_path.nd rfl (.inl rfl) ?_
          show GSs _ _ _ [_, _, _, _, _] _ _
          refine gss_one (gs_if (gt_ev (!isAskD z) ?_ ⟨fun h19 => ?_, fun h20 => ?_⟩))
          · refine gt_bool ?_
            refine gw_or ?_
            refine gt_not ?_
            refine gt_truth (by intro _; rfl) ?_
            refine ge_isi B.«isinstance» rfl bb_isinstance B.«tuple» rfl bb_tuple (by decide) ?_
            refine ge_var 4 rfl (.inl rfl) rfl ?_
            refine ⟨_, it_tup hkz, ?_⟩
            walk_at "t"
            refine ⟨fun h21 => ?_, fun h22 => ?_⟩
            · skip
              refine ⟨by walk_at "x", ?_⟩
              rw [ask_no (len2_no (by simpa using h21))]
              rfl
            · obtain ⟨ss, rfl⟩ := tupB_iff (d := z) (by simpa using h22)
              refine gw_or ?_
              refine gt_cmp (nomark _) ?_
              refine ge_callB B.«len» rfl bb_len ?_
              refine ga_cons ?_
              refine ge_var 4 rfl (.inl rfl) rfl ?_
              refine ga_nil ?_
              walk_at "c"
              refine ge_int ?_
              walk_at "bn"
              refine ⟨_, rfl, ?_⟩
              refine ⟨fun h23 => ?_, fun h24 => ?_⟩
              · skip
                refine ⟨by walk_at "x", ?_⟩
                rw [ask_no (by rw [← len2_eq]; simpa using h23)]
                rfl
              · obtain ⟨y1, v1, e53⟩ := len2_of (d := .tup ss) (by rw [← len2_eq]; simpa using h24)
                cases e53
                refine gw_or ?_
                refine gt_not ?_
                refine gt_truth (by intro _; rfl) ?_
                refine ge_call (Ex := bodyX Ed) c_is_text (hr.mono (by decide)) tk rfl ?_
                refine ga_cons ?_
                refine ge_ix (fun _ _ => rfl) ?_
                refine ge_var 4 rfl (.inl rfl) rfl ?_
                refine ge_int ?_
                walk_at "i"
                refine ga_cons ?_
                refine ge_int ?_
                refine ga_nil ?_
                refine ⟨y1, 8, rfl, kn_kind (kn_tup hkz _ (by simp)), ?_⟩
                walk_at "t"
                refine ⟨fun h25 => ?_, fun h26 => ?_⟩
                · skip
                  refine ⟨by walk_at "x", ?_⟩
                  have e : isTextD y1 8 = false := by simpa using h25
                  show true = !(isTextD y1 8 && isTextD v1 8)
                  rw [e]
                  rfl
                · skip
                  refine gw_or1 ?_
                  refine gt_not ?_
                  refine gt_truth (by intro _; rfl) ?_
                  refine ge_call (Ex := bodyX Ed) c_is_text (hr.mono (by decide)) tk rfl ?_
                  refine ga_cons ?_
                  refine ge_ix (fun _ _ => rfl) ?_
                  refine ge_var 4 rfl (.inl rfl) rfl ?_
                  refine ge_int ?_
                  walk_at "i"
                  refine ga_cons ?_
                  refine ge_int ?_
                  refine ga_nil ?_
                  refine ⟨v1, 8, rfl, kn_kind (kn_tup hkz _ (by simp)), ?_⟩
                  walk_at "t"
                  refine ⟨by walk_at "x", ?_⟩
                  have e : isTextD y1 8 = true := by simpa using h26
                  show (!isTextD v1 8) = !(isTextD y1 8 && isTextD v1 8)
                  rw [e]
                  rfl
          · skip
            show GSs _ _ _ [_, _, _, _, _] _ _
            refine gss_one (gs_ret ?_)
            refine ge_bl ?_
            refine rtq (by walk_at "x") q ?_
            refine congrArg D.bl ?_
            show (decide (ps.length ≤ 5) && decide (as.length ≤ 4) && ps.all isPartD && as.all isAskD) = false
            rw [all_no hz1 (show isAskD z = false by simpa using h19), Bool.and_false]
          · skip
            refine gss_nil ?_
            exact ⟨by walk_at "x", all_take hz1 ht (show isAskD z = true by simpa using h20), _, _, rfl⟩
        · rintro ρ1 ω1 ⟨x1, ht, a, b, rfl⟩
          have hpf : (decide (ps.length ≤ 5) && decide (as.length ≤ 4) && ps.all isPartD) = true := nb0 h10
          show GSs _ _ _ [_, _, _, _, _] _ _
          refine gss_one (gs_ret ?_)
          refine ge_bl ?_
          refine rtq (by walk_at "x") q ?_
          refine congrArg D.bl ?_
          show (decide (ps.length ≤ 5) && decide (as.length ≤ 4) && ps.all isPartD && as.all isAskD) = true
          rw [List.take_length] at ht
          rw [ht, hpf]
          rfl
theorem sc_is_head_name : FnScope ["thing", "sign"] ["thing"] (defScope s_is_head_name) := ⟨rfl, rfl, rfl, by decide +kernel, rfl, by decide +kernel, by decide +kernel⟩
theorem ok_is_head_name (B : Bl mg) (g_OWN : Glob K mg "OWN" dOWN) (g_SMALL : Glob K mg "SMALL" (.str lSMALL)) (A : DefAt K mg "is_head_name" s_is_head_name ["thing"]) : Cal P w K mg base 1 "is_head_name" sp_is_head_name := by
  refine cal_of A sc_is_head_name (fun ds ω Q E h => by obtain ⟨d, rfl, hk, q⟩ := h; rfl) ?_
  intro X f cdv Ar outer sh H E ds ω Qd Ed hX hr tk h'
  subst hX
  obtain ⟨d, rfl, hk, q⟩ := h'
  show GSs _ H _ [some (d), none] ω _
  show GSs _ _ _ [_, _] _ _
  refine gss_cons (gs_if (gt_ev (!hnAD d) ?_ ⟨fun h1 => ?_, fun h2 => ?_⟩))
  · refine gt_bool ?_
    refine gw_or ?_
    refine gt_not ?_
    refine gt_truth (by intro _; rfl) ?_
    refine ge_isi B.«isinstance» rfl bb_isinstance B.«str» rfl bb_str (by decide) ?_
    refine ge_var 0 rfl (.inl rfl) rfl ?_
    refine ⟨_, it_str hk, ?_⟩
    walk_at "t"
    refine ⟨fun h3 => ?_, fun h4 => ?_⟩
    · skip
      refine ⟨by walk_at "x", ?_⟩
      cases d with
      | str s => simp [strB] at h3
      | _ => rfl
    · obtain ⟨s, rfl⟩ := strB_iff (d := d) (by simpa using h4)
      refine gw_or ?_
      refine gt_not ?_
      refine gt_chain (by with_unfolding_all rfl) ?_
      refine ge_int ?_
      refine ge_callB B.«len» rfl bb_len ?_
      refine ga_cons ?_
      refine ge_var 0 rfl (.inl rfl) rfl ?_
      refine ga_nil ?_
      walk_at "c"
      refine gb_le ?_
      refine ⟨_, rfl, fun h5 => ?_, fun h6 => ?_⟩
      · refine ge_int ?_
        refine gb_le ?_
        refine ⟨_, rfl, ?_⟩
        refine ⟨fun h7 => ?_, fun h8 => ?_⟩
        · refine ⟨by walk_at "x", ?_⟩
          show true = !(decide (1 ≤ s.length) && decide (s.length ≤ 10) && !decide (s ∈ ownL))
          simp at h7
          have h9 : ¬ s.length ≤ 10 := by omega
          simp [h9]
        · refine gw_or1 ?_
          refine gt_cmp rfl ?_
          refine ge_var 0 rfl (.inl rfl) rfl ?_
          refine ge_glob g_OWN rfl ?_
          refine gb_inT (ys := ownL) ?_
          refine ⟨_, rfl, ?_⟩
          refine ⟨by walk_at "x", ?_⟩
          show decide (s ∈ ownL) = !(decide (1 ≤ s.length) && decide (s.length ≤ 10) && !decide (s ∈ ownL))
          simp at h5 h8
          have e1 : 1 ≤ s.length := by omega
          have e2 : s.length ≤ 10 := by omega
          simp [e1, e2]
      · refine ⟨fun _ => ?_, fun hz => by cases hz⟩
        refine ⟨by walk_at "x", ?_⟩
        show true = !(decide (1 ≤ s.length) && decide (s.length ≤ 10) && !decide (s ∈ ownL))
        simp at h6
        have e0 : s = [] := List.length_eq_zero_iff.mp (by omega)
        subst e0
        rfl
  · skip
    show GSs _ _ _ [_, _] _ _
    refine gss_one (gs_ret ?_)
    refine ge_bl ?_
    refine rtq (by walk_at "x") q ?_
    cases d with
    | str s =>
      have h : (!hnA s) = true := h1
      refine congrArg D.bl ?_
      show (hnA s && _) = false
      simp at h
      rw [h]
      rfl
    | _ => rfl
  · obtain ⟨l, rfl, hA⟩ := hnAD_str (d := d) (by simpa using h2)
    refine gss_nil ?_
    show GSs _ _ _ [_, _] _ _
    refine gss_one (gs_ret ?_)
    refine ge_not ?_
    refine ge_lc (own := [("sign", 1)]) (js := [1]) (split := sp1) rfl sc_is_head_name.nd tg_name (by decide) (blkOk_by (own := [("sign", 1)]) (N := ["thing", "sign"]) (sc := defScope s_is_head_name) (by decide +kernel)) (fun _ _ _ _ _ => pg_name (i := 1) sc_is_head_name.nd rfl (Or.inl rfl)) ?_
    refine gj_str ?_
    refine ge_var 0 rfl (.inl rfl) rfl ?_
    walk_at "j"
    try intro hz
    refine lc_pure (fun d => !hnC (chOf d)) (fun d => d) (by first | (rw [List.length_map]; exact hz) | walk_at "z") (fun _ x => by first | trivial | exact x _ _ (by walk_at "o")) ?_ ?_
    · rintro d ω1 hd x1
      first | (obtain ⟨c, hcm, rfl⟩ := List.mem_map.mp hd) | skip
      refine ⟨_, rfl, fun s H C cl fp => ?_, fun hc s H C cl fp => ?_⟩
      · refine gt_bool ?_
        refine gw_and ?_
        refine gt_cmp rfl ?_
        refine ge_var 1 rfl (.inl rfl) rfl ?_
        refine ge_glob g_SMALL rfl ?_
        refine gb_notInC ?_
        refine ⟨_, rfl, ?_⟩
        refine ⟨fun h9 => ?_, fun h10 => ?_⟩
        · refine gw_and1 ?_
          refine gt_cmp (nomark _) ?_
          refine ge_var 1 rfl (.inl rfl) rfl ?_
          refine ge_str [45] (by decide +kernel) ?_
          walk_at "bn"
          refine ⟨_, rfl, ?_⟩
          refine ⟨by walk_at "x", ?_⟩
          rw [mem_SMALL] at h9
          show (!decide ([c] = [45])) = !hnC c
          unfold hnC
          simp at h9
          simp [h9]
        · refine ⟨by walk_at "x", ?_⟩
          rw [mem_SMALL] at h10
          show false = !hnC c
          unfold hnC
          simp at h10
          simp [h10]
      · refine ge_var 1 rfl (.inl rfl) rfl ?_
        refine ⟨by walk_at "x", ?_⟩
        walk_at "eq"
    · intro p11 np12
      walk_at "t"
      refine rtq (by walk_at "x") q ?_
      refine congrArg D.bl ?_
      rw [not_filter (p := fun c => !hnC c) fun c => rfl] <;> try rfl
      show (hnA l && l.all hnC) = _
      rw [hA]
      simp
theorem sc_is_row : FnScope ["thing", "most"] ["thing", "most"] (defScope s_is_row) := ⟨rfl, rfl, rfl, by decide +kernel, rfl, by decide +kernel, by decide +kernel⟩
theorem ok_is_row (c_is_text : Cal P w K mg base 1 "is_text" sp_is_text) (A : DefAt K mg "is_row" s_is_row ["thing", "most"]) : Cal P w K mg base 2 "is_row" sp_is_row := by
  refine cal_of A sc_is_row (fun ds ω Q E h => by obtain ⟨d, m, rfl, hk, q⟩ := h; rfl) ?_
  intro X f cdv Ar outer sh H E ds ω Qd Ed hX hr tk h'
  subst hX
  obtain ⟨d, m, rfl, hk, q⟩ := h'
  show GSs _ H _ [some (d), some (.int m)] ω _
  show GSs _ _ _ [_, _] _ _
  refine gss_one (gs_ret ?_)
  refine ge_ev (.bl (isRowD d m)) ?_ ?_
  · refine ge_and ?_
    refine ge_call (Ex := bodyX Ed) c_is_text (hr.mono (by decide)) tk rfl ?_
    refine ga_cons ?_
    refine ge_var 0 rfl (.inl rfl) rfl ?_
    refine ga_cons ?_
    refine ge_var 1 rfl (.inl rfl) rfl ?_
    refine ga_nil ?_
    refine ⟨d, m, rfl, kn_kind hk, ?_⟩
    walk_at "t"
    refine ⟨fun h1 => ?_, fun h2 => ?_⟩
    · obtain ⟨s, rfl, hl, ho⟩ := isText_str h1
      refine ge_one ?_
      refine ge_cmp rfl ?_
      refine ge_str [10] (by decide +kernel) ?_
      refine ge_var 0 rfl (.inl rfl) rfl ?_
      refine gb_notInC ?_
      refine ⟨by walk_at "x", ?_⟩
      refine congrArg D.bl ?_
      show (!decide (10 ∈ s)) = (decide ((s.length : Int) ≤ m) && okT s && !decide (10 ∈ s))
      rw [ho, decide_eq_true hl]
      rfl
    · skip
      refine ⟨by walk_at "x", ?_⟩
      refine congrArg D.bl ?_
      cases d with
      | str s =>
        have h : (decide ((s.length : Int) ≤ m) && okT s) = false := h2
        show (decide ((s.length : Int) ≤ m) && okT s) = (decide ((s.length : Int) ≤ m) && okT s && !decide (10 ∈ s))
        rw [h]
        rfl
      | _ => rfl
  · exact rtq (by walk_at "x") q rfl
theorem sc_is_head_value : FnScope ["name", "thing"] ["name", "thing"] (defScope s_is_head_value) := ⟨rfl, rfl, rfl, by decide +kernel, rfl, by decide +kernel, by decide +kernel⟩
theorem ok_is_head_value (c_is_row : Cal P w K mg base 2 "is_row" sp_is_row) (A : DefAt K mg "is_head_value" s_is_head_value ["name", "thing"]) : Cal P w K mg base 3 "is_head_value" sp_is_head_value := by
  refine cal_of A sc_is_head_value (fun ds ω Q E h => by obtain ⟨n, d, rfl, hk, q⟩ := h; rfl) ?_
  intro X f cdv Ar outer sh H E ds ω Qd Ed hX hr tk h'
  subst hX
  obtain ⟨n, d, rfl, hk, q⟩ := h'
  show GSs _ H _ [some (.str n), some (d)] ω _
  show GSs _ _ _ [_, _] _ _
  refine gss_one (gs_ret ?_)
  refine ge_ev (.bl (isHValD n d)) ?_ ?_
  · refine ge_and ?_
    refine ge_call (Ex := bodyX Ed) c_is_row (hr.mono (by decide)) tk rfl ?_
    refine ga_cons ?_
    refine ge_var 1 rfl (.inl rfl) rfl ?_
    refine ga_cons ?_
    refine ge_ev (.int (hvM n)) ?_ ?_
    · refine ge_if ?_
      refine gt_cmp (nomark _) ?_
      refine ge_var 0 rfl (.inl rfl) rfl ?_
      refine ge_str [116, 111] (by decide +kernel) ?_
      walk_at "be"
      refine ⟨_, rfl, ?_⟩
      refine ⟨fun h3 => ?_, fun h4 => ?_⟩
      · refine ge_int ?_
        refine ⟨by walk_at "x", ?_⟩
        have e : n = [116, 111] := by simpa using h3
        subst e
        rfl
      · refine ge_int ?_
        refine ⟨by walk_at "x", ?_⟩
        have e : ¬ n = toS := by
          have : n ≠ [116, 111] := by simpa using h4
          exact this
        show D.int 30 = .int (if n = toS then 330 else 30)
        rw [if_neg e]
    · refine ga_nil ?_
      refine ⟨d, _, rfl, hk, ?_⟩
      walk_at "t"
      refine ⟨fun h1 => ?_, fun h2 => ?_⟩
      · obtain ⟨s, rfl, hs⟩ := isRow_str h1
        refine ge_one ?_
        refine ge_cmp (nomark _) ?_
        refine ge_bm PySem.F.plainAttrs_str PySem.F.slot_str_strip PySem.F.type_str_strip ?_
        refine ge_var 1 rfl (.inl rfl) rfl ?_
        walk_at "y"
        refine ga_cons ?_
        refine ge_str [32] (by decide +kernel) ?_
        refine ga_nil ?_
        walk_at "m"
        refine ge_var 1 rfl (.inl rfl) rfl ?_
        walk_at "be"
        refine ⟨by walk_at "x", ?_⟩
        refine congrArg D.bl ?_
        show decide (stripL [32] s = s) = (rowL s (hvM n) && decide (stripL [32] s = s))
        rw [hs]
        rfl
      · skip
        refine ⟨by walk_at "x", ?_⟩
        refine congrArg D.bl ?_
        cases d with
        | str s =>
          have h : rowL s (hvM n) = false := h2
          show rowL s (hvM n) = (rowL s (hvM n) && decide (stripL [32] s = s))
          rw [h]
          rfl
        | _ => rfl
  · exact rtq (by walk_at "x") q rfl
theorem sc_are_heads : FnScope ["thing", "head"] ["thing"] (defScope s_are_heads) := ⟨rfl, rfl, rfl, by decide +kernel, rfl, by decide +kernel, by decide +kernel⟩
theorem ok_are_heads (B : Bl mg) (g_MOST : Glob K mg "MOST" (.int 8)) (c_is_head_name : Cal P w K mg base 1 "is_head_name" sp_is_head_name) (c_is_head_value : Cal P w K mg base 3 "is_head_value" sp_is_head_value) (A : DefAt K mg "are_heads" s_are_heads ["thing"]) : Cal P w K mg base 4 "are_heads" sp_are_heads := by
  refine cal_of A sc_are_heads (fun ds ω Q E h => by obtain ⟨d, rfl, hk, q⟩ := h; rfl) ?_
  intro X f cdv Ar outer sh H E ds ω Qd Ed hX hr tk h'
  subst hX
  obtain ⟨d, rfl, hk, q⟩ := h'
  show GSs _ H _ [some (d), none] ω _
  show GSs _ _ _ [_, _] _ _
  refine gss_cons (gs_if (gt_ev (!(match d with | .tup hs => decide (hs.length ≤ 8) | _ => false)) ?_ ⟨fun h1 => ?_, fun h2 => ?_⟩))
  · refine gt_bool ?_
    refine gw_or ?_
    refine gt_not ?_
    refine gt_truth (by intro _; rfl) ?_
    refine ge_isi B.«isinstance» rfl bb_isinstance B.«tuple» rfl bb_tuple (by decide) ?_
    refine ge_var 0 rfl (.inl rfl) rfl ?_
    refine ⟨_, it_tup hk, ?_⟩
    walk_at "t"
    refine ⟨fun h3 => ?_, fun h4 => ?_⟩
    · skip
      refine ⟨by walk_at "x", ?_⟩
      cases d with
      | tup s => simp [tupB] at h3
      | _ => rfl
    · obtain ⟨hs, rfl⟩ := tupB_iff (d := d) (by simpa using h4)
      refine gw_or1 ?_
      refine gt_cmp (nomark _) ?_
      refine ge_callB B.«len» rfl bb_len ?_
      refine ga_cons ?_
      refine ge_var 0 rfl (.inl rfl) rfl ?_
      refine ga_nil ?_
      walk_at "c"
      refine ge_glob g_MOST rfl ?_
      refine gb_gt ?_
      refine ⟨_, rfl, ?_⟩
      refine ⟨by walk_at "x", ?_⟩
      show decide ((8 : Int) < hs.length) = !decide (hs.length ≤ 8)
      rw [Bool.eq_iff_iff]
      simp
      omega
  · skip
    show GSs _ _ _ [_, _] _ _
    refine gss_one (gs_ret ?_)
    refine ge_bl ?_
    refine rtq (by walk_at "x") q ?_
    cases d with
    | tup hs =>
      have h : (!decide (hs.length ≤ 8)) = true := h1
      refine congrArg D.bl ?_
      show (decide (hs.length ≤ 8) && _) = false
      simp at h
      simp
      intro z
      omega
    | _ => rfl
  · obtain ⟨hs, rfl, hl⟩ : ∃ hs, d = .tup hs ∧ hs.length ≤ 8 := by
      cases d with
      | tup hs => exact ⟨hs, rfl, by simpa using h2⟩
      | _ => cases h2
    refine gss_nil ?_
    show GSs _ _ _ [_, _] _ _
    refine gss_cons (gs_for (fun _ i ρ1 ω1 => Ext ω ω1 ∧ (hs.take i).all isHeadD = true ∧ ∃ a, ρ1 = [some (.tup hs), a]) (passes_of rfl) rfl ?_)
    refine gj_tup ?_
    refine ge_var 0 rfl (.inl rfl) rfl ?_
    walk_at "j"
    try intro hz
    refine ⟨⟨Ext.refl _, rfl, none, rfl⟩, fun _ _ _ _ _ => trivial, ?_, ?_⟩
    · rintro i x ρ1 ω1 hx ⟨x1, ht, a, rfl⟩
      have hkx : kn ω1 x = true := kn_ext x1 _ (kn_tup hk x (List.mem_of_getElem? hx))
      refine gg_name 1 sc_are_heads.nd rfl (.inl rfl) ?_
      show GSs _ _ _ [_, _] _ _
      refine gss_cons (gs_if (gt_ev (!hd1D x) ?_ ⟨fun h5 => ?_, fun h6 => ?_⟩))
      · refine gt_bool ?_
        refine gw_or ?_
        refine gt_not ?_
        refine gt_truth (by intro _; rfl) ?_
        refine ge_isi B.«isinstance» rfl bb_isinstance B.«tuple» rfl bb_tuple (by decide) ?_
        refine ge_var 1 rfl (.inl rfl) rfl ?_
        refine ⟨_, it_tup hkx, ?_⟩
        walk_at "t"
        refine ⟨fun h7 => ?_, fun h8 => ?_⟩
        · skip
          refine ⟨by walk_at "x", ?_⟩
          cases x with
          | tup s => simp [tupB] at h7
          | _ => rfl
        · obtain ⟨s, rfl⟩ := tupB_iff (d := x) (by simpa using h8)
          refine gw_or ?_
          refine gt_cmp (nomark _) ?_
          refine ge_callB B.«len» rfl bb_len ?_
          refine ga_cons ?_
          refine ge_var 1 rfl (.inl rfl) rfl ?_
          refine ga_nil ?_
          walk_at "c"
          refine ge_int ?_
          walk_at "bn"
          refine ⟨_, rfl, ?_⟩
          refine ⟨fun h9 => ?_, fun h10 => ?_⟩
          · skip
            refine ⟨by walk_at "x", ?_⟩
            rw [hd1D_len (by simp at h9; omega)]
            rfl
          · obtain ⟨y, v, rfl⟩ := two_of (ds := s) (by simp at h10; omega)
            refine gw_or1 ?_
            refine gt_not ?_
            refine gt_truth (by intro _; rfl) ?_
            refine ge_call (Ex := bodyX Ed) c_is_head_name (hr.mono (by decide)) tk rfl ?_
            refine ga_cons ?_
            refine ge_ix (fun _ _ => rfl) ?_
            refine ge_var 1 rfl (.inl rfl) rfl ?_
            refine ge_int ?_
            walk_at "i"
            refine ga_nil ?_
            refine ⟨_, rfl, ?_, ?_⟩
            · exact kn_tup hkx _ (by simp)
            walk_at "t"
            refine ⟨by walk_at "x", ?_⟩
            walk_at "eq"
      · skip
        show GSs _ _ _ [_, _] _ _
        refine gss_one (gs_ret ?_)
        refine ge_bl ?_
        refine rtq (by walk_at "x") q ?_
        refine congrArg D.bl ?_
        show (decide (hs.length ≤ 8) && hs.all isHeadD) = false
        rw [all_no hx (hd1D_no (by simpa using h5)), Bool.and_false]
      · obtain ⟨n, v, rfl, hn⟩ := hd1D_of (d := x) (by simpa using h6)
        refine gss_nil ?_
        show GSs _ _ _ [_, _] _ _
        refine gss_one (gs_if ?_)
        refine gt_not ?_
        refine gt_truth (by intro _; rfl) ?_
        refine ge_call (Ex := bodyX Ed) c_is_head_value (hr.mono (by decide)) tk rfl ?_
        refine ga_cons ?_
        refine ge_ix (fun _ _ => rfl) ?_
        refine ge_var 1 rfl (.inl rfl) rfl ?_
        refine ge_int ?_
        walk_at "i"
        refine ga_cons ?_
        refine ge_ix (fun _ _ => rfl) ?_
        refine ge_var 1 rfl (.inl rfl) rfl ?_
        refine ge_int ?_
        walk_at "i"
        refine ga_nil ?_
        refine ⟨n, v, rfl, ?_, ?_⟩
        · exact kn_tup hkx _ (by simp)
        walk_at "t"
        refine ⟨fun h11 => ?_, fun h12 => ?_⟩
        · show GSs _ _ _ [_, _] _ _
          refine gss_one (gs_ret ?_)
          refine ge_bl ?_
          refine rtq (by walk_at "x") q ?_
          refine congrArg D.bl ?_
          show (decide (hs.length ≤ 8) && hs.all isHeadD) = false
          rw [all_no hx (show (hnL n && isHValD n v) = false by rw [hn]; simpa using h11), Bool.and_false]
        · refine gss_nil ?_
          exact ⟨by walk_at "x", all_take hx ht (show (hnL n && isHValD n v) = true by rw [hn]; simpa using h12), _, rfl⟩
    · rintro ρ1 ω1 ⟨x1, ht, a, rfl⟩
      show GSs _ _ _ [_, _] _ _
      refine gss_one (gs_ret ?_)
      refine ge_bl ?_
      refine rtq (by walk_at "x") q ?_
      refine congrArg D.bl ?_
      show (decide (hs.length ≤ 8) && hs.all isHeadD) = true
      rw [List.take_length] at ht
      rw [ht, decide_eq_true hl]
      rfl
theorem sc_is_asking : FnScope ["thing"] ["thing"] (defScope s_is_asking) := ⟨rfl, rfl, rfl, by decide +kernel, rfl, by decide +kernel, by decide +kernel⟩
theorem ok_is_asking (B : Bl mg) (g_WORDS : Glob K mg "WORDS" dWORDS) (c_is_path : Cal P w K mg base 2 "is_path" sp_is_path) (c_are_heads : Cal P w K mg base 4 "are_heads" sp_are_heads) (c_is_text : Cal P w K mg base 1 "is_text" sp_is_text) (g_MOST_BODY : Glob K mg "MOST_BODY" (.int 120)) (A : DefAt K mg "is_asking" s_is_asking ["thing"]) : Cal P w K mg base 5 "is_asking" sp_is_asking := by
  refine cal_of A sc_is_asking (fun ds ω Q E h => by obtain ⟨d, rfl, hk, q⟩ := h; rfl) ?_
  intro X f cdv Ar outer sh H E ds ω Qd Ed hX hr tk h'
  subst hX
  obtain ⟨d, rfl, hk, q⟩ := h'
  show GSs _ H _ [some (d)] ω _
  show GSs _ _ _ [_] _ _
  refine gss_cons (gs_if (gt_ev (!ask1D d) ?_ ⟨fun h1 => ?_, fun h2 => ?_⟩))
  · refine gt_bool ?_
    refine gw_or ?_
    refine gt_not ?_
    refine gt_truth (by intro _; rfl) ?_
    refine ge_isi B.«isinstance» rfl bb_isinstance B.«tuple» rfl bb_tuple (by decide) ?_
    refine ge_var 0 rfl (.inl rfl) rfl ?_
    refine ⟨_, it_tup hk, ?_⟩
    walk_at "t"
    refine ⟨fun h3 => ?_, fun h4 => ?_⟩
    · skip
      refine ⟨by walk_at "x", ?_⟩
      rw [ask1_tup (nb1 h3)]
      rfl
    · obtain ⟨ss, rfl⟩ := tupB_iff (d := d) (nb0 h4)
      refine gw_or ?_
      refine gt_cmp (nomark _) ?_
      refine ge_callB B.«len» rfl bb_len ?_
      refine ga_cons ?_
      refine ge_var 0 rfl (.inl rfl) rfl ?_
      refine ga_nil ?_
      walk_at "c"
      refine ge_int ?_
      walk_at "bn"
      refine ⟨_, rfl, ?_⟩
      refine ⟨fun h5 => ?_, fun h6 => ?_⟩
      · skip
        refine ⟨by walk_at "x", ?_⟩
        rw [ask1_len (by simp at h5; omega)]
        rfl
      · obtain ⟨w0, pp, hh, bb, rfl⟩ := four_of (ds := ss) (by simp at h6; omega)
        have hkw : kn ω w0 = true := kn_tup hk w0 (by simp)
        refine gw_or ?_
        refine gt_not ?_
        refine gt_truth (by intro _; rfl) ?_
        refine ge_isi B.«isinstance» rfl bb_isinstance B.«str» rfl bb_str (by decide) ?_
        refine ge_ix (fun _ _ => rfl) ?_
        refine ge_var 0 rfl (.inl rfl) rfl ?_
        refine ge_int ?_
        walk_at "i"
        refine ⟨_, it_str hkw, ?_⟩
        walk_at "t"
        refine ⟨fun h7 => ?_, fun h8 => ?_⟩
        · skip
          refine ⟨by walk_at "x", ?_⟩
          have e : strB w0 = false := nb1 h7
          show true = !ask1D (.tup [w0, pp, hh, bb])
          cases w0 with
          | str _ => cases e
          | _ => rfl
        · obtain ⟨w1, rfl⟩ := strB_iff (d := w0) (nb0 h8)
          refine gw_or1 ?_
          refine gt_cmp rfl ?_
          refine ge_ix (fun _ _ => rfl) ?_
          refine ge_var 0 rfl (.inl rfl) rfl ?_
          refine ge_int ?_
          walk_at "i"
          refine ge_glob g_WORDS rfl ?_
          refine gb_notInT (ys := wordsL) ?_
          refine ⟨_, rfl, ?_⟩
          refine ⟨by walk_at "x", ?_⟩
          rfl
  · skip
    show GSs _ _ _ [_] _ _
    refine gss_one (gs_ret ?_)
    refine ge_bl ?_
    refine rtq (by walk_at "x") q ?_
    rw [ask1_no (nb1 h1)]
  · obtain ⟨w1, pp, hh, bb, rfl, hw⟩ := ask1_of (d := d) (nb0 h2)
    have hkp : kn ω pp = true := kn_tup hk pp (by simp)
    have hkh : kn ω hh = true := kn_tup hk hh (by simp)
    have hkb : kn ω bb = true := kn_tup hk bb (by simp)
    refine gss_nil ?_
    show GSs _ _ _ [_] _ _
    refine gss_one (gs_ret ?_)
    refine ge_ev (.bl (isPathD pp && (isHeadsD hh && isTextD bb 120))) ?_ ?_
    · refine ge_and ?_
      refine ge_call (Ex := bodyX Ed) c_is_path (hr.mono (by decide)) tk rfl ?_
      refine ga_cons ?_
      refine ge_ix (fun _ _ => rfl) ?_
      refine ge_var 0 rfl (.inl rfl) rfl ?_
      refine ge_int ?_
      walk_at "i"
      refine ga_nil ?_
      refine ⟨pp, rfl, hkp, ?_⟩
      walk_at "t"
      refine ⟨fun h9 => ?_, fun h10 => ?_⟩
      · skip
        refine ge_and ?_
        refine ge_call (Ex := bodyX Ed) c_are_heads (hr.mono (by decide)) tk rfl ?_
        refine ga_cons ?_
        refine ge_ix (fun _ _ => rfl) ?_
        refine ge_var 0 rfl (.inl rfl) rfl ?_
        refine ge_int ?_
        walk_at "i"
        refine ga_nil ?_
        refine ⟨hh, rfl, hkh, ?_⟩
        walk_at "t"
        refine ⟨fun h11 => ?_, fun h12 => ?_⟩
        · skip
          refine ge_one ?_
          refine ge_call (Ex := bodyX Ed) c_is_text (hr.mono (by decide)) tk rfl ?_
          refine ga_cons ?_
          refine ge_ix (fun _ _ => rfl) ?_
          refine ge_var 0 rfl (.inl rfl) rfl ?_
          refine ge_int ?_
          walk_at "i"
          refine ga_cons ?_
          refine ge_glob g_MOST_BODY rfl ?_
          refine ga_nil ?_
          refine ⟨bb, _, rfl, kn_kind hkb, ?_⟩
          refine ⟨by walk_at "x", ?_⟩
          rw [h9, h11]
          rfl
        · skip
          refine ⟨by walk_at "x", ?_⟩
          rw [h9, h12]
          rfl
      · skip
        refine ⟨by walk_at "x", ?_⟩
        rw [h10]
        rfl
    · refine rtq (by walk_at "x") q ?_
      refine congrArg D.bl ?_
      show (decide (w1 ∈ wordsL) && (isPathD pp && (isHeadsD hh && isTextD bb 120))) = _
      rw [hw]
      rfl
theorem sc_checked_asking : FnScope ["asking"] ["asking"] (defScope s_checked_asking) := ⟨rfl, rfl, rfl, by decide +kernel, rfl, by decide +kernel, by decide +kernel⟩
theorem ok_checked_asking {aBadAsking : Addr} (c_is_asking : Cal P w K mg base 5 "is_asking" sp_is_asking) (x_BadAsking : ExcC K mg "BadAsking" aBadAsking) (A : DefAt K mg "checked_asking" s_checked_asking ["asking"]) : Cal P w K mg base 6 "checked_asking" (sp_checked_asking aBadAsking) := by
  refine cal_of A sc_checked_asking (fun ds ω Q E h => by obtain ⟨d, rfl, hk, q, qe⟩ := h; rfl) ?_
  intro X f cdv Ar outer sh H E ds ω Qd Ed hX hr tk h'
  subst hX
  obtain ⟨d, rfl, hk, q, qe⟩ := h'
  show GSs _ H _ [some (d)] ω _
  show GSs _ _ _ [_] _ _
  refine gss_cons (gs_if ?_)
  refine gt_not ?_
  refine gt_truth (by intro _; rfl) ?_
  refine ge_call (Ex := bodyX Ed) c_is_asking (hr.mono (by decide)) tk rfl ?_
  refine ga_cons ?_
  refine ge_var 0 rfl (.inl rfl) rfl ?_
  refine ga_nil ?_
  refine ⟨d, rfl, hk, ?_⟩
  walk_at "t"
  refine ⟨fun h1 => ?_, fun h2 => ?_⟩
  · show GSs _ _ _ [_] _ _
    refine gss_one (gs_raise rfl tk (pmk_exc x_BadAsking rfl) ?_)
    exact bx1 (by walk_at "x") (qe (nb1 h1))
  · refine gss_nil ?_
    show GSs _ _ _ [_] _ _
    refine gss_one (gs_ret ?_)
    refine ge_var 0 rfl (.inl rfl) rfl ?_
    exact rtq (by walk_at "x") (q (nb0 h2)) rfl
theorem sc_sign_text : FnScope ["sign"] ["sign"] (defScope s_sign_text) := ⟨rfl, rfl, rfl, by decide +kernel, rfl, by decide +kernel, by decide +kernel⟩
theorem ok_sign_text (g_PLAIN : Glob K mg "PLAIN" (.str lPLAIN)) (g_LINE : Glob K mg "LINE" (.str [57, 57])) (B : Bl mg) (g_SIGNS : Glob K mg "SIGNS" (.str lSIGNS)) (A : DefAt K mg "sign_text" s_sign_text ["sign"]) : Cal P w K mg base 1 "sign_text" sp_sign_text := by
  refine cal_of A sc_sign_text (fun ds ω Q E h => by obtain ⟨c, rfl, hc, q⟩ := h; rfl) ?_
  intro X f cdv Ar outer sh H E ds ω Qd Ed hX hr tk h'
  subst hX
  obtain ⟨c, rfl, hc, q⟩ := h'
  show GSs _ H _ [some (.str [c])] ω _
  show GSs _ _ _ [_] _ _
  refine gss_cons (gs_if (gt_ev (isPl c) ?_ ⟨fun h1 => ?_, fun h2 => ?_⟩))
  · refine gt_bool ?_
    refine gw_and ?_
    refine gt_cmp rfl ?_
    refine ge_var 0 rfl (.inl rfl) rfl ?_
    refine ge_glob g_PLAIN rfl ?_
    refine gb_inC ?_
    refine ⟨_, rfl, ?_⟩
    refine ⟨fun h3 => ?_, fun h4 => ?_⟩
    · refine gw_and1 ?_
      refine gt_cmp (nomark _) ?_
      refine ge_var 0 rfl (.inl rfl) rfl ?_
      refine ge_str [] (by decide +kernel) ?_
      walk_at "bn"
      refine ⟨_, rfl, ?_⟩
      refine ⟨by walk_at "x", ?_⟩
      rw [mem_PLAIN] at h3
      simp [h3]
    · refine ⟨by walk_at "x", ?_⟩
      rw [mem_PLAIN] at h4
      exact h4.symm
  · show GSs _ _ _ [_] _ _
    refine gss_one (gs_ret ?_)
    refine ge_var 0 rfl (.inl rfl) rfl ?_
    exact rtq (by walk_at "x") q (by rw [qs_pl h1])
  · refine gss_nil ?_
    show GSs _ _ _ [_] _ _
    refine gss_cons (gs_if ?_)
    refine gt_cmp (nomark _) ?_
    refine ge_var 0 rfl (.inl rfl) rfl ?_
    refine ge_str [10] (by decide +kernel) ?_
    walk_at "be"
    refine ⟨_, rfl, ?_⟩
    refine ⟨fun h5 => ?_, fun h6 => ?_⟩
    · show GSs _ _ _ [_] _ _
      refine gss_one (gs_ret ?_)
      refine ge_bin ?_
      refine ge_str [126] (by decide +kernel) ?_
      refine ge_glob g_LINE rfl ?_
      walk_at "bp"
      have e : c = 10 := by simpa using h5
      subst e
      exact rtq (by walk_at "x") q rfl
    · refine gss_nil ?_
      show GSs _ _ _ [_] _ _
      refine gss_one (gs_ret ?_)
      refine ge_bin ?_
      refine ge_str [126] (by decide +kernel) ?_
      refine ge_bm PySem.F.plainAttrs_str PySem.F.slot_str_zfill PySem.F.type_str_zfill ?_
      refine ge_callTy B.«str» rfl bb_str ?_
      refine ga_cons ?_
      refine ge_bm PySem.F.plainAttrs_str PySem.F.slot_str_index PySem.F.type_str_index ?_
      refine ge_glob g_SIGNS rfl ?_
      walk_at "y"
      refine ga_cons ?_
      refine ge_var 0 rfl (.inl rfl) rfl ?_
      refine ga_nil ?_
      have e : c ≠ 10 := by simpa using h6
      have hs := isT_sg hc e
      refine gm_index rfl (idx_find c (sg_mem hs)) ?_
      refine ga_nil ?_
      refine gc_str rfl (numL_len2 (idx_lt hs)) ?_
      walk_at "y"
      refine ga_cons ?_
      refine ge_int ?_
      refine ga_nil ?_
      refine gm_zfill (by decide) (zfill2 _ (idx_lt hs)) (show 2 ≤ sizeLine by decide) ?_
      walk_at "bp"
      exact rtq (by walk_at "x") q (by rw [qs_np h2 e]; rfl)
theorem sc_quote : FnScope ["text", "sign"] ["text"] (defScope s_quote) := ⟨rfl, rfl, rfl, by decide +kernel, rfl, by decide +kernel, by decide +kernel⟩
theorem ok_quote (c_sign_text : Cal P w K mg base 1 "sign_text" sp_sign_text) (A : DefAt K mg "quote" s_quote ["text"]) : Cal P w K mg base 2 "quote" sp_quote := by
  refine cal_of A sc_quote (fun ds ω Q E h => by obtain ⟨l, rfl, ho, hl, q⟩ := h; rfl) ?_
  intro X f cdv Ar outer sh H E ds ω Qd Ed hX hr tk h'
  subst hX
  obtain ⟨l, rfl, ho, hl, q⟩ := h'
  show GSs _ H _ [some (.str l), none] ω _
  show GSs _ _ _ [_, _] _ _
  refine gss_one (gs_ret ?_)
  refine ge_bm PySem.F.plainAttrs_str PySem.F.slot_str_join PySem.F.type_str_join ?_
  refine ge_str [] (by decide +kernel) ?_
  walk_at "y"
  refine ga_cons ?_
  refine ge_lc (own := [("sign", 1)]) (js := [1]) (split := sp1) rfl sc_quote.nd tg_name (by decide) (blkOk_by (own := [("sign", 1)]) (N := ["text", "sign"]) (sc := defScope s_quote) (by decide +kernel)) (fun _ _ _ _ _ => pg_name (i := 1) sc_quote.nd rfl (Or.inl rfl)) ?_
  refine gj_str ?_
  refine ge_var 0 rfl (.inl rfl) rfl ?_
  walk_at "j"
  try intro hz
  refine lc_pure (fun d => true) (fun d => .str (qs (chOf d))) (by first | (rw [List.length_map]; exact hz) | walk_at "z") (fun _ x => by first | trivial | exact x _ _ (by walk_at "o")) ?_ ?_
  · rintro d ω1 hd x1
    first | (obtain ⟨c, hcm, rfl⟩ := List.mem_map.mp hd) | skip
    refine ⟨_, rfl, fun s H C cl fp => ?_, fun hc s H C cl fp => ?_⟩
    · exact ⟨by walk_at "x", rfl⟩
    · refine ge_call (Ex := fun _ _ _ _ => False) c_sign_text (hr.mono (by decide)) xw0 rfl ?_
      refine ga_cons ?_
      refine ge_var 1 rfl (.inl rfl) rfl ?_
      refine ga_nil ?_
      refine ⟨c, rfl, List.all_eq_true.mp ho c hcm, ?_⟩
      refine ⟨by walk_at "x", ?_⟩
      walk_at "eq"
  · intro p1 np2
    refine ga_nil ?_
    refine gm_joinL (ys := l.map qs) ?_ ?_ ?_
    · rw [put_same, filter_true, List.map_map, List.map_map]; rfl
    · have := sum_qs l; simp only [List.length_map, List.length_nil]; omega
    exact rtq (by walk_at "x") q (by rw [quote_join])
theorem sc_text_of : FnScope ["path", "found", "part", "ask"] ["path"] (defScope s_text_of) := ⟨rfl, rfl, rfl, by decide +kernel, rfl, by decide +kernel, by decide +kernel⟩
theorem ok_text_of (c_quote : Cal P w K mg base 2 "quote" sp_quote) (A : DefAt K mg "text_of" s_text_of ["path"]) : Cal P w K mg base 3 "text_of" sp_text_of := by
  refine cal_of A sc_text_of (fun ds ω Q E h => by obtain ⟨ps, as, rfl, hl1, hl2, h1, h2, q⟩ := h; rfl) ?_
  intro X f cdv Ar outer sh H E ds ω Qd Ed hX hr tk h'
  subst hX
  obtain ⟨ps, as, rfl, hl1, hl2, h1, h2, q⟩ := h'
  show GSs _ H _ [some (pathD ps as), none, none, none] ω _
  show GSs _ _ _ [_, _, _, _] _ _
  refine gss_cons (gs_set 1 sc_text_of.nd rfl (.inl rfl) ?_)
  refine ge_bin ?_
  refine ge_str [47] (by decide +kernel) ?_
  refine ge_bm PySem.F.plainAttrs_str PySem.F.slot_str_join PySem.F.type_str_join ?_
  refine ge_str [47] (by decide +kernel) ?_
  walk_at "y"
  refine ga_cons ?_
  refine ge_lc (own := [("part", 2)]) (js := [2]) (split := sp1) rfl sc_text_of.nd tg_name (by decide) (blkOk_by (own := [("part", 2)]) (N := ["path", "found", "part", "ask"]) (sc := defScope s_text_of) (by decide +kernel)) (fun _ _ _ _ _ => pg_name (i := 2) sc_text_of.nd rfl (Or.inl rfl)) ?_
  have hbig : sizeLine = 16777216 := sizeLine_eq
  have hj1 := joinL_len [47] (ps.map quoteL)
  have hj2 : ((ps.map quoteL).map (·.length)).sum ≤ 3000 * ps.length := by
    rw [List.map_map]
    refine sum_le fun s m => ?_
    have e1 := List.all_eq_true.mp h1 s m
    simp only [Bool.and_eq_true, decide_eq_true_eq] at e1
    have e2 := quote_len s
    have e3 : (quoteL s).length ≤ 3000 := by omega
    exact e3
  rw [List.length_map, List.length_cons, List.length_nil] at hj1
  have hj3 := asksJ_len h2 hl2
  have hj4 := asks_sum h2
  refine gj_tup ?_
  refine ge_ix (fun _ _ => rfl) ?_
  refine ge_var 0 rfl (.inl rfl) rfl ?_
  refine ge_int ?_
  walk_at "i"
  walk_at "j"
  try intro hz
  refine lc_pure (fun d => true) (fun d => .str (quoteL (strOf d))) (by rw [List.length_map]; omega) (fun _ x => by first | trivial | exact x _ _ (by walk_at "o")) ?_ ?_
  · rintro d ω1 hd x1
    obtain ⟨s0, hy, rfl⟩ := List.mem_map.mp hd
    have ho := List.all_eq_true.mp h1 s0 hy
    simp only [Bool.and_eq_true, decide_eq_true_eq] at ho
    refine ⟨_, rfl, fun s H C cl fp => ?_, fun hc s H C cl fp => ?_⟩
    · exact ⟨by walk_at "x", rfl⟩
    · refine ge_call (Ex := fun _ _ _ _ => False) c_quote (hr.mono (by decide)) xw0 rfl ?_
      refine ga_cons ?_
      refine ge_var 2 rfl (.inl rfl) rfl ?_
      refine ga_nil ?_
      refine ⟨_, rfl, ho.2, by omega, ?_⟩
      refine ⟨by walk_at "x", ?_⟩
      walk_at "eq"
  · intro p1 np2
    refine ga_nil ?_
    rw [parts_eq]
    refine gm_joinL put_same ?_ ?_
    · rw [List.length_map, List.length_cons, List.length_nil]; omega
    walk_at "bp"
    show GSs _ _ _ [_, _, _, _] _ _
    refine gss_cons (gs_if ?_)
    refine gt_truth (by intro _; rfl) ?_
    refine ge_ix (fun _ _ => rfl) ?_
    refine ge_var 0 rfl (.inl rfl) rfl ?_
    refine ge_int ?_
    walk_at "i"
    walk_at "t"
    refine ⟨fun h3 => ?_, fun h4 => ?_⟩
    · show GSs _ _ _ [_, _, _, _] _ _
      refine gss_one (gs_set 1 sc_text_of.nd rfl (.inl rfl) ?_)
      refine ge_bin ?_
      refine ge_bin ?_
      refine ge_var 1 rfl (.inl rfl) rfl ?_
      refine ge_str [63] (by decide +kernel) ?_
      walk_at "bp"
      refine ge_bm PySem.F.plainAttrs_str PySem.F.slot_str_join PySem.F.type_str_join ?_
      refine ge_str [38] (by decide +kernel) ?_
      walk_at "y"
      refine ga_cons ?_
      refine ge_lc (own := [("ask", 3)]) (js := [3]) (split := sp1) rfl sc_text_of.nd tg_name (by decide) (blkOk_by (own := [("ask", 3)]) (N := ["path", "found", "part", "ask"]) (sc := defScope s_text_of) (by decide +kernel)) (fun _ _ _ _ _ => pg_name (i := 3) sc_text_of.nd rfl (Or.inl rfl)) ?_
      refine gj_tup ?_
      refine ge_ix (fun _ _ => rfl) ?_
      refine ge_var 0 rfl (.inl rfl) rfl ?_
      refine ge_int ?_
      walk_at "i"
      walk_at "j"
      try intro hz
      refine lc_pure (fun d => true) (fun d => .str (askT (hdOf d))) (by rw [List.length_map]; omega) (fun _ x => by first | trivial | exact x _ _ (by walk_at "o")) ?_ ?_
      · rintro d ω1 hd x1
        obtain ⟨y, hy, rfl⟩ := List.mem_map.mp hd
        have ho := okAsk_len (List.all_eq_true.mp h2 y hy)
        have e1 := quote_len y.1
        have e2 := quote_len y.2
        refine ⟨_, rfl, fun s H C cl fp => ?_, fun hc s H C cl fp => ?_⟩
        · exact ⟨by walk_at "x", rfl⟩
        · refine ge_bin ?_
          refine ge_bin ?_
          refine ge_call (Ex := fun _ _ _ _ => False) c_quote (hr.mono (by decide)) xw0 rfl ?_
          refine ga_cons ?_
          refine ge_ix (fun _ _ => rfl) ?_
          refine ge_var 3 rfl (.inl rfl) rfl ?_
          refine ge_int ?_
          walk_at "i"
          refine ga_nil ?_
          refine ⟨_, rfl, ho.2.1, by omega, ?_⟩
          refine ge_str [61] (by decide +kernel) ?_
          walk_at "bp"
          refine ge_call (Ex := fun _ _ _ _ => False) c_quote (hr.mono (by decide)) xw0 rfl ?_
          refine ga_cons ?_
          refine ge_ix (fun _ _ => rfl) ?_
          refine ge_var 3 rfl (.inl rfl) rfl ?_
          refine ge_int ?_
          walk_at "i"
          refine ga_nil ?_
          refine ⟨_, rfl, ho.2.2.2, by omega, ?_⟩
          walk_at "bp"
          refine ⟨by walk_at "x", ?_⟩
          walk_at "eq"
      · intro p5 np6
        refine ga_nil ?_
        rw [asks_eq]
        refine gm_joinL put_same ?_ ?_
        · rw [List.length_map, List.length_cons, List.length_nil]; omega
        show GB _ _ _ _ _ (.str (asksJ as)) _ _
        walk_at "bp"
        show GSs _ _ _ [_, _, _, _] _ _
        refine gss_one (gs_ret ?_)
        refine ge_var 1 rfl (.inl rfl) rfl ?_
        have hne : as ≠ [] := by
          intro e
          subst e
          cases h3
        refine rtq (by walk_at "x") q ?_
        show D.str (textP ps as) = D.str (partsT ps ++ [63] ++ asksJ as)
        unfold textP asksT
        rw [if_neg hne, List.append_assoc]
    · refine gss_nil ?_
      show GSs _ _ _ [_, _, _, _] _ _
      refine gss_one (gs_ret ?_)
      refine ge_var 1 rfl (.inl rfl) rfl ?_
      have hne : as = [] := by
        cases as with
        | nil => rfl
        | cons x r => cases h4
      subst hne
      refine rtq (by walk_at "x") q ?_
      show D.str (partsT ps ++ []) = _
      rw [List.append_nil]
      rfl
theorem sc_found_value : FnScope ["heads", "name", "other", "text"] ["heads", "name"] (defScope s_found_value) := ⟨rfl, rfl, rfl, by decide +kernel, rfl, by decide +kernel, by decide +kernel⟩
theorem ok_found_value  (A : DefAt K mg "found_value" s_found_value ["heads", "name"]) : Cal P w K mg base 1 "found_value" sp_found_value := by
  refine cal_of A sc_found_value (fun ds ω Q E h => by obtain ⟨hs, n, rfl, q⟩ := h; rfl) ?_
  intro X f cdv Ar outer sh H E ds ω Qd Ed hX hr tk h'
  subst hX
  obtain ⟨hs, n, rfl, q⟩ := h'
  show GSs _ H _ [some (hsD hs), some (.str n), none, none] ω _
  show GSs _ _ _ [_, _, _, _] _ _
  refine gss_cons (gs_for (fun _ i ρ1 ω1 => Ext ω ω1 ∧ (∀ y ∈ hs.take i, y.1 ≠ n) ∧ ∃ a b, ρ1 = [some (hsD hs), some (.str n), a, b]) (passes_of rfl) rfl ?_)
  refine gj_tup ?_
  refine ge_var 0 rfl (.inl rfl) rfl ?_
  walk_at "j"
  try intro hz
  refine ⟨⟨Ext.refl _, (by simp), none, none, rfl⟩, fun _ _ _ _ _ => trivial, ?_, ?_⟩
  · rintro i x ρ1 ω1 hx ⟨x1, ht, a, b, rfl⟩
    obtain ⟨y, hy, rfl⟩ := map_at hx
    have hf := find_take hy ht
    skip
    refine gg_tup rfl rfl ?_
    refine ggs_cons ?_
    refine gg_name 2 sc_found_value.nd rfl (.inl rfl) ?_
    refine ggs_cons ?_
    refine gg_name 3 sc_found_value.nd rfl (.inl rfl) ?_
    refine ggs_nil ?_
    show GSs _ _ _ [_, _, _, _] _ _
    refine gss_one (gs_if ?_)
    refine gt_cmp (nomark _) ?_
    refine ge_var 2 rfl (.inl rfl) rfl ?_
    refine ge_var 1 rfl (.inl rfl) rfl ?_
    walk_at "be"
    refine ⟨_, rfl, ?_⟩
    refine ⟨fun h1 => ?_, fun h2 => ?_⟩
    · show GSs _ _ _ [_, _, _, _] _ _
      refine gss_one (gs_ret ?_)
      refine ge_var 3 rfl (.inl rfl) rfl ?_
      exact rtq (by walk_at "x") q (hf.1 (by simpa using h1))
    · refine gss_nil ?_
      exact ⟨by walk_at "x", hf.2 (by simpa using h2), _, _, rfl⟩
  · rintro ρ1 ω1 ⟨x1, ht, a, b, rfl⟩
    rw [List.length_map] at ht
    show GSs _ _ _ [_, _, _, _] _ _
    refine gss_one (gs_ret ?_)
    refine ge_non ?_
    exact rtq (by walk_at "x") q (find_no ht)
theorem sc_House_mark : FnScope ["self", "key"] ["self", "key"] (defScope s_House_mark) := ⟨rfl, rfl, rfl, by decide +kernel, rfl, by decide +kernel, by decide +kernel⟩
theorem ok_House_mark {aHouse : Addr} (cl_House : Cls K aHouse) (na_House__held : NoAttr K aHouse "held") (B : Bl mg) (A : MAt K aHouse "mark" "House.mark" s_House_mark ["self", "key"]) : MCal P w K mg base 1 aHouse "mark" (sp_House_mark aHouse) := by
  refine mcal_of A sc_House_mark (fun ds ω Q E h => by obtain ⟨p, A, S, k, key, rfl, hat, hok, hk9, q⟩ := h; rfl) ?_
  intro X f cdv Ar outer sh H E ds ω Qd Ed hX hr tk h'
  subst hX
  obtain ⟨p, A, S, k, key, rfl, hat, hok, hk9, q⟩ := h'
  show GSs _ H _ [some (.ref p), some (.str key)] ω _
  have hbig : sizeLine = 16777216 := sizeLine_eq
  show GSs _ _ _ [_, _] _ _
  refine gss_one (gs_ret ?_)
  refine ge_if ?_
  refine gt_cmp rfl ?_
  refine ge_var 1 rfl (.inl rfl) rfl ?_
  refine ge_fld cl_House na_House__held ?_
  refine ge_var 0 rfl (.inl rfl) rfl ?_
  refine ⟨_, _, _, _, rfl, HAt.o (by assumption), hF_held _ _, ?_⟩
  refine gb_din hr.units (HAt.held (by assumption)) rfl ?_
  refine ⟨_, rfl, ?_⟩
  refine ⟨fun h1 => ?_, fun h2 => ?_⟩
  · refine ge_bin ?_
    refine ge_str [109] (by decide +kernel) ?_
    refine ge_callTy B.«str» rfl bb_str ?_
    refine ga_cons ?_
    refine ge_ix (fun _ _ => rfl) ?_
    refine ge_dget hr.units (fun _ _ => rfl) ?_
    refine ge_fld cl_House na_House__held ?_
    refine ge_var 0 rfl (.inl rfl) rfl ?_
    refine ⟨_, _, _, _, rfl, HAt.o (by assumption), hF_held _ _, ?_⟩
    refine ge_var 1 rfl (.inl rfl) rfl ?_
    obtain ⟨x, e1, e2⟩ := din_some h1
    have hx := hok.lk e1
    have hml := markT_len (n := x.2) (Nat.lt_of_le_of_lt (Nat.le_trans hx.2.2 hk9) (by decide))
    unfold markT at hml
    rw [List.length_cons] at hml
    refine ⟨_, _, _, _, rfl, HAt.held (by assumption), rfl, e2, ?_⟩
    refine ge_int ?_
    walk_at "i"
    refine ga_nil ?_
    refine gc_str rfl (Nat.lt_of_le_of_lt (Nat.le_trans hx.2.2 hk9) (by decide)) ?_
    walk_at "bp"
    exact rtq (Ext.refl _) q (by unfold markF; rw [e1]; rfl)
  · refine ge_str [110, 111, 110, 101] (by decide +kernel) ?_
    exact rtq (Ext.refl _) q (by unfold markF; rw [din_none h2])
theorem sc_is_figures : FnScope ["text", "most", "sign"] ["text", "most"] (defScope s_is_figures) := ⟨rfl, rfl, rfl, by decide +kernel, rfl, by decide +kernel, by decide +kernel⟩
theorem ok_is_figures (B : Bl mg) (g_FIGURES : Glob K mg "FIGURES" (.str lFIG)) (A : DefAt K mg "is_figures" s_is_figures ["text", "most"]) : Cal P w K mg base 1 "is_figures" sp_is_figures := by
  refine cal_of A sc_is_figures (fun ds ω Q E h => by obtain ⟨l, m, rfl, q⟩ := h; rfl) ?_
  intro X f cdv Ar outer sh H E ds ω Qd Ed hX hr tk h'
  subst hX
  obtain ⟨l, m, rfl, q⟩ := h'
  show GSs _ H _ [some (.str l), some (.int m), none] ω _
  show GSs _ _ _ [_, _, _] _ _
  refine gss_cons (gs_if (gt_ev (!(decide (1 ≤ (l.length : Int)) && decide ((l.length : Int) ≤ m) && l.all isDig)) ?_ ⟨fun h1 => ?_, fun h2 => ?_⟩))
  · refine gt_bool ?_
    refine gw_or ?_
    refine gt_not ?_
    refine gt_chain (by with_unfolding_all rfl) ?_
    refine ge_int ?_
    refine ge_callB B.«len» rfl bb_len ?_
    refine ga_cons ?_
    refine ge_var 0 rfl (.inl rfl) rfl ?_
    refine ga_nil ?_
    walk_at "c"
    refine gb_le ?_
    refine ⟨_, rfl, fun h3 => ?_, fun h4 => ?_⟩
    · refine ge_var 1 rfl (.inl rfl) rfl ?_
      refine gb_le ?_
      refine ⟨_, rfl, ?_⟩
      refine ⟨fun h5 => ?_, fun h6 => ?_⟩
      · refine ⟨by walk_at "x", ?_⟩
        walk_at "eq"
      · refine gw_or1 ?_
        refine gt_truth (by intro _; rfl) ?_
        refine ge_lc (own := [("sign", 2)]) (js := [2]) (split := sp1) rfl sc_is_figures.nd tg_name (by decide) (blkOk_by (own := [("sign", 2)]) (N := ["text", "most", "sign"]) (sc := defScope s_is_figures) (by decide +kernel)) (fun _ _ _ _ _ => pg_name (i := 2) sc_is_figures.nd rfl (Or.inl rfl)) ?_
        refine gj_str ?_
        refine ge_var 0 rfl (.inl rfl) rfl ?_
        walk_at "j"
        try intro hz
        refine lc_pure (fun d => !isDig (chOf d)) (fun d => d) (by first | (rw [List.length_map]; exact hz) | walk_at "z") (fun _ x => by first | trivial | exact x _ _ (by walk_at "o")) ?_ ?_
        · rintro d ω1 hd x1
          first | (obtain ⟨c, hcm, rfl⟩ := List.mem_map.mp hd) | skip
          refine ⟨_, rfl, fun s H C cl fp => ?_, fun hc s H C cl fp => ?_⟩
          · refine gt_cmp rfl ?_
            refine ge_var 2 rfl (.inl rfl) rfl ?_
            refine ge_glob g_FIGURES rfl ?_
            refine gb_notInC ?_
            refine ⟨_, rfl, ?_⟩
            refine ⟨by walk_at "x", ?_⟩
            rw [mem_FIG]
            rfl
          · refine ge_var 2 rfl (.inl rfl) rfl ?_
            refine ⟨by walk_at "x", ?_⟩
            walk_at "eq"
        · intro p7 np8
          walk_at "t"
          refine ⟨by walk_at "x", ?_⟩
          rw [all_filter (p := fun c => !isDig c) fun c => rfl]
          simp at h3 h6
          simp [h3, h6]
    · refine ⟨fun _ => ?_, fun hz => by cases hz⟩
      refine ⟨by walk_at "x", ?_⟩
      walk_at "eq"
  · show GSs _ _ _ [_, _, _] _ _
    refine gss_one (gs_ret ?_)
    refine ge_bl ?_
    refine rtq (by walk_at "x") q ?_
    simp at h1
    simp [isFig]
    intro a b c
    rcases h1 with (h1 | h1) | ⟨x, h1, h1'⟩
    · omega
    · omega
    · rw [c x h1] at h1'; cases h1'
  · refine gss_nil ?_
    show GSs _ _ _ [_, _, _] _ _
    refine gss_one (gs_ret ?_)
    refine ge_or ?_
    refine ge_cmp (nomark _) ?_
    refine ge_ix (fun _ _ => rfl) ?_
    refine ge_var 0 rfl (.inl rfl) rfl ?_
    refine ge_int ?_
    have hl : 1 ≤ l.length := by simp at h2; omega
    obtain ⟨c, r, rfl⟩ : ∃ c r, l = c :: r := by
      cases l with
      | nil => simp at hl
      | cons c r => exact ⟨c, r, rfl⟩
    refine gi_str (c := c) atI_0 ?_
    refine ge_str [48] (by decide +kernel) ?_
    walk_at "bn"
    walk_at "t"
    refine ⟨fun h9 => ?_, fun h10 => ?_⟩
    · refine rtq (by walk_at "x") q ?_
      simp at h2 h9
      simp [isFig, h2, h9]
      exact h2.2.2
    · refine ge_one ?_
      refine ge_cmp (nomark _) ?_
      refine ge_callB B.«len» rfl bb_len ?_
      refine ga_cons ?_
      refine ge_var 0 rfl (.inl rfl) rfl ?_
      refine ga_nil ?_
      walk_at "c"
      refine ge_int ?_
      walk_at "be"
      refine rtq (by walk_at "x") q ?_
      simp at h2 h10
      subst h10
      congr 1
      unfold isFig
      have e1 : (48 :: r).all isDig = true := List.all_eq_true.mpr (by intro x hx; simp at hx; rcases hx with rfl | hx; exact h2.2.1; exact h2.2.2 x hx)
      rw [e1]
      cases r with
      | nil => simp at h2 ⊢; omega
      | cons a b => simp at h2 ⊢; intros; omega
theorem sc_part_of : FnScope ["text", "many", "first", "sign", "last"] ["text", "many"] (defScope s_part_of) := ⟨rfl, rfl, rfl, by decide +kernel, rfl, by decide +kernel, by decide +kernel⟩
theorem ok_part_of (c_is_figures : Cal P w K mg base 1 "is_figures" sp_is_figures) (B : Bl mg) (A : DefAt K mg "part_of" s_part_of ["text", "many"]) : Cal P w K mg base 2 "part_of" sp_part_of := by
  refine cal_of A sc_part_of (fun ds ω Q E h => by obtain ⟨t, m, rfl, q⟩ := h; rfl) ?_
  intro X f cdv Ar outer sh H E ds ω Qd Ed hX hr tk h'
  subst hX
  obtain ⟨t, m, rfl, q⟩ := h'
  show GSs _ H _ [some (.str t), some (.int ((m : Nat) : Int)), none, none, none] ω _
  show GSs _ _ _ [_, _, _, _, _] _ _
  refine gss_cons (gs_asg ?_)
  refine ge_bm PySem.F.plainAttrs_str PySem.F.slot_str_partition PySem.F.type_str_partition ?_
  refine ge_var 0 rfl (.inl rfl) rfl ?_
  walk_at "y"
  refine ga_cons ?_
  refine ge_str [45] (by decide +kernel) ?_
  refine ga_nil ?_
  walk_at "m"
  skip
  refine gg_tup rfl rfl ?_
  refine ggs_cons ?_
  refine gg_name 2 sc_part_of.nd rfl (.inl rfl) ?_
  refine ggs_cons ?_
  refine gg_name 3 sc_part_of.nd rfl (.inl rfl) ?_
  refine ggs_cons ?_
  refine gg_name 4 sc_part_of.nd rfl (.inl rfl) ?_
  refine ggs_nil ?_
  show GSs _ _ _ [_, _, _, _, _] _ _
  refine gss_cons (gs_if (gt_ev (decide ((partL [45] t).2.1 = []) || (!isFig (partL [45] t).1 3 || !isFig (partL [45] t).2.2 3)) ?_ ⟨fun h1 => ?_, fun h2 => ?_⟩))
  · refine gt_bool ?_
    refine gw_or ?_
    refine gt_cmp (nomark _) ?_
    refine ge_var 3 rfl (.inl rfl) rfl ?_
    refine ge_str [] (by decide +kernel) ?_
    first | walk_at "be" | walk_at "bn"
    refine ⟨_, rfl, ?_⟩
    refine ⟨fun h3 => ?_, fun h4 => ?_⟩
    · refine ⟨by walk_at "x", ?_⟩
      walk_at "eq"
    · refine gw_or ?_
      refine gt_not ?_
      refine gt_truth (by intro _; rfl) ?_
      refine ge_call (Ex := bodyX Ed) c_is_figures (hr.mono (by decide)) tk rfl ?_
      refine ga_cons ?_
      refine ge_var 2 rfl (.inl rfl) rfl ?_
      refine ga_cons ?_
      refine ge_int ?_
      refine ga_nil ?_
      refine ⟨_, _, rfl, ?_⟩
      walk_at "t"
      refine ⟨fun h5 => ?_, fun h6 => ?_⟩
      · refine ⟨by walk_at "x", ?_⟩
        walk_at "eq"
      · refine gw_or1 ?_
        refine gt_not ?_
        refine gt_truth (by intro _; rfl) ?_
        refine ge_call (Ex := bodyX Ed) c_is_figures (hr.mono (by decide)) tk rfl ?_
        refine ga_cons ?_
        refine ge_var 4 rfl (.inl rfl) rfl ?_
        refine ga_cons ?_
        refine ge_int ?_
        refine ga_nil ?_
        refine ⟨_, _, rfl, ?_⟩
        walk_at "t"
        refine ⟨by walk_at "x", ?_⟩
        walk_at "eq"
  · show GSs _ _ _ [_, _, _, _, _] _ _
    refine gss_one (gs_ret ?_)
    refine ge_non ?_
    exact rtq (Ext.refl _) q (by rw [partF_no1 h1]; rfl)
  · refine gss_nil ?_
    show GSs _ _ _ [_, _, _, _, _] _ _
    refine gss_cons (gs_if (gt_ev (decide (NumText.digitsVal (partL [45] t).2.2 < NumText.digitsVal (partL [45] t).1) || decide (m ≤ NumText.digitsVal (partL [45] t).1)) ?_ ⟨fun h7 => ?_, fun h8 => ?_⟩))
    · refine gt_bool ?_
      refine gw_or ?_
      refine gt_cmp (nomark _) ?_
      refine ge_callTy B.«int» rfl bb_int ?_
      refine ga_cons ?_
      refine ge_var 2 rfl (.inl rfl) rfl ?_
      refine ga_nil ?_
      have hgo := partF_go (m := m) h2
      have hi1 := fig_int hgo.1
      have hi2 := fig_int hgo.2.1
      refine gc_intF (by exact hi1.1) hi1.2.1 hi1.2.2.1 ?_
      refine ge_callTy B.«int» rfl bb_int ?_
      refine ga_cons ?_
      refine ge_var 4 rfl (.inl rfl) rfl ?_
      refine ga_nil ?_
      refine gc_intF (by exact hi2.1) hi2.2.1 hi2.2.2.1 ?_
      refine gb_gt ?_
      refine ⟨_, rfl, ?_⟩
      refine ⟨fun h9 => ?_, fun h10 => ?_⟩
      · refine ⟨by walk_at "x", ?_⟩
        walk_at "eq"
      · refine gw_or1 ?_
        refine gt_cmp (nomark _) ?_
        refine ge_callTy B.«int» rfl bb_int ?_
        refine ga_cons ?_
        refine ge_var 2 rfl (.inl rfl) rfl ?_
        refine ga_nil ?_
        refine gc_intF (by exact hi1.1) hi1.2.1 hi1.2.2.1 ?_
        refine ge_var 1 rfl (.inl rfl) rfl ?_
        refine gb_ge ?_
        refine ⟨_, rfl, ?_⟩
        refine ⟨by walk_at "x", ?_⟩
        walk_at "eq"
    · show GSs _ _ _ [_, _, _, _, _] _ _
      refine gss_one (gs_ret ?_)
      refine ge_non ?_
      refine rtq (Ext.refl _) q ?_
      rw [(partF_go (m := m) h2).2.2]
      simp only [Bool.or_eq_true, decide_eq_true_eq] at h7
      split
      · rfl
      split
      · rfl
      · omega
    · refine gss_nil ?_
      show GSs _ _ _ [_, _, _, _, _] _ _
      refine gss_one (gs_ret ?_)
      refine ge_tup ?_
      refine ga_cons ?_
      refine ge_callTy B.«int» rfl bb_int ?_
      refine ga_cons ?_
      refine ge_var 2 rfl (.inl rfl) rfl ?_
      refine ga_nil ?_
      have hgo := partF_go (m := m) h2
      have hi1 := fig_int hgo.1
      have hi2 := fig_int hgo.2.1
      simp only [Bool.or_eq_false_iff, decide_eq_false_iff_not] at h8
      refine gc_intF (by exact hi1.1) hi1.2.1 hi1.2.2.1 ?_
      refine ga_cons ?_
      refine ge_callB B.«min» rfl bb_min ?_
      refine ga_cons ?_
      refine ge_callTy B.«int» rfl bb_int ?_
      refine ga_cons ?_
      refine ge_var 4 rfl (.inl rfl) rfl ?_
      refine ga_nil ?_
      refine gc_intF (by exact hi2.1) hi2.2.1 hi2.2.2.1 ?_
      refine ga_cons ?_
      refine ge_bin ?_
      refine ge_var 1 rfl (.inl rfl) rfl ?_
      refine ge_int ?_
      refine gb_sub ?_
      refine ga_nil ?_
      walk_at "c"
      refine ga_nil ?_
      refine ⟨show 2 ≤ sizeLine by decide, ?_⟩
      refine rtq (Ext.refl _) q ?_
      rw [hgo.2.2, if_neg (by omega), if_neg (by omega)]
      show D.tup _ = D.tup _
      congr 3
      refine congrArg D.int ?_
      show ((min (NumText.digitsVal (partL [45] t).2.2) (m - 1) : Nat) : Int) = _
      split <;> omega
theorem sc_House_to_get : FnScope ["self", "key", "heads", "body", "mark", "text", "part", "told"] ["self", "key", "heads"] (defScope s_House_to_get) := ⟨rfl, rfl, rfl, by decide +kernel, rfl, by decide +kernel, by decide +kernel⟩
theorem ok_House_to_get {aHouse : Addr} (cl_House : Cls K aHouse) (na_House__held : NoAttr K aHouse "held") (mc_House__mark : MCal P w K mg base 1 aHouse "mark" (sp_House_mark aHouse)) (c_found_value : Cal P w K mg base 1 "found_value" sp_found_value) (B : Bl mg) (na_House__fresh : NoAttr K aHouse "fresh") (c_part_of : Cal P w K mg base 2 "part_of" sp_part_of) (A : MAt K aHouse "to_get" "House.to_get" s_House_to_get ["self", "key", "heads"]) : MCal P w K mg base 3 aHouse "to_get" (sp_House_to_get aHouse) := by
  refine mcal_of A sc_House_to_get (fun ds ω Q E h => by obtain ⟨p, A, S, k, key, hs, rfl, hat, hok, hk9, hho, q⟩ := h; rfl) ?_
  intro X f cdv Ar outer sh H E ds ω Qd Ed hX hr tk h'
  subst hX
  obtain ⟨p, A, S, k, key, hs, rfl, hat, hok, hk9, hho, q⟩ := h'
  show GSs _ H _ [some (.ref p), some (.str key), some (hsD hs), none, none, none, none, none] ω _
  have hbig : sizeLine = 16777216 := sizeLine_eq
  show GSs _ _ _ [_, _, _, _, _, _, _, _] _ _
  refine gss_cons (gs_if ?_)
  refine gt_cmp rfl ?_
  refine ge_var 1 rfl (.inl rfl) rfl ?_
  refine ge_fld cl_House na_House__held ?_
  refine ge_var 0 rfl (.inl rfl) rfl ?_
  refine ⟨_, _, _, _, rfl, HAt.o (by assumption), hF_held _ _, ?_⟩
  refine gb_dnotin hr.units (HAt.held (by assumption)) rfl ?_
  refine ⟨_, rfl, ?_⟩
  refine ⟨fun h1 => ?_, fun h2 => ?_⟩
  · skip
    show GSs _ _ _ [_, _, _, _, _, _, _, _] _ _
    refine gss_one (gs_ret ?_)
    refine ge_tup ?_
    refine ga_cons ?_
    refine ge_int ?_
    refine ga_cons ?_
    refine ge_tup ?_
    refine ga_nil ?_
    refine ⟨show 0 ≤ sizeLine by decide, ?_⟩
    refine ga_cons ?_
    refine ge_str [] (by decide +kernel) ?_
    refine ga_nil ?_
    refine ⟨show 3 ≤ sizeLine by decide, ?_⟩
    exact rtq (Ext.refl _) q (by unfold getF; rw [din_none (by simpa using h1)]; rfl)
  · obtain ⟨x, e1, e2⟩ := din_some (by simpa using h2)
    have hx := hok.lk e1
    have hmt : markF S key = markT x.2 := by unfold markF; rw [e1]
    refine gss_nil ?_
    show GSs _ _ _ [_, _, _, _, _, _, _, _] _ _
    refine gss_cons (gs_set 3 sc_House_to_get.nd rfl (.inl rfl) ?_)
    refine ge_ix (fun _ _ => rfl) ?_
    refine ge_dget hr.units (fun _ _ => rfl) ?_
    refine ge_fld cl_House na_House__held ?_
    refine ge_var 0 rfl (.inl rfl) rfl ?_
    refine ⟨_, _, _, _, rfl, HAt.o (by assumption), hF_held _ _, ?_⟩
    refine ge_var 1 rfl (.inl rfl) rfl ?_
    refine ⟨_, _, _, _, rfl, HAt.held (by assumption), rfl, e2, ?_⟩
    refine ge_int ?_
    walk_at "i"
    show GSs _ _ _ [_, _, _, _, _, _, _, _] _ _
    refine gss_cons (gs_set 4 sc_House_to_get.nd rfl (.inl rfl) ?_)
    refine ge_tup ?_
    refine ga_cons ?_
    refine ge_str [109, 97, 114, 107] (by decide +kernel) ?_
    refine ga_cons ?_
    refine ge_meth (Ex := bodyX Ed) mc_House__mark cl_House (hr.mono (by decide)) tk ?_
    refine ge_var 0 rfl (.inl rfl) rfl ?_
    refine ⟨_, _, _, rfl, HAt.o (by assumption), hF_no (by decide +kernel), ?_⟩
    refine ga_cons ?_
    refine ge_var 1 rfl (.inl rfl) rfl ?_
    refine ga_nil ?_
    refine ⟨_, _, _, _, _, rfl, hat, hok, hk9, ?_⟩
    rw [hmt]
    refine ga_nil ?_
    refine ⟨show 2 ≤ sizeLine by decide, ?_⟩
    show GSs _ _ _ [_, _, _, _, _, _, _, _] _ _
    refine gss_cons (gs_if ?_)
    refine gt_cmp (nomark _) ?_
    refine ge_call (Ex := bodyX Ed) c_found_value (hr.mono (by decide)) tk rfl ?_
    refine ga_cons ?_
    refine ge_var 2 rfl (.inl rfl) rfl ?_
    refine ga_cons ?_
    refine ge_str [117, 110, 108, 101, 115, 115] (by decide +kernel) ?_
    refine ga_nil ?_
    refine ⟨_, _, rfl, ?_⟩
    rw [valOf_O]
    refine ge_ix (fun _ _ => rfl) ?_
    refine ge_var 4 rfl (.inl rfl) rfl ?_
    refine ge_int ?_
    walk_at "i"
    refine gb_eqP hr.units (opt_pl _ hho) (str_pl8 (markT_ok _)) ?_
    rw [eq_opt]
    refine ⟨_, rfl, ?_⟩
    refine ⟨fun h3 => ?_, fun h4 => ?_⟩
    · skip
      show GSs _ _ _ [_, _, _, _, _, _, _, _] _ _
      refine gss_one (gs_ret ?_)
      refine ge_tup ?_
      refine ga_cons ?_
      refine ge_int ?_
      refine ga_cons ?_
      refine ge_tup ?_
      refine ga_cons ?_
      refine ge_var 4 rfl (.inl rfl) rfl ?_
      refine ga_nil ?_
      refine ⟨show 1 ≤ sizeLine by decide, ?_⟩
      refine ga_cons ?_
      refine ge_str [] (by decide +kernel) ?_
      refine ga_nil ?_
      refine ⟨show 3 ≤ sizeLine by decide, ?_⟩
      have h3 := of_decide_eq_true h3
      exact rtq (Ext.refl _) q (by unfold getF; rw [e1]; simp only []; rw [if_pos h3]; rfl)
    · have h4 := of_decide_eq_false h4
      have hget : getF S key hs = match valO hs partS with
          | none => (200, [(markS, markT x.2), (freshS, TL.numL S.fresh)], x.1)
          | some t => match partF t x.1.length with
            | none => (416, [], [])
            | some (a, b) => (206, [(markS, markT x.2), (partS, toldT a b x.1.length)], (x.1.take (b + 1)).drop a) := by
        unfold getF
        rw [e1]
        simp only []
        rw [if_neg h4]
        all_goals rfl
      refine gss_nil ?_
      show GSs _ _ _ [_, _, _, _, _, _, _, _] _ _
      refine gss_cons (gs_set 5 sc_House_to_get.nd rfl (.inl rfl) ?_)
      refine ge_call (Ex := bodyX Ed) c_found_value (hr.mono (by decide)) tk rfl ?_
      refine ga_cons ?_
      refine ge_var 2 rfl (.inl rfl) rfl ?_
      refine ga_cons ?_
      refine ge_str [112, 97, 114, 116] (by decide +kernel) ?_
      refine ga_nil ?_
      refine ⟨_, _, rfl, ?_⟩
      rw [valOf_O]
      show GSs _ _ _ [_, _, _, _, _, _, _, _] _ _
      refine gss_cons (gs_if ?_)
      refine gt_cmp (nomark _) ?_
      refine ge_var 5 rfl (.inl rfl) rfl ?_
      refine ge_non ?_
      refine gb_is ?_
      refine ⟨_, rfl, ?_⟩
      refine ⟨fun h5 => ?_, fun h6 => ?_⟩
      · skip
        show GSs _ _ _ [_, _, _, _, _, _, _, _] _ _
        refine gss_one (gs_ret ?_)
        refine ge_tup ?_
        refine ga_cons ?_
        refine ge_int ?_
        refine ga_cons ?_
        refine ge_tup ?_
        refine ga_cons ?_
        refine ge_var 4 rfl (.inl rfl) rfl ?_
        refine ga_cons ?_
        refine ge_tup ?_
        refine ga_cons ?_
        refine ge_str [102, 114, 101, 115, 104] (by decide +kernel) ?_
        refine ga_cons ?_
        refine ge_callTy B.«str» rfl bb_str ?_
        refine ga_cons ?_
        refine ge_fld cl_House na_House__fresh ?_
        refine ge_var 0 rfl (.inl rfl) rfl ?_
        refine ⟨_, _, _, _, rfl, HAt.o (by assumption), hF_fresh _ _, ?_⟩
        refine ga_nil ?_
        refine gc_str rfl (Nat.lt_of_le_of_lt hok.fresh (by decide)) ?_
        refine ga_nil ?_
        refine ⟨show 2 ≤ sizeLine by decide, ?_⟩
        refine ga_nil ?_
        refine ⟨show 2 ≤ sizeLine by decide, ?_⟩
        refine ga_cons ?_
        refine ge_var 3 rfl (.inl rfl) rfl ?_
        refine ga_nil ?_
        refine ⟨show 3 ≤ sizeLine by decide, ?_⟩
        rw [isNon_opt] at h5
        refine rtq (Ext.refl _) q ?_
        rw [hget]
        cases e : valO hs partS with
        | none => rfl
        | some t => rw [e] at h5; cases h5
      · rw [isNon_opt] at h6
        obtain ⟨t, et⟩ : ∃ t, valO hs partS = some t := by
          cases e : valO hs partS with
          | none => rw [e] at h6; cases h6
          | some t => exact ⟨t, rfl⟩
        rw [et]
        refine gss_nil ?_
        show GSs _ _ _ [_, _, _, _, _, _, _, _] _ _
        refine gss_cons (gs_set 6 sc_House_to_get.nd rfl (.inl rfl) ?_)
        refine ge_call (Ex := bodyX Ed) c_part_of (hr.mono (by decide)) tk rfl ?_
        refine ga_cons ?_
        refine ge_var 5 rfl (.inl rfl) rfl ?_
        refine ga_cons ?_
        refine ge_callB B.«len» rfl bb_len ?_
        refine ga_cons ?_
        refine ge_var 3 rfl (.inl rfl) rfl ?_
        refine ga_nil ?_
        walk_at "c"
        refine ga_nil ?_
        refine ⟨t, x.1.length, rfl, ?_⟩
        show GSs _ _ _ [_, _, _, _, _, _, _, _] _ _
        refine gss_cons (gs_if ?_)
        refine gt_cmp (nomark _) ?_
        refine ge_var 6 rfl (.inl rfl) rfl ?_
        refine ge_non ?_
        refine gb_is ?_
        refine ⟨_, rfl, ?_⟩
        refine ⟨fun h7 => ?_, fun h8 => ?_⟩
        · skip
          show GSs _ _ _ [_, _, _, _, _, _, _, _] _ _
          refine gss_one (gs_ret ?_)
          refine ge_tup ?_
          refine ga_cons ?_
          refine ge_int ?_
          refine ga_cons ?_
          refine ge_tup ?_
          refine ga_nil ?_
          refine ⟨show 0 ≤ sizeLine by decide, ?_⟩
          refine ga_cons ?_
          refine ge_str [] (by decide +kernel) ?_
          refine ga_nil ?_
          refine ⟨show 3 ≤ sizeLine by decide, ?_⟩
          refine rtq (Ext.refl _) q ?_
          rw [hget, et]
          cases e : partF t x.1.length with
          | none => simp only []; rw [e]; rfl
          | some y => rw [e] at h7; cases h7
        · obtain ⟨⟨a, b⟩, ep⟩ : ∃ y, partF t x.1.length = some y := by
            cases e : partF t x.1.length with
            | none => rw [e] at h8; cases h8
            | some y => exact ⟨y, rfl⟩
          rw [ep]
          have hab := partF_some ep
          have hal := numL_len (n := a) (k := 3) (by omega) (by decide)
          have hbl := numL_len (n := b) (k := 3) (by omega) (by decide)
          have hnl := numL_len (n := x.1.length) (k := 3) (by omega) (by decide)
          refine gss_nil ?_
          show GSs _ _ _ [_, _, _, _, _, _, _, _] _ _
          refine gss_cons (gs_set 7 sc_House_to_get.nd rfl (.inl rfl) ?_)
          refine ge_bin ?_
          refine ge_bin ?_
          refine ge_bin ?_
          refine ge_bin ?_
          refine ge_callTy B.«str» rfl bb_str ?_
          refine ga_cons ?_
          refine ge_ix (fun _ _ => rfl) ?_
          refine ge_var 6 rfl (.inl rfl) rfl ?_
          refine ge_int ?_
          walk_at "i"
          refine ga_nil ?_
          refine gc_str rfl (show a < 10 ^ 18 by omega) ?_
          refine ge_str [45] (by decide +kernel) ?_
          walk_at "bp"
          refine ge_callTy B.«str» rfl bb_str ?_
          refine ga_cons ?_
          refine ge_ix (fun _ _ => rfl) ?_
          refine ge_var 6 rfl (.inl rfl) rfl ?_
          refine ge_int ?_
          walk_at "i"
          refine ga_nil ?_
          refine gc_str rfl (show b < 10 ^ 18 by omega) ?_
          walk_at "bp"
          refine ge_str [32, 111, 102, 32] (by decide +kernel) ?_
          walk_at "bp"
          refine ge_callTy B.«str» rfl bb_str ?_
          refine ga_cons ?_
          refine ge_callB B.«len» rfl bb_len ?_
          refine ga_cons ?_
          refine ge_var 3 rfl (.inl rfl) rfl ?_
          refine ga_nil ?_
          walk_at "c"
          refine ga_nil ?_
          refine gc_str rfl (show x.1.length < 10 ^ 18 by omega) ?_
          walk_at "bp"
          show GSs _ _ _ [_, _, _, _, _, _, _, _] _ _
          refine gss_one (gs_ret ?_)
          refine ge_tup ?_
          refine ga_cons ?_
          refine ge_int ?_
          refine ga_cons ?_
          refine ge_tup ?_
          refine ga_cons ?_
          refine ge_var 4 rfl (.inl rfl) rfl ?_
          refine ga_cons ?_
          refine ge_tup ?_
          refine ga_cons ?_
          refine ge_str [112, 97, 114, 116] (by decide +kernel) ?_
          refine ga_cons ?_
          refine ge_var 7 rfl (.inl rfl) rfl ?_
          refine ga_nil ?_
          refine ⟨show 2 ≤ sizeLine by decide, ?_⟩
          refine ga_nil ?_
          refine ⟨show 2 ≤ sizeLine by decide, ?_⟩
          refine ga_cons ?_
          refine ge_slice ?_
          refine ge_var 3 rfl (.inl rfl) rfl ?_
          refine go_some ?_
          refine ge_ix (fun _ _ => rfl) ?_
          refine ge_var 6 rfl (.inl rfl) rfl ?_
          refine ge_int ?_
          walk_at "i"
          refine ⟨_, rfl, ?_⟩
          refine go_some ?_
          refine ge_bin ?_
          refine ge_ix (fun _ _ => rfl) ?_
          refine ge_var 6 rfl (.inl rfl) rfl ?_
          refine ge_int ?_
          walk_at "i"
          refine ge_int ?_
          walk_at "bp"
          refine ⟨_, rfl, ?_⟩
          walk_at "l"
          refine ga_nil ?_
          refine ⟨show 3 ≤ sizeLine by decide, ?_⟩
          refine rtq (Ext.refl _) q ?_
          rw [hget, et]
          simp only [ep]
          show anD (206, [(markS, markT x.2), (partS, toldT a b x.1.length)], (x.1.take (b + 1)).drop a) = _
          have hc : cutL x.1 (some ((a : Nat) : Int)) (some ((b : Nat) + 1 : Int)) = (x.1.take (b + 1)).drop a := cutL_mid x.1 a (b + 1)
          rw [hc]
          rfl
theorem sc_House_lay : FnScope ["self", "key", "body"] ["self", "key", "body"] (defScope s_House_lay) := ⟨rfl, rfl, rfl, by decide +kernel, rfl, by decide +kernel, by decide +kernel⟩
theorem ok_House_lay {aHouse : Addr} (cl_House : Cls K aHouse) (na_House__many : NoAttr K aHouse "many") (na_House__held : NoAttr K aHouse "held") (A : MAt K aHouse "lay" "House.lay" s_House_lay ["self", "key", "body"]) : MCal P w K mg base 1 aHouse "lay" (sp_House_lay aHouse) := by
  refine mcal_of A sc_House_lay (fun ds ω Q E h => by obtain ⟨p, A, S, k, key, b, rfl, hat, hok, hk9, q⟩ := h; rfl) ?_
  intro X f cdv Ar outer sh H E ds ω Qd Ed hX hr tk h'
  subst hX
  obtain ⟨p, A, S, k, key, b, rfl, hat, hok, hk9, q⟩ := h'
  show GSs _ H _ [some (.ref p), some (.str key), some (.str b)] ω _
  have hbig : sizeLine = 16777216 := sizeLine_eq
  show GSs _ _ _ [_, _, _] _ _
  refine gss_cons (gs_fldaug cl_House na_House__many ?_)
  refine ge_var 0 rfl (.inl rfl) rfl ?_
  refine ⟨_, _, _, _, rfl, HAt.o (by assumption), hF_many _ _, ?_⟩
  refine ge_int ?_
  refine gbi_add ?_
  have hat1 := hat.many1
  refine ⟨_, _, hat.o, hF_len _ _, ?_⟩
  show GSs _ _ _ [_, _, _] _ _
  refine gss_one (gs_dput hr.units ?_)
  refine ge_tup ?_
  refine ga_cons ?_
  refine ge_var 2 rfl (.inl rfl) rfl ?_
  refine ga_cons ?_
  refine ge_fld cl_House na_House__many ?_
  refine ge_var 0 rfl (.inl rfl) rfl ?_
  refine ⟨_, _, _, _, rfl, HAt.o (by assumption), hF_many _ _, ?_⟩
  refine ga_nil ?_
  refine ⟨show 2 ≤ sizeLine by decide, ?_⟩
  refine ge_fld cl_House na_House__held ?_
  refine ge_var 0 rfl (.inl rfl) rfl ?_
  refine ⟨_, _, _, _, rfl, HAt.o (by assumption), hF_held _ _, ?_⟩
  refine ge_var 1 rfl (.inl rfl) rfl ?_
  refine ⟨_, _, _, rfl, hat1.held, rfl, (by rw [asD_len]; have := hok.len; show S.held.length < _; omega), ?_⟩
  exact rtq (Ext.refl _) (q _ ((HKeep.refl.put (mem_p _ _)).put (mem_ph _ _)) (hat1.putHeld key (b, S.many + 1))) rfl
theorem sc_House_to_put : FnScope ["self", "key", "body", "code"] ["self", "key", "body"] (defScope s_House_to_put) := ⟨rfl, rfl, rfl, by decide +kernel, rfl, by decide +kernel, by decide +kernel⟩
theorem ok_House_to_put {aHouse : Addr} (cl_House : Cls K aHouse) (na_House__held : NoAttr K aHouse "held") (mc_House__lay : MCal P w K mg base 1 aHouse "lay" (sp_House_lay aHouse)) (mc_House__mark : MCal P w K mg base 1 aHouse "mark" (sp_House_mark aHouse)) (A : MAt K aHouse "to_put" "House.to_put" s_House_to_put ["self", "key", "body"]) : MCal P w K mg base 2 aHouse "to_put" (sp_House_to_put aHouse) := by
  refine mcal_of A sc_House_to_put (fun ds ω Q E h => by obtain ⟨p, A, S, k, key, b, rfl, hat, hok, hk9, hkey, hb1, hb2, q⟩ := h; rfl) ?_
  intro X f cdv Ar outer sh H E ds ω Qd Ed hX hr tk h'
  subst hX
  obtain ⟨p, A, S, k, key, b, rfl, hat, hok, hk9, hkey, hb1, hb2, q⟩ := h'
  show GSs _ H _ [some (.ref p), some (.str key), some (.str b), none] ω _
  have hok2 := hok.lay hkey hb1 hb2
  show GSs _ _ _ [_, _, _, _] _ _
  refine gss_cons (gs_set 3 sc_House_to_put.nd rfl (.inl rfl) ?_)
  refine ge_if ?_
  refine gt_cmp rfl ?_
  refine ge_var 1 rfl (.inl rfl) rfl ?_
  refine ge_fld cl_House na_House__held ?_
  refine ge_var 0 rfl (.inl rfl) rfl ?_
  refine ⟨_, _, _, _, rfl, HAt.o (by assumption), hF_held _ _, ?_⟩
  refine gb_din hr.units (HAt.held (by assumption)) rfl ?_
  refine ⟨_, rfl, ?_⟩
  refine ⟨fun h1 => ?_, fun h2 => ?_⟩
  · refine ge_int ?_
    show GSs _ _ _ [_, _, _, _] _ _
    refine gss_cons (gs_expr ?_)
    refine ge_meth (Ex := bodyX Ed) mc_House__lay cl_House (hr.mono (by decide)) tk ?_
    refine ge_var 0 rfl (.inl rfl) rfl ?_
    refine ⟨_, _, _, rfl, HAt.o (by assumption), hF_no (by decide +kernel), ?_⟩
    refine ga_cons ?_
    refine ge_var 1 rfl (.inl rfl) rfl ?_
    refine ga_cons ?_
    refine ge_var 2 rfl (.inl rfl) rfl ?_
    refine ga_nil ?_
    refine ⟨_, _, _, _, _, _, rfl, by assumption, hok, by omega, fun ω1 kp hat1 => ?_⟩
    show GSs _ _ _ [_, _, _, _] _ _
    refine gss_one (gs_ret ?_)
    refine ge_tup ?_
    refine ga_cons ?_
    refine ge_var 3 rfl (.inl rfl) rfl ?_
    refine ga_cons ?_
    refine ge_tup ?_
    refine ga_cons ?_
    refine ge_tup ?_
    refine ga_cons ?_
    refine ge_str [109, 97, 114, 107] (by decide +kernel) ?_
    refine ga_cons ?_
    refine ge_meth (Ex := bodyX Ed) mc_House__mark cl_House (hr.mono (by decide)) tk ?_
    refine ge_var 0 rfl (.inl rfl) rfl ?_
    refine ⟨_, _, _, rfl, HAt.o (by assumption), hF_no (by decide +kernel), ?_⟩
    refine ga_cons ?_
    refine ge_var 1 rfl (.inl rfl) rfl ?_
    refine ga_nil ?_
    refine ⟨_, _, _, _, _, rfl, hat1, hok2, by omega, ?_⟩
    refine ga_nil ?_
    refine ⟨show 2 ≤ sizeLine by decide, ?_⟩
    refine ga_nil ?_
    refine ⟨show 1 ≤ sizeLine by decide, ?_⟩
    refine ga_cons ?_
    refine ge_str [] (by decide +kernel) ?_
    refine ga_nil ?_
    refine ⟨show 3 ≤ sizeLine by decide, ?_⟩
    obtain ⟨x, e1, e2⟩ := din_some h1
    refine rtq (Ext.refl _) (q _ kp hat1) ?_
    show anD (putFn S key b).1 = _
    unfold putFn markF layF
    rw [e1]
    simp only [lk_pk]
    rfl
  · refine ge_int ?_
    show GSs _ _ _ [_, _, _, _] _ _
    refine gss_cons (gs_expr ?_)
    refine ge_meth (Ex := bodyX Ed) mc_House__lay cl_House (hr.mono (by decide)) tk ?_
    refine ge_var 0 rfl (.inl rfl) rfl ?_
    refine ⟨_, _, _, rfl, HAt.o (by assumption), hF_no (by decide +kernel), ?_⟩
    refine ga_cons ?_
    refine ge_var 1 rfl (.inl rfl) rfl ?_
    refine ga_cons ?_
    refine ge_var 2 rfl (.inl rfl) rfl ?_
    refine ga_nil ?_
    refine ⟨_, _, _, _, _, _, rfl, by assumption, hok, by omega, fun ω1 kp hat1 => ?_⟩
    show GSs _ _ _ [_, _, _, _] _ _
    refine gss_one (gs_ret ?_)
    refine ge_tup ?_
    refine ga_cons ?_
    refine ge_var 3 rfl (.inl rfl) rfl ?_
    refine ga_cons ?_
    refine ge_tup ?_
    refine ga_cons ?_
    refine ge_tup ?_
    refine ga_cons ?_
    refine ge_str [109, 97, 114, 107] (by decide +kernel) ?_
    refine ga_cons ?_
    refine ge_meth (Ex := bodyX Ed) mc_House__mark cl_House (hr.mono (by decide)) tk ?_
    refine ge_var 0 rfl (.inl rfl) rfl ?_
    refine ⟨_, _, _, rfl, HAt.o (by assumption), hF_no (by decide +kernel), ?_⟩
    refine ga_cons ?_
    refine ge_var 1 rfl (.inl rfl) rfl ?_
    refine ga_nil ?_
    refine ⟨_, _, _, _, _, rfl, hat1, hok2, by omega, ?_⟩
    refine ga_nil ?_
    refine ⟨show 2 ≤ sizeLine by decide, ?_⟩
    refine ga_nil ?_
    refine ⟨show 1 ≤ sizeLine by decide, ?_⟩
    refine ga_cons ?_
    refine ge_str [] (by decide +kernel) ?_
    refine ga_nil ?_
    refine ⟨show 3 ≤ sizeLine by decide, ?_⟩
    have e1 := din_none h2
    refine rtq (Ext.refl _) (q _ kp hat1) ?_
    show anD (putFn S key b).1 = _
    unfold putFn markF layF
    rw [e1]
    simp only [lk_pk]
    rfl
theorem sc_House_to_drop : FnScope ["self", "key"] ["self", "key"] (defScope s_House_to_drop) := ⟨rfl, rfl, rfl, by decide +kernel, rfl, by decide +kernel, by decide +kernel⟩
theorem ok_House_to_drop {aHouse : Addr} (cl_House : Cls K aHouse) (na_House__held : NoAttr K aHouse "held") (na_House__many : NoAttr K aHouse "many") (A : MAt K aHouse "to_drop" "House.to_drop" s_House_to_drop ["self", "key"]) : MCal P w K mg base 1 aHouse "to_drop" (sp_House_to_drop aHouse) := by
  refine mcal_of A sc_House_to_drop (fun ds ω Q E h => by obtain ⟨p, A, S, k, key, rfl, hat, hok, hk9, q⟩ := h; rfl) ?_
  intro X f cdv Ar outer sh H E ds ω Qd Ed hX hr tk h'
  subst hX
  obtain ⟨p, A, S, k, key, rfl, hat, hok, hk9, q⟩ := h'
  show GSs _ H _ [some (.ref p), some (.str key)] ω _
  show GSs _ _ _ [_, _] _ _
  refine gss_cons (gs_if ?_)
  refine gt_cmp rfl ?_
  refine ge_var 1 rfl (.inl rfl) rfl ?_
  refine ge_fld cl_House na_House__held ?_
  refine ge_var 0 rfl (.inl rfl) rfl ?_
  refine ⟨_, _, _, _, rfl, HAt.o (by assumption), hF_held _ _, ?_⟩
  refine gb_dnotin hr.units (HAt.held (by assumption)) rfl ?_
  refine ⟨_, rfl, ?_⟩
  refine ⟨fun h1 => ?_, fun h2 => ?_⟩
  · show GSs _ _ _ [_, _] _ _
    refine gss_one (gs_ret ?_)
    refine ge_tup ?_
    refine ga_cons ?_
    refine ge_int ?_
    refine ga_cons ?_
    refine ge_tup ?_
    refine ga_nil ?_
    refine ⟨show 0 ≤ sizeLine by decide, ?_⟩
    refine ga_cons ?_
    refine ge_str [] (by decide +kernel) ?_
    refine ga_nil ?_
    refine ⟨show 3 ≤ sizeLine by decide, ?_⟩
    have e1 := din_none (by simpa using h1)
    exact rtq (Ext.refl _) (q _ HKeep.refl (by unfold dropFn; rw [e1]; exact hat)) (by unfold dropFn; rw [e1]; rfl)
  · refine gss_nil ?_
    show GSs _ _ _ [_, _] _ _
    refine gss_cons (gs_expr ?_)
    refine ge_dpop ?_
    refine ge_fld cl_House na_House__held ?_
    refine ge_var 0 rfl (.inl rfl) rfl ?_
    refine ⟨_, _, _, _, rfl, HAt.o (by assumption), hF_held _ _, ?_⟩
    refine ⟨_, rfl, ⟨_, HAt.held (by assumption)⟩, ?_⟩
    refine ge_var 1 rfl (.inl rfl) rfl ?_
    obtain ⟨x, e1, e2⟩ := din_some (by simpa using h2)
    refine ⟨_, _, _, hat.held, rfl, e2, ?_⟩
    have hat1 := hat.dropHeld key
    show GSs _ _ _ [_, _] _ _
    refine gss_cons (gs_fldaug cl_House na_House__many ?_)
    refine ge_var 0 rfl (.inl rfl) rfl ?_
    refine ⟨_, _, _, _, rfl, HAt.o (by assumption), hF_many _ _, ?_⟩
    refine ge_int ?_
    refine gbi_add ?_
    have hat2 := hat1.many1
    refine ⟨_, _, hat1.o, hF_len _ _, ?_⟩
    show GSs _ _ _ [_, _] _ _
    refine gss_one (gs_ret ?_)
    refine ge_tup ?_
    refine ga_cons ?_
    refine ge_int ?_
    refine ga_cons ?_
    refine ge_tup ?_
    refine ga_nil ?_
    refine ⟨show 0 ≤ sizeLine by decide, ?_⟩
    refine ga_cons ?_
    refine ge_str [] (by decide +kernel) ?_
    refine ga_nil ?_
    refine ⟨show 3 ≤ sizeLine by decide, ?_⟩
    exact rtq (Ext.refl _) (q _ ((HKeep.refl.put (mem_ph _ _)).put (mem_p _ _)) (by unfold dropFn; rw [e1]; exact hat2)) (by unfold dropFn; rw [e1]; rfl)
theorem sc_House_to_add : FnScope ["self", "path", "body", "key", "number", "other"] ["self", "path", "body"] (defScope s_House_to_add) := ⟨rfl, rfl, rfl, by decide +kernel, rfl, by decide +kernel, by decide +kernel⟩
theorem ok_House_to_add {aHouse : Addr} (B : Bl mg) (g_MOST_PARTS : Glob K mg "MOST_PARTS" (.int 5)) (c_text_of : Cal P w K mg base 3 "text_of" sp_text_of) (cl_House : Cls K aHouse) (na_House__numbers : NoAttr K aHouse "numbers") (na_House__held : NoAttr K aHouse "held") (mc_House__lay : MCal P w K mg base 1 aHouse "lay" (sp_House_lay aHouse)) (mc_House__mark : MCal P w K mg base 1 aHouse "mark" (sp_House_mark aHouse)) (A : MAt K aHouse "to_add" "House.to_add" s_House_to_add ["self", "path", "body"]) : MCal P w K mg base 4 aHouse "to_add" (sp_House_to_add aHouse) := by
  refine mcal_of A sc_House_to_add (fun ds ω Q E h => by obtain ⟨p, A, S, k, ps, as, b, rfl, hat, hok, hk9, g1, g2, g3, g4, hb1, hb2, q⟩ := h; rfl) ?_
  intro X f cdv Ar outer sh H E ds ω Qd Ed hX hr tk h'
  subst hX
  obtain ⟨p, A, S, k, ps, as, b, rfl, hat, hok, hk9, g1, g2, g3, g4, hb1, hb2, q⟩ := h'
  show GSs _ H _ [some (.ref p), some (pathD ps as), some (.str b), none, none, none] ω _
  have hbig : sizeLine = 16777216 := sizeLine_eq
  have hnm := hok.num (textP ps as)
  have hln := hok.len
  show GSs _ _ _ [_, _, _, _, _, _] _ _
  refine gss_cons (gs_if ?_)
  refine gt_cmp (nomark _) ?_
  refine ge_callB B.«len» rfl bb_len ?_
  refine ga_cons ?_
  refine ge_ix (fun _ _ => rfl) ?_
  refine ge_var 1 rfl (.inl rfl) rfl ?_
  refine ge_int ?_
  walk_at "i"
  refine ga_nil ?_
  walk_at "c"
  refine ge_glob g_MOST_PARTS rfl ?_
  refine gb_eqI ?_
  refine ⟨_, rfl, ?_⟩
  refine ⟨fun h1 => ?_, fun h2 => ?_⟩
  · skip
    show GSs _ _ _ [_, _, _, _, _, _] _ _
    refine gss_one (gs_ret ?_)
    refine ge_tup ?_
    refine ga_cons ?_
    refine ge_int ?_
    refine ga_cons ?_
    refine ge_tup ?_
    refine ga_nil ?_
    refine ⟨show 0 ≤ sizeLine by decide, ?_⟩
    refine ga_cons ?_
    refine ge_str [] (by decide +kernel) ?_
    refine ga_nil ?_
    refine ⟨show 3 ≤ sizeLine by decide, ?_⟩
    have h1 : ps.length = 5 := by simp at h1; omega
    exact rtq (Ext.refl _) (q _ HKeep.refl (by unfold addFn; rw [if_pos h1]; exact hat)) (by unfold addFn; rw [if_pos h1]; rfl)
  · have h2 : ps.length ≠ 5 := by simp at h2; omega
    have hadd : addFn S ps as b = ((201, [(toS, addK ps (addN S ps as)), (markS, markT (S.many + 1))], []), layF { S with numbers := pk S.numbers (textP ps as) (addN S ps as) } (addK ps (addN S ps as)) b) := by
      unfold addFn; rw [if_neg h2]
    refine gss_nil ?_
    show GSs _ _ _ [_, _, _, _, _, _] _ _
    refine gss_cons (gs_set 3 sc_House_to_add.nd rfl (.inl rfl) ?_)
    refine ge_call (Ex := bodyX Ed) c_text_of (hr.mono (by decide)) tk rfl ?_
    refine ga_cons ?_
    refine ge_var 1 rfl (.inl rfl) rfl ?_
    refine ga_nil ?_
    refine ⟨ps, as, rfl, by omega, g2, parts_1000 g3, g4, ?_⟩
    show GSs _ _ _ [_, _, _, _, _, _] _ _
    refine gss_cons (gs_set 4 sc_House_to_add.nd rfl (.inl rfl) ?_)
    refine ge_bin ?_
    refine ge_dgetD hr.units ?_
    refine ge_fld cl_House na_House__numbers ?_
    refine ge_var 0 rfl (.inl rfl) rfl ?_
    refine ⟨_, _, _, _, rfl, HAt.o (by assumption), hF_nums _ _, ?_⟩
    refine ⟨_, rfl, ⟨_, HAt.nums (by assumption)⟩, ?_⟩
    refine ge_var 3 rfl (.inl rfl) rfl ?_
    refine ge_int ?_
    refine ⟨_, _, hat.nums, rfl, ?_⟩
    rw [show (D.int 0) = natD 0 from rfl, din_getD]
    refine ge_int ?_
    walk_at "bp"
    show GSs _ _ _ [_, _, _, _, _, _] _ _
    refine gss_cons (gs_while (fun m ρ1 ω1 => ∃ j, m = S.held.length + 1 - j ∧ j ≤ S.held.length ∧ ω1 = ω ∧ (∀ i, i < j → (lk S.held (addK ps ((lk S.numbers (textP ps as)).getD 0 + 1 + i))).isSome = true) ∧ nextN S.held ps (S.held.length + 1 - j) ((lk S.numbers (textP ps as)).getD 0 + 1 + j) = addN S ps as ∧ ρ1 = [some (.ref p), some (pathD ps as), some (.str b), some (.str (textP ps as)), some (.int (((lk S.numbers (textP ps as)).getD 0 + 1 + j : Nat) : Int)), none]) (S.held.length + 1) (⟨0, rfl, Nat.zero_le _, rfl, (fun i h => absurd h (Nat.not_lt_zero _)), rfl, rfl⟩) (passes_of rfl) ?_)
    rintro m ρ1 ω1 ⟨j, rfl, hj, rfl, hall, hnx, rfl⟩
    refine gt_cmp rfl ?_
    refine ge_call (Ex := bodyX Ed) c_text_of (hr.mono (by decide)) tk rfl ?_
    refine ga_cons ?_
    refine ge_tup ?_
    refine ga_cons ?_
    refine ge_bin ?_
    refine ge_ix (fun _ _ => rfl) ?_
    refine ge_var 1 rfl (.inl rfl) rfl ?_
    refine ge_int ?_
    walk_at "i"
    refine ge_tup ?_
    refine ga_cons ?_
    refine ge_callTy B.«str» rfl bb_str ?_
    refine ga_cons ?_
    refine ge_var 4 rfl (.inl rfl) rfl ?_
    refine ga_nil ?_
    refine gc_str rfl (show (lk S.numbers (textP ps as)).getD 0 + 1 + j < 10 ^ 18 by omega) ?_
    refine ga_nil ?_
    refine ⟨show 1 ≤ sizeLine by decide, ?_⟩
    walk_at "bp"
    refine ga_cons ?_
    refine ge_tup ?_
    refine ga_nil ?_
    refine ⟨show 0 ≤ sizeLine by decide, ?_⟩
    refine ga_nil ?_
    refine ⟨show 2 ≤ sizeLine by decide, ?_⟩
    refine ga_nil ?_
    refine ⟨ps ++ [TL.numL ((lk S.numbers (textP ps as)).getD 0 + 1 + j)], [], by simp, by rw [List.length_append, List.length_singleton]; omega, by decide, parts_add g3 (by omega), rfl, ?_⟩
    refine ge_fld cl_House na_House__held ?_
    refine ge_var 0 rfl (.inl rfl) rfl ?_
    refine ⟨_, _, _, _, rfl, HAt.o (by assumption), hF_held _ _, ?_⟩
    refine gb_din hr.units (HAt.held (by assumption)) rfl ?_
    refine ⟨_, rfl, ?_⟩
    refine ⟨fun h3 => ?_, fun h4 => ?_⟩
    · obtain ⟨x, e1, e2⟩ := din_some h3
      have hall' : ∀ i, i < j + 1 → (lk S.held (addK ps ((lk S.numbers (textP ps as)).getD 0 + 1 + i))).isSome = true := fun i hi => by
        rcases Nat.lt_or_eq_of_le (Nat.le_of_lt_succ hi) with h | h
        · exact hall i h
        · subst h
          show (lk S.held (textP (ps ++ [TL.numL _]) [])).isSome = true
          rw [e1]
          rfl
      have hj1 := addK_pig hall'
      show GSs _ _ _ [_, _, _, _, _, _] _ _
      refine gss_one (gs_aug 4 sc_House_to_add.nd rfl (.inl rfl) rfl ?_)
      refine ge_int ?_
      refine gbi_add ?_
      refine ⟨S.held.length + 1 - (j + 1), by omega, j + 1, rfl, hj1, rfl, hall', ?_, ?_⟩
      · rw [← hnx, show S.held.length + 1 - j = (S.held.length + 1 - (j + 1)) + 1 by omega, nextN_hit (hall' j (Nat.lt_succ_self _))]
        rfl
      · rfl
    · have hend : (lk S.held (addK ps ((lk S.numbers (textP ps as)).getD 0 + 1 + j))).isSome = false := by
        rw [show lk S.held (addK ps _) = none from din_none h4]
        rfl
      rw [nextN_end hend] at hnx
      rw [hnx]
      have hN := addN_le hok (by omega) ps as
      show GSs _ _ _ [_, _, _, _, _, _] _ _
      refine gss_cons (gs_dput hr.units ?_)
      refine ge_var 4 rfl (.inl rfl) rfl ?_
      refine ge_fld cl_House na_House__numbers ?_
      refine ge_var 0 rfl (.inl rfl) rfl ?_
      refine ⟨_, _, _, _, rfl, HAt.o (by assumption), hF_nums _ _, ?_⟩
      refine ge_var 3 rfl (.inl rfl) rfl ?_
      refine ⟨_, _, _, rfl, hat.nums, rfl, (by rw [asD_len]; have := hok.nlen; omega), ?_⟩
      have hat1 := hat.putNums (textP ps as) (addN S ps as)
      show GSs _ _ _ [_, _, _, _, _, _] _ _
      refine gss_cons (gs_set 5 sc_House_to_add.nd rfl (.inl rfl) ?_)
      refine ge_call (Ex := bodyX Ed) c_text_of (hr.mono (by decide)) tk rfl ?_
      refine ga_cons ?_
      refine ge_tup ?_
      refine ga_cons ?_
      refine ge_bin ?_
      refine ge_ix (fun _ _ => rfl) ?_
      refine ge_var 1 rfl (.inl rfl) rfl ?_
      refine ge_int ?_
      walk_at "i"
      refine ge_tup ?_
      refine ga_cons ?_
      refine ge_callTy B.«str» rfl bb_str ?_
      refine ga_cons ?_
      refine ge_var 4 rfl (.inl rfl) rfl ?_
      refine ga_nil ?_
      refine gc_str rfl (show addN S ps as < 10 ^ 18 by omega) ?_
      refine ga_nil ?_
      refine ⟨show 1 ≤ sizeLine by decide, ?_⟩
      walk_at "bp"
      refine ga_cons ?_
      refine ge_tup ?_
      refine ga_nil ?_
      refine ⟨show 0 ≤ sizeLine by decide, ?_⟩
      refine ga_nil ?_
      refine ⟨show 2 ≤ sizeLine by decide, ?_⟩
      refine ga_nil ?_
      refine ⟨ps ++ [TL.numL (addN S ps as)], [], by simp, by rw [List.length_append, List.length_singleton]; omega, by decide, parts_add g3 (by omega), rfl, ?_⟩
      show GSs _ _ _ [_, _, _, _, _, _] _ _
      refine gss_cons (gs_expr ?_)
      refine ge_meth (Ex := bodyX Ed) mc_House__lay cl_House (hr.mono (by decide)) tk ?_
      refine ge_var 0 rfl (.inl rfl) rfl ?_
      refine ⟨_, _, _, rfl, HAt.o (by assumption), hF_no (by decide +kernel), ?_⟩
      refine ga_cons ?_
      refine ge_var 5 rfl (.inl rfl) rfl ?_
      refine ga_cons ?_
      refine ge_var 2 rfl (.inl rfl) rfl ?_
      refine ga_nil ?_
      refine ⟨_, _, _, k + 1, addK ps (addN S ps as), b, rfl, hat1, hok.addNum (by omega) ps as, by omega, fun ω1 kp hat2 => ?_⟩
      show GSs _ _ _ [_, _, _, _, _, _] _ _
      refine gss_one (gs_ret ?_)
      refine ge_tup ?_
      refine ga_cons ?_
      refine ge_int ?_
      refine ga_cons ?_
      refine ge_tup ?_
      refine ga_cons ?_
      refine ge_tup ?_
      refine ga_cons ?_
      refine ge_str [116, 111] (by decide +kernel) ?_
      refine ga_cons ?_
      refine ge_var 5 rfl (.inl rfl) rfl ?_
      refine ga_nil ?_
      refine ⟨show 2 ≤ sizeLine by decide, ?_⟩
      refine ga_cons ?_
      refine ge_tup ?_
      refine ga_cons ?_
      refine ge_str [109, 97, 114, 107] (by decide +kernel) ?_
      refine ga_cons ?_
      refine ge_meth (Ex := bodyX Ed) mc_House__mark cl_House (hr.mono (by decide)) tk ?_
      refine ge_var 0 rfl (.inl rfl) rfl ?_
      refine ⟨_, _, _, rfl, HAt.o (by assumption), hF_no (by decide +kernel), ?_⟩
      refine ga_cons ?_
      refine ge_var 5 rfl (.inl rfl) rfl ?_
      refine ga_nil ?_
      refine ⟨_, _, _, k + 1, addK ps (addN S ps as), rfl, hat2, hok.addLay (by omega) as g3 (by omega) hb1 hb2, by omega, ?_⟩
      refine ga_nil ?_
      refine ⟨show 2 ≤ sizeLine by decide, ?_⟩
      refine ga_nil ?_
      refine ⟨show 2 ≤ sizeLine by decide, ?_⟩
      refine ga_cons ?_
      refine ge_str [] (by decide +kernel) ?_
      refine ga_nil ?_
      refine ⟨show 3 ≤ sizeLine by decide, ?_⟩
      rw [hadd] at q
      refine rtq (Ext.refl _) (q _ ((HKeep.refl.put (mem_pn _ _)).trans kp) hat2) ?_
      rw [show markF (layF { S with numbers := pk S.numbers (textP ps as) (addN S ps as) } (addK ps (addN S ps as)) b) (addK ps (addN S ps as)) = markT (S.many + 1) from by
        unfold markF layF
        simp only [lk_pk]
        rfl]
      rfl
theorem sc_House_done : FnScope ["self", "asking", "word", "path", "heads", "body", "key", "only"] ["self", "asking"] (defScope s_House_done) := ⟨rfl, rfl, rfl, by decide +kernel, rfl, by decide +kernel, by decide +kernel⟩
theorem ok_House_done {aHouse : Addr} (c_text_of : Cal P w K mg base 3 "text_of" sp_text_of) (cl_House : Cls K aHouse) (na_House__ways : NoAttr K aHouse "ways") (mc_House__to_get : MCal P w K mg base 3 aHouse "to_get" (sp_House_to_get aHouse)) (c_found_value : Cal P w K mg base 1 "found_value" sp_found_value) (mc_House__mark : MCal P w K mg base 1 aHouse "mark" (sp_House_mark aHouse)) (mc_House__to_put : MCal P w K mg base 2 aHouse "to_put" (sp_House_to_put aHouse)) (mc_House__to_drop : MCal P w K mg base 1 aHouse "to_drop" (sp_House_to_drop aHouse)) (mc_House__to_add : MCal P w K mg base 4 aHouse "to_add" (sp_House_to_add aHouse)) (A : MAt K aHouse "done" "House.done" s_House_done ["self", "asking"]) : MCal P w K mg base 5 aHouse "done" (sp_House_done aHouse) := by
  refine mcal_of A sc_House_done (fun ds ω Q E h => by obtain ⟨p, A, S, k, m, rfl, hat, hok, hk9, hm, q⟩ := h; rfl) ?_
  intro X f cdv Ar outer sh H E ds ω Qd Ed hX hr tk h'
  subst hX
  obtain ⟨p, A, S, k, m, rfl, hat, hok, hk9, hm, q⟩ := h'
  show GSs _ H _ [some (.ref p), some (Msg.D m), none, none, none, none, none, none] ω _
  obtain ⟨m1, m2, m3, m4, m5, m6, m7, m8, m9⟩ := hm
  show GSs _ _ _ [_, _, _, _, _, _, _, _] _ _
  refine gss_cons (gs_asg ?_)
  refine ge_var 1 rfl (.inl rfl) rfl ?_
  skip
  refine gg_tup rfl rfl ?_
  refine ggs_cons ?_
  refine gg_name 2 sc_House_done.nd rfl (.inl rfl) ?_
  refine ggs_cons ?_
  refine gg_name 3 sc_House_done.nd rfl (.inl rfl) ?_
  refine ggs_cons ?_
  refine gg_name 4 sc_House_done.nd rfl (.inl rfl) ?_
  refine ggs_cons ?_
  refine gg_name 5 sc_House_done.nd rfl (.inl rfl) ?_
  refine ggs_nil ?_
  show GSs _ _ _ [_, _, _, _, _, _, _, _] _ _
  refine gss_cons (gs_set 6 sc_House_done.nd rfl (.inl rfl) ?_)
  refine ge_call (Ex := bodyX Ed) c_text_of (hr.mono (by decide)) tk rfl ?_
  refine ga_cons ?_
  refine ge_var 3 rfl (.inl rfl) rfl ?_
  refine ga_nil ?_
  refine ⟨m.ps, m.as, rfl, by omega, m3, parts_1000 m4, m5, ?_⟩
  show GSs _ _ _ [_, _, _, _, _, _, _, _] _ _
  refine gss_cons (gs_if ?_)
  refine gt_cmp rfl ?_
  refine ge_var 6 rfl (.inl rfl) rfl ?_
  refine ge_fld cl_House na_House__ways ?_
  refine ge_var 0 rfl (.inl rfl) rfl ?_
  refine ⟨_, _, _, _, rfl, HAt.o (by assumption), hF_ways _ _, ?_⟩
  refine gb_din hr.units (HAt.ways (by assumption)) rfl ?_
  refine ⟨_, rfl, ?_⟩
  refine ⟨fun h1 => ?_, fun h2 => ?_⟩
  · skip
    show GSs _ _ _ [_, _, _, _, _, _, _, _] _ _
    refine gss_one (gs_ret ?_)
    refine ge_tup ?_
    refine ga_cons ?_
    refine ge_int ?_
    refine ga_cons ?_
    refine ge_tup ?_
    refine ga_cons ?_
    refine ge_tup ?_
    refine ga_cons ?_
    refine ge_str [116, 111] (by decide +kernel) ?_
    refine ga_cons ?_
    refine ge_dget hr.units (fun _ _ => rfl) ?_
    refine ge_fld cl_House na_House__ways ?_
    refine ge_var 0 rfl (.inl rfl) rfl ?_
    refine ⟨_, _, _, _, rfl, HAt.o (by assumption), hF_ways _ _, ?_⟩
    refine ge_var 6 rfl (.inl rfl) rfl ?_
    obtain ⟨x, e1, e2⟩ := din_some h1
    refine ⟨_, _, _, _, rfl, hat.ways, rfl, e2, ?_⟩
    refine ga_nil ?_
    refine ⟨show 2 ≤ sizeLine by decide, ?_⟩
    refine ga_nil ?_
    refine ⟨show 1 ≤ sizeLine by decide, ?_⟩
    refine ga_cons ?_
    refine ge_str [] (by decide +kernel) ?_
    refine ga_nil ?_
    refine ⟨show 3 ≤ sizeLine by decide, ?_⟩
    exact rtq (Ext.refl _) (q _ HKeep.refl (by rw [done_way e1]; exact hat)) (by rw [done_way e1]; rfl)
  · have hw := din_none h2
    refine gss_nil ?_
    show GSs _ _ _ [_, _, _, _, _, _, _, _] _ _
    refine gss_cons (gs_if ?_)
    refine gt_cmp (nomark _) ?_
    refine ge_var 2 rfl (.inl rfl) rfl ?_
    refine ge_str [103, 101, 116] (by decide +kernel) ?_
    refine gb_eqS ?_
    refine ⟨_, rfl, ?_⟩
    refine ⟨fun h3 => ?_, fun h4 => ?_⟩
    · have h3 := of_decide_eq_true h3
      have hd := done_get hw h3
      show GSs _ _ _ [_, _, _, _, _, _, _, _] _ _
      refine gss_one (gs_ret ?_)
      refine ge_meth (Ex := bodyX Ed) mc_House__to_get cl_House (hr.mono (by decide)) tk ?_
      refine ge_var 0 rfl (.inl rfl) rfl ?_
      refine ⟨_, _, _, rfl, HAt.o (by assumption), hF_no (by decide +kernel), ?_⟩
      refine ga_cons ?_
      refine ge_var 6 rfl (.inl rfl) rfl ?_
      refine ga_cons ?_
      refine ge_var 4 rfl (.inl rfl) rfl ?_
      refine ga_nil ?_
      refine ⟨_, _, _, k, _, _, rfl, hat, hok, by omega, m7, ?_⟩
      rw [hd] at q
      exact rtq (Ext.refl _) (q _ HKeep.refl hat) rfl
    · have h4 := of_decide_eq_false h4
      refine gss_nil ?_
      show GSs _ _ _ [_, _, _, _, _, _, _, _] _ _
      refine gss_cons (gs_set 7 sc_House_done.nd rfl (.inl rfl) ?_)
      refine ge_call (Ex := bodyX Ed) c_found_value (hr.mono (by decide)) tk rfl ?_
      refine ga_cons ?_
      refine ge_var 4 rfl (.inl rfl) rfl ?_
      refine ga_cons ?_
      refine ge_str [111, 110, 108, 121] (by decide +kernel) ?_
      refine ga_nil ?_
      refine ⟨_, _, rfl, ?_⟩
      rw [valOf_O]
      show GSs _ _ _ [_, _, _, _, _, _, _, _] _ _
      refine gss_cons (gs_if (gt_ev (!(valO m.hs onlyS).isNone && !decide (valO m.hs onlyS = some (markF S m.key))) ?_ ⟨fun h5 => ?_, fun h6 => ?_⟩))
      · refine gt_bool ?_
        refine gw_and ?_
        refine gt_cmp (nomark _) ?_
        refine ge_var 7 rfl (.inl rfl) rfl ?_
        refine ge_non ?_
        refine gb_isnot ?_
        refine ⟨_, rfl, ?_⟩
        refine ⟨fun h7 => ?_, fun h8 => ?_⟩
        · refine gw_and1 ?_
          refine gt_cmp (nomark _) ?_
          refine ge_var 7 rfl (.inl rfl) rfl ?_
          refine ge_meth (Ex := bodyX Ed) mc_House__mark cl_House (hr.mono (by decide)) tk ?_
          refine ge_var 0 rfl (.inl rfl) rfl ?_
          refine ⟨_, _, _, rfl, HAt.o (by assumption), hF_no (by decide +kernel), ?_⟩
          refine ga_cons ?_
          refine ge_var 6 rfl (.inl rfl) rfl ?_
          refine ga_nil ?_
          refine ⟨_, _, _, k, _, rfl, hat, hok, by omega, ?_⟩
          refine gb_neP hr.units (opt_pl _ m7) (str_pl8 (markF_ok _ _)) ?_
          rw [eq_opt]
          refine ⟨_, rfl, ?_⟩
          refine ⟨by walk_at "x", ?_⟩
          rw [isNon_opt] at h7
          rw [h7]
          rfl
        · refine ⟨by walk_at "x", ?_⟩
          rw [isNon_opt] at h8
          rw [h8]
          rfl
      · show GSs _ _ _ [_, _, _, _, _, _, _, _] _ _
        refine gss_one (gs_ret ?_)
        refine ge_tup ?_
        refine ga_cons ?_
        refine ge_int ?_
        refine ga_cons ?_
        refine ge_tup ?_
        refine ga_nil ?_
        refine ⟨show 0 ≤ sizeLine by decide, ?_⟩
        refine ga_cons ?_
        refine ge_str [] (by decide +kernel) ?_
        refine ga_nil ?_
        refine ⟨show 3 ≤ sizeLine by decide, ?_⟩
        have hd := done_412 hw h4 h5
        rw [hd] at q
        exact rtq (Ext.refl _) (q _ HKeep.refl hat) rfl
      · refine gss_nil ?_
        show GSs _ _ _ [_, _, _, _, _, _, _, _] _ _
        refine gss_cons (gs_if ?_)
        refine gt_cmp (nomark _) ?_
        refine ge_var 2 rfl (.inl rfl) rfl ?_
        refine ge_str [112, 117, 116] (by decide +kernel) ?_
        refine gb_eqS ?_
        refine ⟨_, rfl, ?_⟩
        refine ⟨fun h9 => ?_, fun h10 => ?_⟩
        · have h9 := of_decide_eq_true h9
          have hd := done_put hw h4 h6 h9
          show GSs _ _ _ [_, _, _, _, _, _, _, _] _ _
          refine gss_one (gs_ret ?_)
          refine ge_meth (Ex := bodyX Ed) mc_House__to_put cl_House (hr.mono (by decide)) tk ?_
          refine ge_var 0 rfl (.inl rfl) rfl ?_
          refine ⟨_, _, _, rfl, HAt.o (by assumption), hF_no (by decide +kernel), ?_⟩
          refine ga_cons ?_
          refine ge_var 6 rfl (.inl rfl) rfl ?_
          refine ga_cons ?_
          refine ge_var 5 rfl (.inl rfl) rfl ?_
          refine ga_nil ?_
          refine ⟨_, _, _, k, _, _, rfl, hat, hok, by omega, key_ok m4 m5 m2 m3, m8, m9, fun ω1 kp hat1 => ?_⟩
          rw [hd] at q
          exact rtq (Ext.refl _) (q _ kp hat1) rfl
        · have h10 := of_decide_eq_false h10
          refine gss_nil ?_
          show GSs _ _ _ [_, _, _, _, _, _, _, _] _ _
          refine gss_one (gs_ret ?_)
          refine ge_if ?_
          refine gt_cmp (nomark _) ?_
          refine ge_var 2 rfl (.inl rfl) rfl ?_
          refine ge_str [100, 114, 111, 112] (by decide +kernel) ?_
          refine gb_eqS ?_
          refine ⟨_, rfl, ?_⟩
          refine ⟨fun h11 => ?_, fun h12 => ?_⟩
          · refine ge_meth (Ex := bodyX Ed) mc_House__to_drop cl_House (hr.mono (by decide)) tk ?_
            refine ge_var 0 rfl (.inl rfl) rfl ?_
            refine ⟨_, _, _, rfl, HAt.o (by assumption), hF_no (by decide +kernel), ?_⟩
            refine ga_cons ?_
            refine ge_var 6 rfl (.inl rfl) rfl ?_
            refine ga_nil ?_
            have h11 := of_decide_eq_true h11
            have hd := done_drop hw h4 h6 h10 h11
            refine ⟨_, _, _, k, _, rfl, hat, hok, by omega, fun ω1 kp hat1 => ?_⟩
            rw [hd] at q
            exact rtq (Ext.refl _) (q _ kp hat1) rfl
          · refine ge_meth (Ex := bodyX Ed) mc_House__to_add cl_House (hr.mono (by decide)) tk ?_
            refine ge_var 0 rfl (.inl rfl) rfl ?_
            refine ⟨_, _, _, rfl, HAt.o (by assumption), hF_no (by decide +kernel), ?_⟩
            refine ga_cons ?_
            refine ge_var 3 rfl (.inl rfl) rfl ?_
            refine ga_cons ?_
            refine ge_var 5 rfl (.inl rfl) rfl ?_
            refine ga_nil ?_
            have h12 := of_decide_eq_false h12
            have hd := done_add hw h4 h6 h10 h12
            refine ⟨_, _, _, k, _, _, _, rfl, hat, hok, by omega, m2, m3, m4, m5, m8, m9, fun ω1 kp hat1 => ?_⟩
            rw [hd] at q
            exact rtq (Ext.refl _) (q _ kp hat1) rfl
theorem sc_House_ask : FnScope ["self", "asking", "once", "answer"] ["self", "asking"] (defScope s_House_ask) := ⟨rfl, rfl, rfl, by decide +kernel, rfl, by decide +kernel, by decide +kernel⟩
theorem ok_House_ask {aBadAsking aHouse : Addr} (c_checked_asking : Cal P w K mg base 6 "checked_asking" (sp_checked_asking aBadAsking)) (c_found_value : Cal P w K mg base 1 "found_value" sp_found_value) (cl_House : Cls K aHouse) (na_House__known : NoAttr K aHouse "known") (mc_House__done : MCal P w K mg base 5 aHouse "done" (sp_House_done aHouse)) (A : MAt K aHouse "ask" "House.ask" s_House_ask ["self", "asking"]) : MCal P w K mg base 7 aHouse "ask" (sp_House_ask aHouse aBadAsking) := by
  refine mcal_of A sc_House_ask (fun ds ω Q E h => by obtain ⟨p, d, rfl, hkd, ⟨A, S, k, hat, hok, hk9, q⟩, qe⟩ := h; rfl) ?_
  intro X f cdv Ar outer sh H E ds ω Qd Ed hX hr tk h'
  subst hX
  obtain ⟨p, d, rfl, hkd, ⟨A, S, k, hat, hok, hk9, q⟩, qe⟩ := h'
  show GSs _ H _ [some (.ref p), some (d), none, none] ω _
  have hbig : sizeLine = 16777216 := sizeLine_eq
  show GSs _ _ _ [_, _, _, _] _ _
  refine gss_cons (gs_expr ?_)
  refine ge_call (Ex := bodyX Ed) c_checked_asking (hr.mono (by decide)) tk rfl ?_
  refine ga_cons ?_
  refine ge_var 1 rfl (.inl rfl) rfl ?_
  refine ga_nil ?_
  refine ⟨_, rfl, hkd, fun hgood => ?_, fun hz => bx1 (by walk_at "x") (qe hz)⟩
  obtain ⟨m, rfl, hm⟩ := isAsking_of hgood
  have q := q m rfl hm
  obtain ⟨m1, m2, m3, m4, m5, m6, m7, m8, m9⟩ := hm
  have hm : m.ok := ⟨m1, m2, m3, m4, m5, m6, m7, m8, m9⟩
  show GSs _ _ _ [_, _, _, _] _ _
  refine gss_cons (gs_set 2 sc_House_ask.nd rfl (.inl rfl) ?_)
  refine ge_call (Ex := bodyX Ed) c_found_value (hr.mono (by decide)) tk rfl ?_
  refine ga_cons ?_
  refine ge_ix (fun _ _ => rfl) ?_
  refine ge_var 1 rfl (.inl rfl) rfl ?_
  refine ge_int ?_
  walk_at "i"
  refine ga_cons ?_
  refine ge_str [111, 110, 99, 101] (by decide +kernel) ?_
  refine ga_nil ?_
  refine ⟨_, _, rfl, ?_⟩
  rw [valOf_O]
  show GSs _ _ _ [_, _, _, _] _ _
  refine gss_cons (gs_if (gt_ev (match valO m.hs onceS with
  | none => false
  | some o => (lk S.known o).isSome) ?_ ⟨fun h1 => ?_, fun h2 => ?_⟩))
  · refine gt_bool ?_
    refine gw_and ?_
    refine gt_cmp (nomark _) ?_
    refine ge_var 2 rfl (.inl rfl) rfl ?_
    refine ge_non ?_
    refine gb_isnot ?_
    refine ⟨_, rfl, ?_⟩
    refine ⟨fun h3 => ?_, fun h4 => ?_⟩
    · rw [isNon_opt] at h3
      obtain ⟨o, eo⟩ : ∃ o, valO m.hs onceS = some o := by
        cases e : valO m.hs onceS with
        | none => rw [e] at h3; cases h3
        | some o => exact ⟨o, rfl⟩
      rw [eo]
      refine gw_and1 ?_
      refine gt_cmp rfl ?_
      refine ge_var 2 rfl (.inl rfl) rfl ?_
      refine ge_fld cl_House na_House__known ?_
      refine ge_var 0 rfl (.inl rfl) rfl ?_
      refine ⟨_, _, _, _, rfl, HAt.o (by assumption), hF_known _ _, ?_⟩
      refine gb_din hr.units (HAt.known (by assumption)) rfl ?_
      refine ⟨_, rfl, ?_⟩
      refine ⟨by walk_at "x", ?_⟩
      rw [valD_as]
      simp only []
      cases lk S.known o <;> rfl
    · skip
      refine ⟨by walk_at "x", ?_⟩
      rw [isNon_opt] at h4
      cases e : valO m.hs onceS with
      | none => rfl
      | some o => rw [e] at h4; cases h4
  · obtain ⟨o, eo⟩ : ∃ o, valO m.hs onceS = some o := by
      cases e : valO m.hs onceS with
      | none => rw [e] at h1; cases h1
      | some o => exact ⟨o, rfl⟩
    rw [eo] at h1 ⊢
    obtain ⟨an, ea⟩ : ∃ an, lk S.known o = some an := by
      cases e : lk S.known o with
      | none => simp [e] at h1
      | some an => exact ⟨an, rfl⟩
    have hf : askFn S m = (an, S) := by
      unfold askFn
      rw [eo]
      simp only []
      rw [ea]
    show GSs _ _ _ [_, _, _, _] _ _
    refine gss_one (gs_ret ?_)
    refine ge_dget hr.units (fun _ _ => rfl) ?_
    refine ge_fld cl_House na_House__known ?_
    refine ge_var 0 rfl (.inl rfl) rfl ?_
    refine ⟨_, _, _, _, rfl, HAt.o (by assumption), hF_known _ _, ?_⟩
    refine ge_var 2 rfl (.inl rfl) rfl ?_
    refine ⟨_, _, _, _, rfl, hat.known, rfl, din_at ea, ?_⟩
    rw [hf] at q
    exact rtq (Ext.refl _) (q _ HKeep.refl hat) rfl
  · skip
    refine gss_nil ?_
    show GSs _ _ _ [_, _, _, _] _ _
    refine gss_cons (gs_set 3 sc_House_ask.nd rfl (.inl rfl) ?_)
    refine ge_meth (Ex := bodyX Ed) mc_House__done cl_House (hr.mono (by decide)) tk ?_
    refine ge_var 0 rfl (.inl rfl) rfl ?_
    refine ⟨_, _, _, rfl, HAt.o (by assumption), hF_no (by decide +kernel), ?_⟩
    refine ga_cons ?_
    refine ge_var 1 rfl (.inl rfl) rfl ?_
    refine ga_nil ?_
    refine ⟨_, _, _, k, m, rfl, hat, hok, hk9, hm, fun ω1 kp hat1 => ?_⟩
    have hok1 := hok.done (by omega) hm
    show GSs _ _ _ [_, _, _, _] _ _
    refine gss_cons (gs_if ?_)
    refine gt_cmp (nomark _) ?_
    refine ge_var 2 rfl (.inl rfl) rfl ?_
    refine ge_non ?_
    refine gb_isnot ?_
    refine ⟨_, rfl, ?_⟩
    refine ⟨fun h5 => ?_, fun h6 => ?_⟩
    · rw [isNon_opt] at h5
      obtain ⟨o, eo⟩ : ∃ o, valO m.hs onceS = some o := by
        cases e : valO m.hs onceS with
        | none => rw [e] at h5; cases h5
        | some o => exact ⟨o, rfl⟩
      rw [eo] at h2 ⊢
      have ek : lk S.known o = none := by
        cases e : lk S.known o with
        | none => rfl
        | some an => simp [e] at h2
      have hf : askFn S m = ((doneF S m).1, { (doneF S m).2 with known := pk (doneF S m).2.known o (doneF S m).1 }) := by
        unfold askFn
        rw [eo]
        simp only []
        rw [ek]
      show GSs _ _ _ [_, _, _, _] _ _
      refine gss_one (gs_dput hr.units ?_)
      refine ge_var 3 rfl (.inl rfl) rfl ?_
      refine ge_fld cl_House na_House__known ?_
      refine ge_var 0 rfl (.inl rfl) rfl ?_
      refine ⟨_, _, _, _, rfl, HAt.o (by assumption), hF_known _ _, ?_⟩
      refine ge_var 2 rfl (.inl rfl) rfl ?_
      refine ⟨_, _, _, rfl, hat1.known, rfl, (by rw [asD_len, hok1.2.1]; have := hok.klen; omega), ?_⟩
      have hat2 := hat1.putKnown o (doneF S m).1
      show GSs _ _ _ [_, _, _, _] _ _
      refine gss_one (gs_ret ?_)
      refine ge_var 3 rfl (.inl rfl) rfl ?_
      rw [hf] at q
      exact rtq (Ext.refl _) (q _ (kp.put (mem_pk _ _)) hat2) rfl
    · rw [isNon_opt] at h6
      have hf : askFn S m = doneF S m := by
        unfold askFn
        cases e : valO m.hs onceS with
        | none => rfl
        | some o => rw [e] at h6; cases h6
      refine gss_nil ?_
      show GSs _ _ _ [_, _, _, _] _ _
      refine gss_one (gs_ret ?_)
      refine ge_var 3 rfl (.inl rfl) rfl ?_
      rw [hf] at q
      exact rtq (Ext.refl _) (q _ kp hat1) rfl
theorem sc_Near_is_fresh : FnScope ["self", "key", "now", "answer", "when"] ["self", "key", "now"] (defScope s_Near_is_fresh) := ⟨rfl, rfl, rfl, by decide +kernel, rfl, by decide +kernel, by decide +kernel⟩
theorem ok_Near_is_fresh {aNear : Addr} (cl_Near : Cls K aNear) (na_Near__kept : NoAttr K aNear "kept") (B : Bl mg) (c_found_value : Cal P w K mg base 1 "found_value" sp_found_value) (A : MAt K aNear "is_fresh" "Near.is_fresh" s_Near_is_fresh ["self", "key", "now"]) : MCal P w K mg base 2 aNear "is_fresh" (sp_Near_is_fresh aNear) := by
  refine mcal_of A sc_Near_is_fresh (fun ds ω Q E h => by obtain ⟨p, A, f, N, t, k, e, now, rfl, hat, hf, he, q⟩ := h; rfl) ?_
  intro X f cdv Ar outer sh H E ds ω Qd Ed hX hr tk h'
  subst hX
  obtain ⟨p, A, f, N, t, k, e, now, rfl, hat, hf, he, q⟩ := h'
  show GSs _ H _ [some (.ref p), some (.str k), some (.int ((now : Nat) : Int)), none, none] ω _
  show GSs _ _ _ [_, _, _, _, _] _ _
  refine gss_cons (gs_asg ?_)
  refine ge_dget hr.units (fun _ _ => rfl) ?_
  refine ge_fld cl_Near na_Near__kept ?_
  refine ge_var 0 rfl (.inl rfl) rfl ?_
  refine ⟨_, _, _, _, rfl, KAt.o (by assumption), nF_kept _ _, ?_⟩
  refine ge_var 1 rfl (.inl rfl) rfl ?_
  refine ⟨_, _, _, _, rfl, hat.kept, rfl, din_at he, ?_⟩
  skip
  refine gg_tup rfl rfl ?_
  refine ggs_cons ?_
  refine gg_name 3 sc_Near_is_fresh.nd rfl (.inl rfl) ?_
  refine ggs_cons ?_
  refine gg_name 4 sc_Near_is_fresh.nd rfl (.inl rfl) ?_
  refine ggs_nil ?_
  show GSs _ _ _ [_, _, _, _, _] _ _
  refine gss_one (gs_ret ?_)
  refine ge_cmp (nomark _) ?_
  refine ge_bin ?_
  refine ge_var 2 rfl (.inl rfl) rfl ?_
  refine ge_var 4 rfl (.inl rfl) rfl ?_
  refine gb_sub ?_
  refine ge_callTy B.«int» rfl bb_int ?_
  refine ga_cons ?_
  refine ge_call (Ex := bodyX Ed) c_found_value (hr.mono (by decide)) tk rfl ?_
  refine ga_cons ?_
  refine ge_ix (fun _ _ => rfl) ?_
  refine ge_var 3 rfl (.inl rfl) rfl ?_
  refine ge_int ?_
  walk_at "i"
  refine ga_cons ?_
  refine ge_str [102, 114, 101, 115, 104] (by decide +kernel) ?_
  refine ga_nil ?_
  refine ⟨_, _, rfl, ?_⟩
  refine ga_nil ?_
  refine gc_intF (s := TL.numL f) (num_dig f) (TL.numL_ne f) (by have := Q2.numL_len (n := f) (k := 3) (by omega) (by decide); omega) ?_
  rw [TL.numL_val]
  refine gb_lt ?_
  refine rtq (Ext.refl _) q ?_
  congr 1
  rw [decide_eq_decide]
  omega
theorem sc_put_head : FnScope ["heads", "name", "text", "found", "done", "head"] ["heads", "name", "text"] (defScope s_put_head) := ⟨rfl, rfl, rfl, by decide +kernel, rfl, by decide +kernel, by decide +kernel⟩
theorem ok_put_head (B : Bl mg) (A : DefAt K mg "put_head" s_put_head ["heads", "name", "text"]) : Cal P w K mg base 1 "put_head" sp_put_head := by
  refine cal_of A sc_put_head (fun ds ω Q E h => by obtain ⟨hs, n, t, rfl, hl, q⟩ := h; rfl) ?_
  intro X f cdv Ar outer sh H E ds ω Qd Ed hX hr tk h'
  subst hX
  obtain ⟨hs, n, t, rfl, hl, q⟩ := h'
  show GSs _ H _ [some (hsD hs), some (.str n), some (.str t), none, none, none] ω _
  show GSs _ _ _ [_, _, _, _, _, _] _ _
  refine gss_cons (gs_set 3 sc_put_head.nd rfl (.inl rfl) ?_)
  refine ge_lst ?_
  refine ga_nil ?_
  refine ⟨show 0 ≤ sizeLine by decide, fun p1 np2 => ?_⟩
  show GSs _ _ _ [_, _, _, _, _, _] _ _
  refine gss_cons (gs_set 4 sc_put_head.nd rfl (.inl rfl) ?_)
  refine ge_bl ?_
  show GSs _ _ _ [_, _, _, _, _, _] _ _
  refine gss_cons (gs_for (fun _ i ρ1 ω1 => Ext ω ω1 ∧ ∃ (fo : List Hd) (done : Bool) (a : Option D), ρ1 = [some (hsD hs), some (.str n), some (.str t), some (.ref p1), some (.bl done), a] ∧ ω1 p1 = some (.lst (fo.map hdD)) ∧ fo.length ≤ i ∧ putH hs n t = fo ++ putF n t (hs.drop i) done) (passes_of rfl) rfl ?_)
  refine gj_tup ?_
  refine ge_var 0 rfl (.inl rfl) rfl ?_
  walk_at "j"
  try intro hz
  refine ⟨⟨Ext.new np2, [], false, none, rfl, put_same, Nat.le_refl _, rfl⟩, fun _ _ _ _ _ => trivial, ?_, ?_⟩
  · rintro i x ρ1 ω1 hx ⟨x1, fo, done, a, rfl, w1, hf, hi⟩
    obtain ⟨y, hy, rfl⟩ := map_at hx
    have hil : i < hs.length := by
      rcases Nat.lt_or_ge i hs.length with g | g
      · exact g
      · rw [List.getElem?_eq_none g] at hy; cases hy
    rw [drop_at hy] at hi
    refine gg_name 5 sc_put_head.nd rfl (.inl rfl) ?_
    show GSs _ _ _ [_, _, _, _, _, _] _ _
    refine gss_one (gs_if ?_)
    refine gt_cmp (nomark _) ?_
    refine ge_ix (fun _ _ => rfl) ?_
    refine ge_var 5 rfl (.inl rfl) rfl ?_
    refine ge_int ?_
    walk_at "i"
    refine ge_var 1 rfl (.inl rfl) rfl ?_
    walk_at "bn"
    refine ⟨_, rfl, ?_⟩
    refine ⟨fun h3 => ?_, fun h4 => ?_⟩
    · show GSs _ _ _ [_, _, _, _, _, _] _ _
      refine gss_one (gs_expr ?_)
      refine ge_bm PySem.F.plainAttrs_list PySem.F.slot_list_append PySem.F.type_list_append ?_
      refine ge_var 3 rfl (.inl rfl) rfl ?_
      walk_at "y"
      refine ga_cons ?_
      refine ge_var 5 rfl (.inl rfl) rfl ?_
      refine ga_nil ?_
      walk_at "m"
      have e : y.1 ≠ n := by simpa using h3
      rw [putF_skip e] at hi
      refine ⟨by walk_at "x", fo ++ [y], done, _, rfl, ?_, ?_, ?_⟩
      · rw [put_same, List.map_append]; rfl
      · rw [List.length_append]; simp; omega
      · rw [hi, List.append_assoc]; rfl
    · show GSs _ _ _ [_, _, _, _, _, _] _ _
      refine gss_one (gs_if ?_)
      refine gt_not ?_
      refine gt_truth (by intro _; rfl) ?_
      refine ge_var 4 rfl (.inl rfl) rfl ?_
      walk_at "t"
      refine ⟨fun h5 => ?_, fun h6 => ?_⟩
      · show GSs _ _ _ [_, _, _, _, _, _] _ _
        refine gss_cons (gs_expr ?_)
        refine ge_bm PySem.F.plainAttrs_list PySem.F.slot_list_append PySem.F.type_list_append ?_
        refine ge_var 3 rfl (.inl rfl) rfl ?_
        walk_at "y"
        refine ga_cons ?_
        refine ge_tup ?_
        refine ga_cons ?_
        refine ge_var 1 rfl (.inl rfl) rfl ?_
        refine ga_cons ?_
        refine ge_var 2 rfl (.inl rfl) rfl ?_
        refine ga_nil ?_
        refine ⟨show 2 ≤ sizeLine by decide, ?_⟩
        refine ga_nil ?_
        walk_at "m"
        show GSs _ _ _ [_, _, _, _, _, _] _ _
        refine gss_one (gs_set 4 sc_put_head.nd rfl (.inl rfl) ?_)
        refine ge_bl ?_
        have e : y.1 = n := by simpa using h4
        have ed : done = false := by simpa using h5
        subst ed
        rw [putF_new e] at hi
        refine ⟨by walk_at "x", fo ++ [(n, t)], true, _, rfl, ?_, ?_, ?_⟩
        · rw [put_same, List.map_append]; rfl
        · rw [List.length_append]; simp; omega
        · rw [hi, List.append_assoc]; rfl
      · refine gss_nil ?_
        have e : y.1 = n := by simpa using h4
        have ed : done = true := by simpa using h6
        subst ed
        rw [putF_old e] at hi
        exact ⟨by walk_at "x", fo, true, _, rfl, w1, by omega, hi⟩
  · rintro ρ1 ω1 ⟨x1, fo, done, a, rfl, w1, hf, hi⟩
    rw [List.length_map] at hf hi
    rw [List.drop_length] at hi
    show GSs _ _ _ [_, _, _, _, _, _] _ _
    refine gss_cons (gs_if ?_)
    refine gt_not ?_
    refine gt_truth (by intro _; rfl) ?_
    refine ge_var 4 rfl (.inl rfl) rfl ?_
    walk_at "t"
    refine ⟨fun h7 => ?_, fun h8 => ?_⟩
    · show GSs _ _ _ [_, _, _, _, _, _] _ _
      refine gss_one (gs_expr ?_)
      refine ge_bm PySem.F.plainAttrs_list PySem.F.slot_list_append PySem.F.type_list_append ?_
      refine ge_var 3 rfl (.inl rfl) rfl ?_
      walk_at "y"
      refine ga_cons ?_
      refine ge_tup ?_
      refine ga_cons ?_
      refine ge_var 1 rfl (.inl rfl) rfl ?_
      refine ga_cons ?_
      refine ge_var 2 rfl (.inl rfl) rfl ?_
      refine ga_nil ?_
      refine ⟨show 2 ≤ sizeLine by decide, ?_⟩
      refine ga_nil ?_
      walk_at "m"
      show GSs _ _ _ [_, _, _, _, _, _] _ _
      refine gss_one (gs_ret ?_)
      refine ge_callTy B.«tuple» rfl bb_tuple ?_
      refine ga_cons ?_
      refine ge_var 3 rfl (.inl rfl) rfl ?_
      refine ga_nil ?_
      walk_at "c"
      have ed : done = false := by simpa using h7
      subst ed
      refine rtq (by walk_at "x") q ?_
      rw [hi]
      unfold hsD
      rw [List.map_append]
      rfl
    · refine gss_nil ?_
      show GSs _ _ _ [_, _, _, _, _, _] _ _
      refine gss_one (gs_ret ?_)
      refine ge_callTy B.«tuple» rfl bb_tuple ?_
      refine ga_cons ?_
      refine ge_var 3 rfl (.inl rfl) rfl ?_
      refine ga_nil ?_
      walk_at "c"
      have ed : done = true := by simpa using h8
      subst ed
      refine rtq (by walk_at "x") q ?_
      rw [hi]
      unfold hsD
      rw [List.map_append]
      simp [putF]
theorem sc_Near_aged : FnScope ["self", "key", "now", "answer", "when"] ["self", "key", "now"] (defScope s_Near_aged) := ⟨rfl, rfl, rfl, by decide +kernel, rfl, by decide +kernel, by decide +kernel⟩
theorem ok_Near_aged {aNear : Addr} (cl_Near : Cls K aNear) (na_Near__kept : NoAttr K aNear "kept") (c_put_head : Cal P w K mg base 1 "put_head" sp_put_head) (B : Bl mg) (A : MAt K aNear "aged" "Near.aged" s_Near_aged ["self", "key", "now"]) : MCal P w K mg base 2 aNear "aged" (sp_Near_aged aNear) := by
  refine mcal_of A sc_Near_aged (fun ds ω Q E h => by obtain ⟨p, A, f, N, t, k, e, now, rfl, hat, he, h1, h2, q⟩ := h; rfl) ?_
  intro X f cdv Ar outer sh H E ds ω Qd Ed hX hr tk h'
  subst hX
  obtain ⟨p, A, f, N, t, k, e, now, rfl, hat, he, h1, h2, q⟩ := h'
  show GSs _ H _ [some (.ref p), some (.str k), some (.int ((now : Nat) : Int)), none, none] ω _
  show GSs _ _ _ [_, _, _, _, _] _ _
  refine gss_cons (gs_asg ?_)
  refine ge_dget hr.units (fun _ _ => rfl) ?_
  refine ge_fld cl_Near na_Near__kept ?_
  refine ge_var 0 rfl (.inl rfl) rfl ?_
  refine ⟨_, _, _, _, rfl, KAt.o (by assumption), nF_kept _ _, ?_⟩
  refine ge_var 1 rfl (.inl rfl) rfl ?_
  refine ⟨_, _, _, _, rfl, hat.kept, rfl, din_at he, ?_⟩
  skip
  refine gg_tup rfl rfl ?_
  refine ggs_cons ?_
  refine gg_name 3 sc_Near_aged.nd rfl (.inl rfl) ?_
  refine ggs_cons ?_
  refine gg_name 4 sc_Near_aged.nd rfl (.inl rfl) ?_
  refine ggs_nil ?_
  show GSs _ _ _ [_, _, _, _, _] _ _
  refine gss_one (gs_ret ?_)
  refine ge_tup ?_
  refine ga_cons ?_
  refine ge_ix (fun _ _ => rfl) ?_
  refine ge_var 3 rfl (.inl rfl) rfl ?_
  refine ge_int ?_
  walk_at "i"
  refine ga_cons ?_
  refine ge_call (Ex := bodyX Ed) c_put_head (hr.mono (by decide)) tk rfl ?_
  refine ga_cons ?_
  refine ge_ix (fun _ _ => rfl) ?_
  refine ge_var 3 rfl (.inl rfl) rfl ?_
  refine ge_int ?_
  walk_at "i"
  refine ga_cons ?_
  refine ge_str [97, 103, 101] (by decide +kernel) ?_
  refine ga_cons ?_
  refine ge_callTy B.«str» rfl bb_str ?_
  refine ga_cons ?_
  refine ge_bin ?_
  refine ge_var 2 rfl (.inl rfl) rfl ?_
  refine ge_var 4 rfl (.inl rfl) rfl ?_
  refine gb_sub ?_
  refine ga_nil ?_
  refine gc_str (n := now - e.2) (by omega) (by omega) ?_
  refine ga_nil ?_
  refine ⟨_, _, _, rfl, (by show 2 ≤ 1000; decide), ?_⟩
  refine ga_cons ?_
  refine ge_ix (fun _ _ => rfl) ?_
  refine ge_var 3 rfl (.inl rfl) rfl ?_
  refine ge_int ?_
  walk_at "i"
  refine ga_nil ?_
  refine ⟨show 3 ≤ sizeLine by decide, ?_⟩
  exact rtq (Ext.refl _) q rfl
theorem sc_Near_forget : FnScope ["self", "key"] ["self", "key"] (defScope s_Near_forget) := ⟨rfl, rfl, rfl, by decide +kernel, rfl, by decide +kernel, by decide +kernel⟩
theorem ok_Near_forget {aNear : Addr} (cl_Near : Cls K aNear) (na_Near__kept : NoAttr K aNear "kept") (A : MAt K aNear "forget" "Near.forget" s_Near_forget ["self", "key"]) : MCal P w K mg base 1 aNear "forget" (sp_Near_forget aNear) := by
  refine mcal_of A sc_Near_forget (fun ds ω Q E h => by obtain ⟨p, A, f, N, t, k, rfl, hat, q⟩ := h; rfl) ?_
  intro X f cdv Ar outer sh H E ds ω Qd Ed hX hr tk h'
  subst hX
  obtain ⟨p, A, f, N, t, k, rfl, hat, q⟩ := h'
  show GSs _ H _ [some (.ref p), some (.str k)] ω _
  show GSs _ _ _ [_, _] _ _
  refine gss_one (gs_if ?_)
  refine gt_cmp rfl ?_
  refine ge_var 1 rfl (.inl rfl) rfl ?_
  refine ge_fld cl_Near na_Near__kept ?_
  refine ge_var 0 rfl (.inl rfl) rfl ?_
  refine ⟨_, _, _, _, rfl, KAt.o (by assumption), nF_kept _ _, ?_⟩
  refine gb_din hr.units (KAt.kept (by assumption)) rfl ?_
  refine ⟨_, rfl, ?_⟩
  refine ⟨fun h1 => ?_, fun h2 => ?_⟩
  · skip
    show GSs _ _ _ [_, _] _ _
    refine gss_one (gs_expr ?_)
    refine ge_dpop ?_
    refine ge_fld cl_Near na_Near__kept ?_
    refine ge_var 0 rfl (.inl rfl) rfl ?_
    refine ⟨_, _, _, _, rfl, KAt.o (by assumption), nF_kept _ _, ?_⟩
    refine ⟨_, rfl, ⟨_, KAt.kept (by assumption)⟩, ?_⟩
    refine ge_var 1 rfl (.inl rfl) rfl ?_
    obtain ⟨x, e1, e2⟩ := din_some h1
    refine ⟨_, _, _, hat.kept, rfl, e2, ?_⟩
    exact rtq (Ext.refl _) (q _ (HKeep.refl.put (na_q A p)) (hat.dropK k)) rfl
  · skip
    refine gss_nil ?_
    have e := din_none h2
    exact rtq (Ext.refl _) (q _ HKeep.refl (by rw [dk_none e]; exact hat)) rfl
theorem sc_is_kept : FnScope ["answer", "fresh"] ["answer"] (defScope s_is_kept) := ⟨rfl, rfl, rfl, by decide +kernel, rfl, by decide +kernel, by decide +kernel⟩
theorem ok_is_kept (c_found_value : Cal P w K mg base 1 "found_value" sp_found_value) (c_is_figures : Cal P w K mg base 1 "is_figures" sp_is_figures) (A : DefAt K mg "is_kept" s_is_kept ["answer"]) : Cal P w K mg base 2 "is_kept" sp_is_kept := by
  refine cal_of A sc_is_kept (fun ds ω Q E h => by obtain ⟨a, rfl, q⟩ := h; rfl) ?_
  intro X f cdv Ar outer sh H E ds ω Qd Ed hX hr tk h'
  subst hX
  obtain ⟨a, rfl, q⟩ := h'
  show GSs _ H _ [some (anD a), none] ω _
  show GSs _ _ _ [_, _] _ _
  refine gss_cons (gs_set 1 sc_is_kept.nd rfl (.inl rfl) ?_)
  refine ge_call (Ex := bodyX Ed) c_found_value (hr.mono (by decide)) tk rfl ?_
  refine ga_cons ?_
  refine ge_ix (fun _ _ => rfl) ?_
  refine ge_var 0 rfl (.inl rfl) rfl ?_
  refine ge_int ?_
  walk_at "i"
  refine ga_cons ?_
  refine ge_str [102, 114, 101, 115, 104] (by decide +kernel) ?_
  refine ga_nil ?_
  refine ⟨_, _, rfl, ?_⟩
  rw [valOf_O]
  show GSs _ _ _ [_, _] _ _
  refine gss_cons (gs_if (gt_ev (!(decide (a.1 = 200) && freshK (valO a.2.1 freshS))) ?_ ⟨fun h1 => ?_, fun h2 => ?_⟩))
  · refine gt_bool ?_
    refine gw_or ?_
    refine gt_cmp (nomark _) ?_
    refine ge_ix (fun _ _ => rfl) ?_
    refine ge_var 0 rfl (.inl rfl) rfl ?_
    refine ge_int ?_
    walk_at "i"
    refine ge_int ?_
    refine gb_neI ?_
    refine ⟨_, rfl, ?_⟩
    refine ⟨fun h3 => ?_, fun h4 => ?_⟩
    · skip
      refine ⟨by walk_at "x", ?_⟩
      have h3 : (!decide (((a.1 : Nat) : Int) = 200)) = true := h3
      simp at h3
      rw [decide_eq_false (by omega)]
      rfl
    · have h4 : (!decide (((a.1 : Nat) : Int) = 200)) = false := h4
      simp at h4
      have e1 : a.1 = 200 := by omega
      rw [decide_eq_true e1]
      refine gw_or ?_
      refine gt_cmp (nomark _) ?_
      refine ge_var 1 rfl (.inl rfl) rfl ?_
      refine ge_non ?_
      refine gb_is ?_
      refine ⟨_, rfl, ?_⟩
      refine ⟨fun h5 => ?_, fun h6 => ?_⟩
      · skip
        refine ⟨by walk_at "x", ?_⟩
        rw [isNon_opt] at h5
        cases e : valO a.2.1 freshS with
        | none => rfl
        | some t => rw [e] at h5; cases h5
      · rw [isNon_opt] at h6
        obtain ⟨t, et⟩ : ∃ t, valO a.2.1 freshS = some t := by
          cases e : valO a.2.1 freshS with
          | none => rw [e] at h6; cases h6
          | some o => exact ⟨o, rfl⟩
        rw [et]
        refine gw_or1 ?_
        refine gt_not ?_
        refine gt_truth (by intro _; rfl) ?_
        refine ge_call (Ex := bodyX Ed) c_is_figures (hr.mono (by decide)) tk rfl ?_
        refine ga_cons ?_
        refine ge_var 1 rfl (.inl rfl) rfl ?_
        refine ga_cons ?_
        refine ge_int ?_
        refine ga_nil ?_
        refine ⟨_, _, rfl, ?_⟩
        walk_at "t"
        refine ⟨by walk_at "x", ?_⟩
        rfl
  · show GSs _ _ _ [_, _] _ _
    refine gss_one (gs_ret ?_)
    refine ge_bl ?_
    refine rtq (Ext.refl _) q ?_
    unfold isKept
    have h1 : (decide (a.1 = 200) && freshK (valO a.2.1 freshS)) = false := nb1 h1
    rw [← Bool.and_assoc, h1]
    rfl
  · refine gss_nil ?_
    show GSs _ _ _ [_, _] _ _
    refine gss_one (gs_ret ?_)
    refine ge_cmp (nomark _) ?_
    refine ge_call (Ex := bodyX Ed) c_found_value (hr.mono (by decide)) tk rfl ?_
    refine ga_cons ?_
    refine ge_ix (fun _ _ => rfl) ?_
    refine ge_var 0 rfl (.inl rfl) rfl ?_
    refine ge_int ?_
    walk_at "i"
    refine ga_cons ?_
    refine ge_str [109, 97, 114, 107] (by decide +kernel) ?_
    refine ga_nil ?_
    refine ⟨_, _, rfl, ?_⟩
    rw [valOf_O]
    refine ge_non ?_
    refine gb_isnot ?_
    refine rtq (Ext.refl _) q ?_
    unfold isKept
    have h2 : (decide (a.1 = 200) && freshK (valO a.2.1 freshS)) = true := nb0 h2
    rw [← Bool.and_assoc, h2, Bool.true_and, isNon_opt]
    cases valO a.2.1 markS <;> rfl
theorem sc_Near_far : FnScope ["self", "house", "asking", "now", "word", "path", "heads", "body", "key", "mark", "answer"] ["self", "house", "asking", "now"] (defScope s_Near_far) := ⟨rfl, rfl, rfl, by decide +kernel, rfl, by decide +kernel, by decide +kernel⟩
theorem ok_Near_far {aHouse aBadAsking aNear : Addr} (c_text_of : Cal P w K mg base 3 "text_of" sp_text_of) (cl_Near : Cls K aNear) (na_Near__kept : NoAttr K aNear "kept") (B : Bl mg) (g_MOST : Glob K mg "MOST" (.int 8)) (c_found_value : Cal P w K mg base 1 "found_value" sp_found_value) (cl_House : Cls K aHouse) (mc_House__ask : MCal P w K mg base 7 aHouse "ask" (sp_House_ask aHouse aBadAsking)) (c_put_head : Cal P w K mg base 1 "put_head" sp_put_head) (mc_Near__forget : MCal P w K mg base 1 aNear "forget" (sp_Near_forget aNear)) (c_is_kept : Cal P w K mg base 2 "is_kept" sp_is_kept) (A : MAt K aNear "far" "Near.far" s_Near_far ["self", "house", "asking", "now"]) : MCal P w K mg base 8 aNear "far" (sp_Near_far aNear aHouse aBadAsking) := by
  refine mcal_of A sc_Near_far (fun ds ω Q E h => by obtain ⟨p, A, h, B', S, k, N, t, j, m, now, rfl, hat, hth, dj, hok, hk9, nok, hj9, hm, hwy, hg, hn, q⟩ := h; rfl) ?_
  intro X f cdv Ar outer sh H E ds ω Qd Ed hX hr tk h'
  subst hX
  obtain ⟨p, A, h, B', S, k, N, t, j, m, now, rfl, hat, hth, dj, hok, hk9, nok, hj9, hm, hwy, hg, hn, q⟩ := h'
  show GSs _ H _ [some (.ref p), some (.ref h), some (Msg.D m), some (.int ((now : Nat) : Int)), none, none, none, none, none, none, none] ω _
  have hbig : sizeLine = 16777216 := sizeLine_eq
  have hm0 := hm
  obtain ⟨m1, m2, m3, m4, m5, m6, m7, m8, m9⟩ := hm0
  have hNl := nok.len
  show GSs _ _ _ [_, _, _, _, _, _, _, _, _, _, _] _ _
  refine gss_cons (gs_asg ?_)
  refine ge_var 2 rfl (.inl rfl) rfl ?_
  skip
  refine gg_tup rfl rfl ?_
  refine ggs_cons ?_
  refine gg_name 4 sc_Near_far.nd rfl (.inl rfl) ?_
  refine ggs_cons ?_
  refine gg_name 5 sc_Near_far.nd rfl (.inl rfl) ?_
  refine ggs_cons ?_
  refine gg_name 6 sc_Near_far.nd rfl (.inl rfl) ?_
  refine ggs_cons ?_
  refine gg_name 7 sc_Near_far.nd rfl (.inl rfl) ?_
  refine ggs_nil ?_
  show GSs _ _ _ [_, _, _, _, _, _, _, _, _, _, _] _ _
  refine gss_cons (gs_set 8 sc_Near_far.nd rfl (.inl rfl) ?_)
  refine ge_call (Ex := bodyX Ed) c_text_of (hr.mono (by decide)) tk rfl ?_
  refine ga_cons ?_
  refine ge_var 5 rfl (.inl rfl) rfl ?_
  refine ga_nil ?_
  refine ⟨m.ps, m.as, rfl, by omega, m3, parts_1000 m4, m5, ?_⟩
  show GSs _ _ _ [_, _, _, _, _, _, _, _, _, _, _] _ _
  refine gss_cons (gs_if (gt_ev ((lk N m.key).isSome && decide (m.hs.length < 8)) ?_ ⟨fun h1 => ?_, fun h2 => ?_⟩))
  · refine gt_bool ?_
    refine gw_and ?_
    refine gt_cmp rfl ?_
    refine ge_var 8 rfl (.inl rfl) rfl ?_
    refine ge_fld cl_Near na_Near__kept ?_
    refine ge_var 0 rfl (.inl rfl) rfl ?_
    refine ⟨_, _, _, _, rfl, KAt.o (by assumption), nF_kept _ _, ?_⟩
    refine gb_din hr.units (KAt.kept (by assumption)) rfl ?_
    refine ⟨_, rfl, ?_⟩
    refine ⟨fun h3 => ?_, fun h4 => ?_⟩
    · obtain ⟨e, he, e2⟩ := din_some h3
      rw [he]
      refine gw_and1 ?_
      refine gt_cmp (nomark _) ?_
      refine ge_callB B.«len» rfl bb_len ?_
      refine ga_cons ?_
      refine ge_var 6 rfl (.inl rfl) rfl ?_
      refine ga_nil ?_
      walk_at "c"
      refine ge_glob g_MOST rfl ?_
      refine gb_lt ?_
      refine ⟨_, rfl, ?_⟩
      refine ⟨by walk_at "x", ?_⟩
      show decide (((m.hs.map hdD).length : Int) < 8) = decide (m.hs.length < 8)
      rw [List.length_map, decide_eq_decide]
      omega
    · have he := din_none h4
      rw [he]
      refine ⟨by walk_at "x", ?_⟩
      rfl
  · show GSs _ _ _ [_, _, _, _, _, _, _, _, _, _, _] _ _
    refine gss_cons (gs_set 9 sc_Near_far.nd rfl (.inl rfl) ?_)
    refine ge_call (Ex := bodyX Ed) c_found_value (hr.mono (by decide)) tk rfl ?_
    refine ga_cons ?_
    refine ge_ix (fun _ _ => rfl) ?_
    refine ge_ix (fun _ _ => rfl) ?_
    refine ge_dget hr.units (fun _ _ => rfl) ?_
    refine ge_fld cl_Near na_Near__kept ?_
    refine ge_var 0 rfl (.inl rfl) rfl ?_
    refine ⟨_, _, _, _, rfl, KAt.o (by assumption), nF_kept _ _, ?_⟩
    refine ge_var 8 rfl (.inl rfl) rfl ?_
    rw [Bool.and_eq_true] at h1
    have h8 := of_decide_eq_true h1.2
    obtain ⟨e, he⟩ := Option.isSome_iff_exists.mp h1.1
    refine ⟨_, _, _, _, rfl, hat.kept, rfl, din_at he, ?_⟩
    refine ge_int ?_
    walk_at "i"
    refine ge_int ?_
    walk_at "i"
    refine ga_cons ?_
    refine ge_str [109, 97, 114, 107] (by decide +kernel) ?_
    refine ga_nil ?_
    refine ⟨_, _, rfl, ?_⟩
    rw [show valOf [(markS, markT e.1.2), (freshS, TL.numL S.fresh)] [109, 97, 114, 107] = .str (markT e.1.2) from rfl]
    show GSs _ _ _ [_, _, _, _, _, _, _, _, _, _, _] _ _
    refine gss_cons (gs_set 10 sc_Near_far.nd rfl (.inl rfl) ?_)
    refine ge_meth (Ex := bodyX Ed) mc_House__ask cl_House (hr.mono (by decide)) tk ?_
    refine ge_var 1 rfl (.inl rfl) rfl ?_
    refine ⟨_, _, _, rfl, HAt.o (by assumption), hF_no (by decide +kernel), ?_⟩
    refine ga_cons ?_
    refine ge_tup ?_
    refine ga_cons ?_
    refine ge_var 4 rfl (.inl rfl) rfl ?_
    refine ga_cons ?_
    refine ge_var 5 rfl (.inl rfl) rfl ?_
    refine ga_cons ?_
    refine ge_call (Ex := bodyX Ed) c_put_head (hr.mono (by decide)) tk rfl ?_
    refine ga_cons ?_
    refine ge_var 6 rfl (.inl rfl) rfl ?_
    refine ga_cons ?_
    refine ge_str [117, 110, 108, 101, 115, 115] (by decide +kernel) ?_
    refine ga_cons ?_
    refine ge_var 9 rfl (.inl rfl) rfl ?_
    refine ga_nil ?_
    refine ⟨m.hs, unlessS, markT e.1.2, rfl, by omega, ?_⟩
    rw [putH_new (needs_ne hn)]
    refine ga_cons ?_
    refine ge_var 7 rfl (.inl rfl) rfl ?_
    refine ga_nil ?_
    refine ⟨show 4 ≤ sizeLine by decide, ?_⟩
    refine ga_nil ?_
    have hen : e.1.2 < 10 ^ 18 := by
      have := (nok.body _ (lk_mem he)).2.2.1
      have : e.1.2 ≤ j := this
      omega
    refine ⟨h, (m.unl e.1.2).D, rfl, msg_kn _ _ _ _ _ _, ⟨B', S, k, hth, hok, hk9, fun m' e' hm' ω3 kp hath => ?_⟩, fun hz => by rw [msg_ok (unl_ok hm h8 hen)] at hz; cases hz⟩
    cases Msg.inj e'
    rw [ask_renew he h8 hwy hg hn] at hath ⊢
    have hat3 := hat.keep kp dj
    show GSs _ _ _ [_, _, _, _, _, _, _, _, _, _, _] _ _
    refine gss_one (gs_if ?_)
    refine gt_cmp (nomark _) ?_
    refine ge_ix (fun _ _ => rfl) ?_
    refine ge_var 10 rfl (.inl rfl) rfl ?_
    refine ge_int ?_
    walk_at "i"
    refine ge_int ?_
    refine gb_eqI ?_
    refine ⟨_, rfl, ?_⟩
    refine ⟨fun h5 => ?_, fun h6 => ?_⟩
    · obtain ⟨e', hre⟩ : ∃ e', renewF S N m = some e' := by
        cases hre : renewF S N m with
        | some e' => exact ⟨e', rfl⟩
        | none =>
          rw [hre] at h5
          have h5 : decide ((((plainF S m.key).1 : Nat) : Int) = 304) = true := h5
          rw [plain_code] at h5
          split at h5 <;> cases h5
      have hee := (renew_at hre).1
      rw [he] at hee
      cases hee
      show GSs _ _ _ [_, _, _, _, _, _, _, _, _, _, _] _ _
      refine gss_cons (gs_dput hr.units ?_)
      refine ge_tup ?_
      refine ga_cons ?_
      refine ge_ix (fun _ _ => rfl) ?_
      refine ge_dget hr.units (fun _ _ => rfl) ?_
      refine ge_fld cl_Near na_Near__kept ?_
      refine ge_var 0 rfl (.inl rfl) rfl ?_
      refine ⟨_, _, _, _, rfl, KAt.o (by assumption), nF_kept _ _, ?_⟩
      refine ge_var 8 rfl (.inl rfl) rfl ?_
      refine ⟨_, _, _, _, rfl, hat3.kept, rfl, din_at he, ?_⟩
      refine ge_int ?_
      walk_at "i"
      refine ga_cons ?_
      refine ge_var 3 rfl (.inl rfl) rfl ?_
      refine ga_nil ?_
      refine ⟨show 2 ≤ sizeLine by decide, ?_⟩
      refine ge_fld cl_Near na_Near__kept ?_
      refine ge_var 0 rfl (.inl rfl) rfl ?_
      refine ⟨_, _, _, _, rfl, KAt.o (by assumption), nF_kept _ _, ?_⟩
      refine ge_var 8 rfl (.inl rfl) rfl ?_
      refine ⟨_, _, _, rfl, hat3.kept, rfl, (by rw [asD_len]; omega), ?_⟩
      have hat4 := hat3.putK m.key (e.1, now)
      show GSs _ _ _ [_, _, _, _, _, _, _, _, _, _, _] _ _
      refine gss_one (gs_ret ?_)
      refine ge_tup ?_
      refine ga_cons ?_
      refine ge_str [114, 101, 110, 101, 119, 101, 100] (by decide +kernel) ?_
      refine ga_cons ?_
      refine ge_ix (fun _ _ => rfl) ?_
      refine ge_dget hr.units (fun _ _ => rfl) ?_
      refine ge_fld cl_Near na_Near__kept ?_
      refine ge_var 0 rfl (.inl rfl) rfl ?_
      refine ⟨_, _, _, _, rfl, KAt.o (by assumption), nF_kept _ _, ?_⟩
      refine ge_var 8 rfl (.inl rfl) rfl ?_
      refine ⟨_, _, _, _, rfl, hat4.kept, rfl, din_at (show lk (pk N m.key (e.1, now)) m.key = some (e.1, now) by rw [lk_pk, if_pos rfl]), ?_⟩
      refine ge_int ?_
      walk_at "i"
      refine ga_nil ?_
      refine ⟨show 2 ≤ sizeLine by decide, ?_⟩
      rw [far_ren hre] at q
      refine rtq (Ext.refl _) (q _ ?_ hat4 (hath.off (fun hz => dj _ (na_q A p) hz))) rfl
      exact (kp.more (fun x hx => List.mem_append_right _ hx)).put (List.mem_append_left _ (na_q A p))
    · have hre : renewF S N m = none := by
        cases hre : renewF S N m with
        | none => rfl
        | some e' => rw [hre] at h6; cases h6
      rw [hre]
      refine gss_nil ?_
      show GSs _ _ _ [_, _, _, _, _, _, _, _, _, _, _] _ _
      refine gss_cons (gs_expr ?_)
      refine ge_meth (Ex := bodyX Ed) mc_Near__forget cl_Near (hr.mono (by decide)) tk ?_
      refine ge_var 0 rfl (.inl rfl) rfl ?_
      refine ⟨_, _, _, rfl, KAt.o (by assumption), nF_no (by decide +kernel), ?_⟩
      refine ga_cons ?_
      refine ge_var 8 rfl (.inl rfl) rfl ?_
      refine ga_nil ?_
      refine ⟨p, A, S.fresh, N, t, _, rfl, hat3, fun ω4 k4 hat4 => ?_⟩
      have hath4 := hath.keep k4 (disj_sym dj)
      have kk := (kp.more (fun x hx => List.mem_append_right (A.all p) hx)).trans (k4.more (fun x hx => List.mem_append_left (B'.all h) hx))
      show GSs _ _ _ [_, _, _, _, _, _, _, _, _, _, _] _ _
      refine gss_cons (gs_if ?_)
      refine gt_truth (by intro _; rfl) ?_
      refine ge_call (Ex := bodyX Ed) c_is_kept (hr.mono (by decide)) tk rfl ?_
      refine ga_cons ?_
      refine ge_var 10 rfl (.inl rfl) rfl ?_
      refine ga_nil ?_
      refine ⟨_, rfl, ?_⟩
      rw [isKept_plain hok.fresh]
      walk_at "t"
      refine ⟨fun h7 => ?_, fun h8 => ?_⟩
      · obtain ⟨x, ex⟩ := Option.isSome_iff_exists.mp h7
        show GSs _ _ _ [_, _, _, _, _, _, _, _, _, _, _] _ _
        refine gss_one (gs_dput hr.units ?_)
        refine ge_tup ?_
        refine ga_cons ?_
        refine ge_var 10 rfl (.inl rfl) rfl ?_
        refine ga_cons ?_
        refine ge_var 3 rfl (.inl rfl) rfl ?_
        refine ga_nil ?_
        refine ⟨show 2 ≤ sizeLine by decide, ?_⟩
        refine ge_fld cl_Near na_Near__kept ?_
        refine ge_var 0 rfl (.inl rfl) rfl ?_
        refine ⟨_, _, _, _, rfl, KAt.o (by assumption), nF_kept _ _, ?_⟩
        refine ge_var 8 rfl (.inl rfl) rfl ?_
        refine ⟨_, _, _, rfl, hat4.kept, rfl, (by rw [asD_len]; have : (dk N (textP m.ps m.as)).length ≤ N.length := dk_len N m.key; omega), ?_⟩
        rw [plain_some ex]
        have hat5 := hat4.putK m.key (x, now)
        show GSs _ _ _ [_, _, _, _, _, _, _, _, _, _, _] _ _
        refine gss_one (gs_ret ?_)
        refine ge_tup ?_
        refine ga_cons ?_
        refine ge_str [102, 97, 114] (by decide +kernel) ?_
        refine ga_cons ?_
        refine ge_var 10 rfl (.inl rfl) rfl ?_
        refine ga_nil ?_
        refine ⟨show 2 ≤ sizeLine by decide, ?_⟩
        rw [far_far hre, after_some ex, plain_some ex] at q
        exact rtq (Ext.refl _) (q _ (kk.put (List.mem_append_left _ (na_q A p))) hat5 (hath4.off (fun hz => dj _ (na_q A p) hz))) rfl
      · have ex : lk S.held m.key = none := Option.not_isSome_iff_eq_none.mp (by rw [‹(lk S.held m.key).isSome = false›]; exact Bool.false_ne_true)
        refine gss_nil ?_
        show GSs _ _ _ [_, _, _, _, _, _, _, _, _, _, _] _ _
        refine gss_one (gs_ret ?_)
        refine ge_tup ?_
        refine ga_cons ?_
        refine ge_str [102, 97, 114] (by decide +kernel) ?_
        refine ga_cons ?_
        refine ge_var 10 rfl (.inl rfl) rfl ?_
        refine ga_nil ?_
        refine ⟨show 2 ≤ sizeLine by decide, ?_⟩
        rw [far_far hre, after_none ex] at q
        exact rtq (Ext.refl _) (q _ kk hat4 hath4) rfl
  · show GSs _ _ _ [_, _, _, _, _, _, _, _, _, _, _] _ _
    refine gss_one (gs_set 10 sc_Near_far.nd rfl (.inl rfl) ?_)
    refine ge_meth (Ex := bodyX Ed) mc_House__ask cl_House (hr.mono (by decide)) tk ?_
    refine ge_var 1 rfl (.inl rfl) rfl ?_
    refine ⟨_, _, _, rfl, HAt.o (by assumption), hF_no (by decide +kernel), ?_⟩
    refine ga_cons ?_
    refine ge_var 2 rfl (.inl rfl) rfl ?_
    refine ga_nil ?_
    refine ⟨h, m.D, rfl, msg_kn _ _ _ _ _ _, ⟨B', S, k, hth, hok, hk9, fun m' e' hm' ω3 kp hath => ?_⟩, fun hz => by rw [msg_ok hm] at hz; cases hz⟩
    cases Msg.inj e'
    rw [ask_plainF hwy hg hn] at hath ⊢
    have hat3 := hat.keep kp dj
    have hre := renew_no1 (S := S) h2
    show GSs _ _ _ [_, _, _, _, _, _, _, _, _, _, _] _ _
    refine gss_cons (gs_expr ?_)
    refine ge_meth (Ex := bodyX Ed) mc_Near__forget cl_Near (hr.mono (by decide)) tk ?_
    refine ge_var 0 rfl (.inl rfl) rfl ?_
    refine ⟨_, _, _, rfl, KAt.o (by assumption), nF_no (by decide +kernel), ?_⟩
    refine ga_cons ?_
    refine ge_var 8 rfl (.inl rfl) rfl ?_
    refine ga_nil ?_
    refine ⟨p, A, S.fresh, N, t, _, rfl, hat3, fun ω4 k4 hat4 => ?_⟩
    have hath4 := hath.keep k4 (disj_sym dj)
    have kk := (kp.more (fun x hx => List.mem_append_right (A.all p) hx)).trans (k4.more (fun x hx => List.mem_append_left (B'.all h) hx))
    show GSs _ _ _ [_, _, _, _, _, _, _, _, _, _, _] _ _
    refine gss_cons (gs_if ?_)
    refine gt_truth (by intro _; rfl) ?_
    refine ge_call (Ex := bodyX Ed) c_is_kept (hr.mono (by decide)) tk rfl ?_
    refine ga_cons ?_
    refine ge_var 10 rfl (.inl rfl) rfl ?_
    refine ga_nil ?_
    refine ⟨_, rfl, ?_⟩
    rw [isKept_plain hok.fresh]
    walk_at "t"
    refine ⟨fun h9 => ?_, fun h10 => ?_⟩
    · obtain ⟨x, ex⟩ := Option.isSome_iff_exists.mp h9
      show GSs _ _ _ [_, _, _, _, _, _, _, _, _, _, _] _ _
      refine gss_one (gs_dput hr.units ?_)
      refine ge_tup ?_
      refine ga_cons ?_
      refine ge_var 10 rfl (.inl rfl) rfl ?_
      refine ga_cons ?_
      refine ge_var 3 rfl (.inl rfl) rfl ?_
      refine ga_nil ?_
      refine ⟨show 2 ≤ sizeLine by decide, ?_⟩
      refine ge_fld cl_Near na_Near__kept ?_
      refine ge_var 0 rfl (.inl rfl) rfl ?_
      refine ⟨_, _, _, _, rfl, KAt.o (by assumption), nF_kept _ _, ?_⟩
      refine ge_var 8 rfl (.inl rfl) rfl ?_
      refine ⟨_, _, _, rfl, hat4.kept, rfl, (by rw [asD_len]; have : (dk N (textP m.ps m.as)).length ≤ N.length := dk_len N m.key; omega), ?_⟩
      rw [plain_some ex]
      have hat5 := hat4.putK m.key (x, now)
      show GSs _ _ _ [_, _, _, _, _, _, _, _, _, _, _] _ _
      refine gss_one (gs_ret ?_)
      refine ge_tup ?_
      refine ga_cons ?_
      refine ge_str [102, 97, 114] (by decide +kernel) ?_
      refine ga_cons ?_
      refine ge_var 10 rfl (.inl rfl) rfl ?_
      refine ga_nil ?_
      refine ⟨show 2 ≤ sizeLine by decide, ?_⟩
      rw [far_far hre, after_some ex, plain_some ex] at q
      exact rtq (Ext.refl _) (q _ (kk.put (List.mem_append_left _ (na_q A p))) hat5 (hath4.off (fun hz => dj _ (na_q A p) hz))) rfl
    · have ex : lk S.held m.key = none := Option.not_isSome_iff_eq_none.mp (by rw [‹(lk S.held m.key).isSome = false›]; exact Bool.false_ne_true)
      refine gss_nil ?_
      show GSs _ _ _ [_, _, _, _, _, _, _, _, _, _, _] _ _
      refine gss_one (gs_ret ?_)
      refine ge_tup ?_
      refine ga_cons ?_
      refine ge_str [102, 97, 114] (by decide +kernel) ?_
      refine ga_cons ?_
      refine ge_var 10 rfl (.inl rfl) rfl ?_
      refine ga_nil ?_
      refine ⟨show 2 ≤ sizeLine by decide, ?_⟩
      rw [far_far hre, after_none ex] at q
      exact rtq (Ext.refl _) (q _ kk hat4 hath4) rfl
theorem sc_Near_ask : FnScope ["self", "house", "asking", "now", "key", "head", "answer"] ["self", "house", "asking", "now"] (defScope s_Near_ask) := ⟨rfl, rfl, rfl, by decide +kernel, rfl, by decide +kernel, by decide +kernel⟩
theorem ok_Near_ask {aBadAsking aHouse aNear aBadNumber : Addr} (c_checked_asking : Cal P w K mg base 6 "checked_asking" (sp_checked_asking aBadAsking)) (c_is_within : Cal P w K mg base 1 "is_within" sp_is_within) (cl_Near : Cls K aNear) (na_Near__last : NoAttr K aNear "last") (x_BadNumber : ExcC K mg "BadNumber" aBadNumber) (c_text_of : Cal P w K mg base 3 "text_of" sp_text_of) (cl_House : Cls K aHouse) (mc_House__ask : MCal P w K mg base 7 aHouse "ask" (sp_House_ask aHouse aBadAsking)) (na_Near__kept : NoAttr K aNear "kept") (mc_Near__is_fresh : MCal P w K mg base 2 aNear "is_fresh" (sp_Near_is_fresh aNear)) (mc_Near__aged : MCal P w K mg base 2 aNear "aged" (sp_Near_aged aNear)) (mc_Near__far : MCal P w K mg base 8 aNear "far" (sp_Near_far aNear aHouse aBadAsking)) (mc_Near__forget : MCal P w K mg base 1 aNear "forget" (sp_Near_forget aNear)) (A : MAt K aNear "ask" "Near.ask" s_Near_ask ["self", "house", "asking", "now"]) : MCal P w K mg base 9 aNear "ask" (sp_Near_ask aNear aHouse aBadAsking aBadNumber) := by
  refine mcal_of A sc_Near_ask (fun ds ω Q E h => by obtain ⟨p, A, h, B', S, k, N, t, j, m, now, rfl, hat0, hth0, dj, hok, hk9, nok, hj9, hm, hwy, ht, hnow, hNt, q⟩ := h; rfl) ?_
  intro X f cdv Ar outer sh H E ds ω Qd Ed hX hr tk h'
  subst hX
  obtain ⟨p, A, h, B', S, k, N, t, j, m, now, rfl, hat0, hth0, dj, hok, hk9, nok, hj9, hm, hwy, ht, hnow, hNt, q⟩ := h'
  show GSs _ H _ [some (.ref p), some (.ref h), some (Msg.D m), some (.int ((now : Nat) : Int)), none, none, none] ω _
  have hbig : sizeLine = 16777216 := sizeLine_eq
  have hm0 := hm
  obtain ⟨m1, m2, m3, m4, m5, m6, m7, m8, m9⟩ := hm0
  have hNl := nok.len
  have hwk : lk S.ways m.key = none := by rw [hwy]; rfl
  show GSs _ _ _ [_, _, _, _, _, _, _] _ _
  refine gss_cons (gs_expr ?_)
  refine ge_call (Ex := bodyX Ed) c_checked_asking (hr.mono (by decide)) tk rfl ?_
  refine ga_cons ?_
  refine ge_var 2 rfl (.inl rfl) rfl ?_
  refine ga_nil ?_
  refine ⟨_, rfl, msg_kn _ _ _ _ _ _, fun _ => ?_, fun hz => by rw [msg_ok hm] at hz; cases hz⟩
  show GSs _ _ _ [_, _, _, _, _, _, _] _ _
  refine gss_cons (gs_if ?_)
  refine gt_not ?_
  refine gt_truth (by intro _; rfl) ?_
  refine ge_call (Ex := bodyX Ed) c_is_within (hr.mono (by decide)) tk rfl ?_
  refine ga_cons ?_
  refine ge_var 3 rfl (.inl rfl) rfl ?_
  refine ga_cons ?_
  refine ge_fld cl_Near na_Near__last ?_
  refine ge_var 0 rfl (.inl rfl) rfl ?_
  refine ⟨_, _, _, _, rfl, KAt.o (by assumption), nF_last _ _, ?_⟩
  refine ga_cons ?_
  refine ge_int ?_
  refine ga_nil ?_
  refine ⟨_, _, _, rfl, rfl, ?_⟩
  walk_at "t"
  refine ⟨fun h1 => ?_, fun h2 => ?_⟩
  · skip
    show GSs _ _ _ [_, _, _, _, _, _, _] _ _
    refine gss_one (gs_raise rfl tk (pmk_exc x_BadNumber rfl) ?_)
    have hw : withinD (.int ((now : Nat) : Int)) ((t : Nat) : Int) 9999 = true := by
      show (decide (((t : Nat) : Int) ≤ ((now : Nat) : Int)) && decide (((now : Nat) : Int) ≤ 9999)) = true
      rw [decide_eq_true (by omega), decide_eq_true (by omega)]
      rfl
    have h1 := nb1 h1
    rw [hw] at h1
    cases h1
  · skip
    refine gss_nil ?_
    show GSs _ _ _ [_, _, _, _, _, _, _] _ _
    refine gss_cons (gs_fld cl_Near na_Near__last ?_)
    refine ge_var 3 rfl (.inl rfl) rfl ?_
    refine ge_var 0 rfl (.inl rfl) rfl ?_
    refine ⟨_, _, _, rfl, hat0.o, (show 2 < 1000 by decide), ?_⟩
    have hat := hat0.last now
    generalize hM : MO.ins aNear A.dx (fputD "last" (.int ((now : Nat) : Int)) (nFs A t)) = M at hat
    have hth : HAt aHouse (put ω p M) h B' S := hth0.off (fun hz => dj _ (na_p A p) hz)
    have k0 : HKeep (A.all p ++ B'.all h) ω (put ω p M) := HKeep.refl.put (List.mem_append_left _ (na_p A p))
    show GSs _ _ _ [_, _, _, _, _, _, _] _ _
    refine gss_cons (gs_set 4 sc_Near_ask.nd rfl (.inl rfl) ?_)
    refine ge_call (Ex := bodyX Ed) c_text_of (hr.mono (by decide)) tk rfl ?_
    refine ga_cons ?_
    refine ge_ix (fun _ _ => rfl) ?_
    refine ge_var 2 rfl (.inl rfl) rfl ?_
    refine ge_int ?_
    walk_at "i"
    refine ga_nil ?_
    refine ⟨m.ps, m.as, rfl, by omega, m3, parts_1000 m4, m5, ?_⟩
    show GSs _ _ _ [_, _, _, _, _, _, _] _ _
    refine gss_cons (gs_if ?_)
    refine gt_cmp (nomark _) ?_
    refine ge_ix (fun _ _ => rfl) ?_
    refine ge_var 2 rfl (.inl rfl) rfl ?_
    refine ge_int ?_
    walk_at "i"
    refine ge_str [103, 101, 116] (by decide +kernel) ?_
    refine gb_eqS ?_
    refine ⟨_, rfl, ?_⟩
    refine ⟨fun h3 => ?_, fun h4 => ?_⟩
    · have hg : m.w = getS := of_decide_eq_true h3
      show GSs _ _ _ [_, _, _, _, _, _, _] _ _
      refine gss_cons (gs_if ?_)
      refine gt_truth (by intro _; rfl) ?_
      refine ge_lc (own := [("head", 5)]) (js := [5]) (split := sp1) rfl sc_Near_ask.nd tg_name (by decide) (blkOk_by (own := [("head", 5)]) (N := ["self", "house", "asking", "now", "key", "head", "answer"]) (sc := defScope s_Near_ask) (by decide +kernel)) (fun _ _ _ _ _ => pg_name (i := 5) sc_Near_ask.nd rfl (Or.inl rfl)) ?_
      refine gj_tup ?_
      refine ge_ix (fun _ _ => rfl) ?_
      refine ge_var 2 rfl (.inl rfl) rfl ?_
      refine ge_int ?_
      walk_at "i"
      walk_at "j"
      try intro hz
      refine lc_pure (fun d => needD d) (fun d => d) (by rw [List.length_map]; omega) (fun _ x => by first | trivial | exact x _ _ (by walk_at "o")) ?_ ?_
      · rintro d ω1 hd x1
        obtain ⟨y, hy, rfl⟩ := List.mem_map.mp hd
        refine ⟨_, rfl, fun s H C cl fp => ?_, fun hc s H C cl fp => ?_⟩
        · refine gt_cmp rfl ?_
          refine ge_ix (fun _ _ => rfl) ?_
          refine ge_var 5 rfl (.inl rfl) rfl ?_
          refine ge_int ?_
          walk_at "i"
          refine ge_tup ?_
          refine ga_cons ?_
          refine ge_str [111, 110, 99, 101] (by decide +kernel) ?_
          refine ga_cons ?_
          refine ge_str [112, 97, 114, 116] (by decide +kernel) ?_
          refine ga_cons ?_
          refine ge_str [117, 110, 108, 101, 115, 115] (by decide +kernel) ?_
          refine ga_nil ?_
          refine ⟨show 3 ≤ sizeLine by decide, ?_⟩
          refine gb_inT (ys := [onceS, partS, unlessS]) ?_
          refine ⟨_, rfl, ?_⟩
          refine ⟨by walk_at "x", ?_⟩
          show decide (y.1 ∈ [onceS, partS, unlessS]) = (decide (y.1 = onceS) || (decide (y.1 = partS) || decide (y.1 = unlessS)))
          rw [Bool.eq_iff_iff]
          simp
        · refine ge_var 5 rfl (.inl rfl) rfl ?_
          refine ⟨by walk_at "x", ?_⟩
          walk_at "eq"
      · intro p5 np6
        walk_at "t"
        refine ⟨fun h7 => ?_, fun h8 => ?_⟩
        · have hnd : needs m.hs = true := by
            have e := needs_filter m.hs
            cases en : needs m.hs with
            | true => rfl
            | false => rw [en] at e; rw [of_decide_eq_true e] at h7; cases h7
          have hF : nearFn S N m now = ((farS, (askFn S m).1), (askFn S m).2, N) := by
            unfold nearFn
            rw [if_pos hg, if_pos hnd]
          rw [hF] at q
          have hat2 := hat.ext (Ext.new (m := .lst (((m.hs.map hdD).filter needD).map fun d => d)) np6)
          have hth2 := hth.ext (Ext.new (m := .lst (((m.hs.map hdD).filter needD).map fun d => d)) np6)
          show GSs _ _ _ [_, _, _, _, _, _, _] _ _
          refine gss_one (gs_ret ?_)
          refine ge_tup ?_
          refine ga_cons ?_
          refine ge_str [102, 97, 114] (by decide +kernel) ?_
          refine ga_cons ?_
          refine ge_meth (Ex := bodyX Ed) mc_House__ask cl_House (hr.mono (by decide)) tk ?_
          refine ge_var 1 rfl (.inl rfl) rfl ?_
          refine ⟨_, _, _, rfl, HAt.o (by assumption), hF_no (by decide +kernel), ?_⟩
          refine ga_cons ?_
          refine ge_var 2 rfl (.inl rfl) rfl ?_
          refine ga_nil ?_
          refine ⟨h, m.D, rfl, msg_kn _ _ _ _ _ _, ⟨B', S, k, hth2, hok, hk9, fun m' e' hm' ω3 kp hath => ?_⟩, fun hz => by rw [msg_ok hm] at hz; cases hz⟩
          cases Msg.inj e'
          refine ga_nil ?_
          refine ⟨show 2 ≤ sizeLine by decide, ?_⟩
          exact rtq (Ext.refl _) (q _ ((k0.ext (Ext.new np6)).trans (kp.more (fun x hx => List.mem_append_right _ hx))) (hat2.keep kp dj) hath) rfl
        · have hn : needs m.hs = false := by
            have e := needs_filter m.hs
            cases en : needs m.hs with
            | false => rfl
            | true =>
              rw [en] at e
              have e := of_decide_eq_false e
              exact absurd (List.eq_nil_of_length_eq_zero (by simpa using h8)) e
          have hat2 := hat.ext (Ext.new (m := .lst (((m.hs.map hdD).filter needD).map fun d => d)) np6)
          have hth2 := hth.ext (Ext.new (m := .lst (((m.hs.map hdD).filter needD).map fun d => d)) np6)
          have k2 := k0.ext (Ext.new (m := .lst (((m.hs.map hdD).filter needD).map fun d => d)) np6)
          refine gss_nil ?_
          show GSs _ _ _ [_, _, _, _, _, _, _] _ _
          refine gss_cons (gs_if (gt_ev (match lk N m.key with
  | none => false
  | some e => decide (now < e.2 + S.fresh)) ?_ ⟨fun h9 => ?_, fun h10 => ?_⟩))
          · refine gt_bool ?_
            refine gw_and ?_
            refine gt_cmp rfl ?_
            refine ge_var 4 rfl (.inl rfl) rfl ?_
            refine ge_fld cl_Near na_Near__kept ?_
            refine ge_var 0 rfl (.inl rfl) rfl ?_
            refine ⟨_, _, _, _, rfl, KAt.o (by assumption), nF_kept _ _, ?_⟩
            refine gb_din hr.units (KAt.kept (by assumption)) rfl ?_
            refine ⟨_, rfl, ?_⟩
            refine ⟨fun h11 => ?_, fun h12 => ?_⟩
            · obtain ⟨e, he, e2⟩ := din_some h11
              rw [he]
              refine gw_and1 ?_
              refine gt_truth (by intro _; rfl) ?_
              refine ge_meth (Ex := bodyX Ed) mc_Near__is_fresh cl_Near (hr.mono (by decide)) tk ?_
              refine ge_var 0 rfl (.inl rfl) rfl ?_
              refine ⟨_, _, _, rfl, KAt.o (by assumption), nF_no (by decide +kernel), ?_⟩
              refine ga_cons ?_
              refine ge_var 4 rfl (.inl rfl) rfl ?_
              refine ga_cons ?_
              refine ge_var 3 rfl (.inl rfl) rfl ?_
              refine ga_nil ?_
              refine ⟨p, A, _, N, _, _, e, now, rfl, hat2, hok.fresh, he, ?_⟩
              walk_at "t"
              refine ⟨by walk_at "x", ?_⟩
              walk_at "eq"
            · have he := din_none h12
              rw [he]
              refine ⟨by walk_at "x", ?_⟩
              walk_at "eq"
          · show GSs _ _ _ [_, _, _, _, _, _, _] _ _
            refine gss_one (gs_ret ?_)
            refine ge_tup ?_
            refine ga_cons ?_
            refine ge_str [99, 111, 112, 121] (by decide +kernel) ?_
            refine ga_cons ?_
            refine ge_meth (Ex := bodyX Ed) mc_Near__aged cl_Near (hr.mono (by decide)) tk ?_
            refine ge_var 0 rfl (.inl rfl) rfl ?_
            refine ⟨_, _, _, rfl, KAt.o (by assumption), nF_no (by decide +kernel), ?_⟩
            refine ga_cons ?_
            refine ge_var 4 rfl (.inl rfl) rfl ?_
            refine ga_cons ?_
            refine ge_var 3 rfl (.inl rfl) rfl ?_
            refine ga_nil ?_
            obtain ⟨e, he⟩ : ∃ e, lk N m.key = some e := by
              cases eN : lk N m.key with
              | none => rw [eN] at h9; cases h9
              | some e => exact ⟨e, rfl⟩
            rw [he] at h9
            have h9 := of_decide_eq_true h9
            refine ⟨p, A, _, N, _, _, e, now, rfl, hat2, he, hNt _ (lk_mem he), hnow, ?_⟩
            refine ga_nil ?_
            refine ⟨show 2 ≤ sizeLine by decide, ?_⟩
            have hF : nearFn S N m now = ((copyS, ageF S.fresh e now), S, N) := by
              unfold nearFn
              rw [if_pos hg, if_neg (by rw [hn]; exact Bool.false_ne_true), he]
              simp only []
              rw [if_pos h9]
            rw [hF] at q
            exact rtq (Ext.refl _) (q _ k2 hat2 hth2) rfl
          · refine gss_nil ?_
            show GSs _ _ _ [_, _, _, _, _, _, _] _ _
            refine gss_one (gs_ret ?_)
            refine ge_meth (Ex := bodyX Ed) mc_Near__far cl_Near (hr.mono (by decide)) tk ?_
            refine ge_var 0 rfl (.inl rfl) rfl ?_
            refine ⟨_, _, _, rfl, KAt.o (by assumption), nF_no (by decide +kernel), ?_⟩
            refine ga_cons ?_
            refine ge_var 1 rfl (.inl rfl) rfl ?_
            refine ga_cons ?_
            refine ge_var 2 rfl (.inl rfl) rfl ?_
            refine ga_cons ?_
            refine ge_var 3 rfl (.inl rfl) rfl ?_
            refine ga_nil ?_
            have hF : nearFn S N m now = ((farF S N m now).1, S, (farF S N m now).2) := by
              unfold nearFn
              rw [if_pos hg, if_neg (by rw [hn]; exact Bool.false_ne_true)]
              cases he : lk N m.key with
              | none => rfl
              | some e =>
                rw [he] at h10
                simp only []
                rw [if_neg (of_decide_eq_false h10)]
            rw [hF] at q
            refine ⟨p, A, h, B', S, k, N, _, j, m, now, rfl, hat2, hth2, dj, hok, hk9, nok, hj9, hm, hwk, hg, hn, fun ω4 k4 hat4 hth4 => ?_⟩
            exact rtq (Ext.refl _) (q _ (k2.trans k4) hat4 hth4) rfl
    · have hg : ¬ m.w = getS := of_decide_eq_false h4
      have hF : nearFn S N m now = ((farS, (askFn S m).1), (askFn S m).2, if (askFn S m).1.1 < 400 then dk N m.key else N) := by
        unfold nearFn
        rw [if_neg hg]
      rw [hF] at q
      refine gss_nil ?_
      show GSs _ _ _ [_, _, _, _, _, _, _] _ _
      refine gss_cons (gs_set 6 sc_Near_ask.nd rfl (.inl rfl) ?_)
      refine ge_meth (Ex := bodyX Ed) mc_House__ask cl_House (hr.mono (by decide)) tk ?_
      refine ge_var 1 rfl (.inl rfl) rfl ?_
      refine ⟨_, _, _, rfl, HAt.o (by assumption), hF_no (by decide +kernel), ?_⟩
      refine ga_cons ?_
      refine ge_var 2 rfl (.inl rfl) rfl ?_
      refine ga_nil ?_
      refine ⟨h, m.D, rfl, msg_kn _ _ _ _ _ _, ⟨B', S, k, hth, hok, hk9, fun m' e' hm' ω3 kp hath => ?_⟩, fun hz => by rw [msg_ok hm] at hz; cases hz⟩
      cases Msg.inj e'
      have hat3 := hat.keep kp dj
      have k3 := k0.trans (kp.more (fun x hx => List.mem_append_right _ hx))
      show GSs _ _ _ [_, _, _, _, _, _, _] _ _
      refine gss_cons (gs_if ?_)
      refine gt_cmp (nomark _) ?_
      refine ge_ix (fun _ _ => rfl) ?_
      refine ge_var 6 rfl (.inl rfl) rfl ?_
      refine ge_int ?_
      walk_at "i"
      refine ge_int ?_
      refine gb_lt ?_
      refine ⟨_, rfl, ?_⟩
      refine ⟨fun h13 => ?_, fun h14 => ?_⟩
      · have h13 : (askFn S m).1.1 < 400 := by
          have h13 := of_decide_eq_true h13
          omega
        show GSs _ _ _ [_, _, _, _, _, _, _] _ _
        refine gss_one (gs_expr ?_)
        refine ge_meth (Ex := bodyX Ed) mc_Near__forget cl_Near (hr.mono (by decide)) tk ?_
        refine ge_var 0 rfl (.inl rfl) rfl ?_
        refine ⟨_, _, _, rfl, KAt.o (by assumption), nF_no (by decide +kernel), ?_⟩
        refine ga_cons ?_
        refine ge_var 4 rfl (.inl rfl) rfl ?_
        refine ga_nil ?_
        refine ⟨p, A, S.fresh, N, _, _, rfl, hat3, fun ω4 k4 hat4 => ?_⟩
        have hath4 := hath.keep k4 (disj_sym dj)
        show GSs _ _ _ [_, _, _, _, _, _, _] _ _
        refine gss_one (gs_ret ?_)
        refine ge_tup ?_
        refine ga_cons ?_
        refine ge_str [102, 97, 114] (by decide +kernel) ?_
        refine ga_cons ?_
        refine ge_var 6 rfl (.inl rfl) rfl ?_
        refine ga_nil ?_
        refine ⟨show 2 ≤ sizeLine by decide, ?_⟩
        rw [if_pos h13] at q
        exact rtq (Ext.refl _) (q _ (k3.trans (k4.more (fun x hx => List.mem_append_left _ hx))) hat4 hath4) rfl
      · have h14 : ¬ (askFn S m).1.1 < 400 := by
          have h14 := of_decide_eq_false h14
          omega
        refine gss_nil ?_
        show GSs _ _ _ [_, _, _, _, _, _, _] _ _
        refine gss_one (gs_ret ?_)
        refine ge_tup ?_
        refine ga_cons ?_
        refine ge_str [102, 97, 114] (by decide +kernel) ?_
        refine ga_cons ?_
        refine ge_var 6 rfl (.inl rfl) rfl ?_
        refine ga_nil ?_
        refine ⟨show 2 ≤ sizeLine by decide, ?_⟩
        rw [if_neg h14] at q
        exact rtq (Ext.refl _) (q _ k3 hat3 hath) rfl
theorem sc__law_value_in : FnScope ["_law_heads", "_law_name", "_law_other", "_law_text_here"] ["_law_heads", "_law_name"] (defScope s__law_value_in) := ⟨rfl, rfl, rfl, by decide +kernel, rfl, by decide +kernel, by decide +kernel⟩
theorem ok__law_value_in  (A : DefAt K mg "_law_value_in" s__law_value_in ["_law_heads", "_law_name"]) : Cal P w K mg base 1 "_law_value_in" sp__law_value_in := by
  refine cal_of A sc__law_value_in (fun ds ω Q E h => by obtain ⟨hs, n, rfl, q⟩ := h; rfl) ?_
  intro X f cdv Ar outer sh H E ds ω Qd Ed hX hr tk h'
  subst hX
  obtain ⟨hs, n, rfl, q⟩ := h'
  show GSs _ H _ [some (hsD hs), some (.str n), none, none] ω _
  show GSs _ _ _ [_, _, _, _] _ _
  refine gss_cons (gs_for (fun _ i ρ1 ω1 => Ext ω ω1 ∧ (∀ y ∈ hs.take i, y.1 ≠ n) ∧ ∃ a b, ρ1 = [some (hsD hs), some (.str n), a, b]) (passes_of rfl) rfl ?_)
  refine gj_tup ?_
  refine ge_var 0 rfl (.inl rfl) rfl ?_
  walk_at "j"
  try intro hz
  refine ⟨⟨Ext.refl _, (by simp), none, none, rfl⟩, fun _ _ _ _ _ => trivial, ?_, ?_⟩
  · rintro i x ρ1 ω1 hx ⟨x1, ht, a, b, rfl⟩
    obtain ⟨y, hy, rfl⟩ := map_at hx
    have hf := find_take hy ht
    skip
    refine gg_tup rfl rfl ?_
    refine ggs_cons ?_
    refine gg_name 2 sc__law_value_in.nd rfl (.inl rfl) ?_
    refine ggs_cons ?_
    refine gg_name 3 sc__law_value_in.nd rfl (.inl rfl) ?_
    refine ggs_nil ?_
    show GSs _ _ _ [_, _, _, _] _ _
    refine gss_one (gs_if ?_)
    refine gt_cmp (nomark _) ?_
    refine ge_var 2 rfl (.inl rfl) rfl ?_
    refine ge_var 1 rfl (.inl rfl) rfl ?_
    walk_at "be"
    refine ⟨_, rfl, ?_⟩
    refine ⟨fun h1 => ?_, fun h2 => ?_⟩
    · show GSs _ _ _ [_, _, _, _] _ _
      refine gss_one (gs_ret ?_)
      refine ge_var 3 rfl (.inl rfl) rfl ?_
      exact rtq (by walk_at "x") q (hf.1 (by simpa using h1))
    · refine gss_nil ?_
      exact ⟨by walk_at "x", hf.2 (by simpa using h2), _, _, rfl⟩
  · rintro ρ1 ω1 ⟨x1, ht, a, b, rfl⟩
    rw [List.length_map] at ht
    show GSs _ _ _ [_, _, _, _] _ _
    refine gss_one (gs_ret ?_)
    refine ge_non ?_
    exact rtq (by walk_at "x") q (find_no ht)
theorem sc__law_got : FnScope ["_law_state", "_law_key", "_law_heads", "_law_body", "_law_number", "_law_mark", "_law_part", "_law_first", "_law_last", "_law_end", "_law_told"] ["_law_state", "_law_key", "_law_heads"] (defScope s__law_got) := ⟨rfl, rfl, rfl, by decide +kernel, rfl, by decide +kernel, by decide +kernel⟩
theorem ok__law_got (B : Bl mg) (c__law_value_in : Cal P w K mg base 1 "_law_value_in" sp__law_value_in) (A : DefAt K mg "_law_got" s__law_got ["_law_state", "_law_key", "_law_heads"]) : Cal P w K mg base 2 "_law_got" sp__law_got := by
  refine cal_of A sc__law_got (fun ds ω Q E h => by obtain ⟨a, Z, S, k, key, hs, rfl, hat, hok, hk9, hho, q⟩ := h; rfl) ?_
  intro X f cdv Ar outer sh H E ds ω Qd Ed hX hr tk h'
  subst hX
  obtain ⟨a, Z, S, k, key, hs, rfl, hat, hok, hk9, hho, q⟩ := h'
  show GSs _ H _ [some (.ref a), some (.str key), some (hsD hs), none, none, none, none, none, none, none, none] ω _
  have hbig : sizeLine = 16777216 := sizeLine_eq
  show GSs _ _ _ [_, _, _, _, _, _, _, _, _, _, _] _ _
  refine gss_cons (gs_if ?_)
  refine gt_cmp rfl ?_
  refine ge_var 1 rfl (.inl rfl) rfl ?_
  refine ge_dget hr.units (fun _ _ => rfl) ?_
  refine ge_var 0 rfl (.inl rfl) rfl ?_
  refine ge_str [104, 101, 108, 100] (by decide +kernel) ?_
  refine ⟨_, _, _, _, rfl, SAt.o (by assumption), rfl, sF_held _ _, ?_⟩
  refine gb_dnotin hr.units (SAt.held (by assumption)) rfl ?_
  refine ⟨_, rfl, ?_⟩
  refine ⟨fun h1 => ?_, fun h2 => ?_⟩
  · skip
    show GSs _ _ _ [_, _, _, _, _, _, _, _, _, _, _] _ _
    refine gss_one (gs_ret ?_)
    refine ge_tup ?_
    refine ga_cons ?_
    refine ge_int ?_
    refine ga_cons ?_
    refine ge_tup ?_
    refine ga_nil ?_
    refine ⟨show 0 ≤ sizeLine by decide, ?_⟩
    refine ga_cons ?_
    refine ge_str [] (by decide +kernel) ?_
    refine ga_nil ?_
    refine ⟨show 3 ≤ sizeLine by decide, ?_⟩
    exact rtq (Ext.refl _) q (by unfold getF; rw [din_none (by simpa using h1)]; rfl)
  · obtain ⟨x, e1, e2⟩ := din_some (by simpa using h2)
    have hx := hok.lk e1
    refine gss_nil ?_
    show GSs _ _ _ [_, _, _, _, _, _, _, _, _, _, _] _ _
    refine gss_cons (gs_asg ?_)
    refine ge_dget hr.units (fun _ _ => rfl) ?_
    refine ge_dget hr.units (fun _ _ => rfl) ?_
    refine ge_var 0 rfl (.inl rfl) rfl ?_
    refine ge_str [104, 101, 108, 100] (by decide +kernel) ?_
    refine ⟨_, _, _, _, rfl, SAt.o (by assumption), rfl, sF_held _ _, ?_⟩
    refine ge_var 1 rfl (.inl rfl) rfl ?_
    refine ⟨_, _, _, _, rfl, hat.held, rfl, e2, ?_⟩
    skip
    refine gg_tup rfl rfl ?_
    refine ggs_cons ?_
    refine gg_name 3 sc__law_got.nd rfl (.inl rfl) ?_
    refine ggs_cons ?_
    refine gg_name 4 sc__law_got.nd rfl (.inl rfl) ?_
    refine ggs_nil ?_
    show GSs _ _ _ [_, _, _, _, _, _, _, _, _, _, _] _ _
    refine gss_cons (gs_set 5 sc__law_got.nd rfl (.inl rfl) ?_)
    refine ge_tup ?_
    refine ga_cons ?_
    refine ge_str [109, 97, 114, 107] (by decide +kernel) ?_
    refine ga_cons ?_
    refine ge_bin ?_
    refine ge_str [109] (by decide +kernel) ?_
    refine ge_callTy B.«str» rfl bb_str ?_
    refine ga_cons ?_
    refine ge_var 4 rfl (.inl rfl) rfl ?_
    refine ga_nil ?_
    have hml := markT_len (n := x.2) (Nat.lt_of_le_of_lt (Nat.le_trans hx.2.2 hk9) (by decide))
    unfold markT at hml
    rw [List.length_cons] at hml
    refine gc_str rfl (Nat.lt_of_le_of_lt (Nat.le_trans hx.2.2 hk9) (by decide)) ?_
    walk_at "bp"
    refine ga_nil ?_
    refine ⟨show 2 ≤ sizeLine by decide, ?_⟩
    show GSs _ _ _ [_, _, _, _, _, _, _, _, _, _, _] _ _
    refine gss_cons (gs_if ?_)
    refine gt_cmp (nomark _) ?_
    refine ge_call (Ex := bodyX Ed) c__law_value_in (hr.mono (by decide)) tk rfl ?_
    refine ga_cons ?_
    refine ge_var 2 rfl (.inl rfl) rfl ?_
    refine ga_cons ?_
    refine ge_str [117, 110, 108, 101, 115, 115] (by decide +kernel) ?_
    refine ga_nil ?_
    refine ⟨_, _, rfl, ?_⟩
    rw [valOf_O]
    refine ge_ix (fun _ _ => rfl) ?_
    refine ge_var 5 rfl (.inl rfl) rfl ?_
    refine ge_int ?_
    walk_at "i"
    refine gb_eqP hr.units (opt_pl _ hho) (str_pl8 (markT_ok x.2)) ?_
    rw [eq_opt]
    refine ⟨_, rfl, ?_⟩
    refine ⟨fun h3 => ?_, fun h4 => ?_⟩
    · skip
      show GSs _ _ _ [_, _, _, _, _, _, _, _, _, _, _] _ _
      refine gss_one (gs_ret ?_)
      refine ge_tup ?_
      refine ga_cons ?_
      refine ge_int ?_
      refine ga_cons ?_
      refine ge_tup ?_
      refine ga_cons ?_
      refine ge_var 5 rfl (.inl rfl) rfl ?_
      refine ga_nil ?_
      refine ⟨show 1 ≤ sizeLine by decide, ?_⟩
      refine ga_cons ?_
      refine ge_str [] (by decide +kernel) ?_
      refine ga_nil ?_
      refine ⟨show 3 ≤ sizeLine by decide, ?_⟩
      have h3 : valO hs unlessS = some (markT x.2) := of_decide_eq_true h3
      exact rtq (Ext.refl _) q (by unfold getF; rw [e1]; simp only []; rw [if_pos h3]; rfl)
    · have h4 : ¬ valO hs unlessS = some (markT x.2) := of_decide_eq_false h4
      have hget : getF S key hs = match valO hs partS with
          | none => (200, [(markS, markT x.2), (freshS, TL.numL S.fresh)], x.1)
          | some t => match partF t x.1.length with
            | none => (416, [], [])
            | some (a, b) => (206, [(markS, markT x.2), (partS, toldT a b x.1.length)], (x.1.take (b + 1)).drop a) := by
        unfold getF
        rw [e1]
        simp only []
        rw [if_neg h4]
        all_goals rfl
      refine gss_nil ?_
      show GSs _ _ _ [_, _, _, _, _, _, _, _, _, _, _] _ _
      refine gss_cons (gs_set 6 sc__law_got.nd rfl (.inl rfl) ?_)
      refine ge_call (Ex := bodyX Ed) c__law_value_in (hr.mono (by decide)) tk rfl ?_
      refine ga_cons ?_
      refine ge_var 2 rfl (.inl rfl) rfl ?_
      refine ga_cons ?_
      refine ge_str [112, 97, 114, 116] (by decide +kernel) ?_
      refine ga_nil ?_
      refine ⟨_, _, rfl, ?_⟩
      rw [valOf_O]
      show GSs _ _ _ [_, _, _, _, _, _, _, _, _, _, _] _ _
      refine gss_cons (gs_if ?_)
      refine gt_cmp (nomark _) ?_
      refine ge_var 6 rfl (.inl rfl) rfl ?_
      refine ge_non ?_
      refine gb_is ?_
      refine ⟨_, rfl, ?_⟩
      refine ⟨fun h5 => ?_, fun h6 => ?_⟩
      · skip
        show GSs _ _ _ [_, _, _, _, _, _, _, _, _, _, _] _ _
        refine gss_one (gs_ret ?_)
        refine ge_tup ?_
        refine ga_cons ?_
        refine ge_int ?_
        refine ga_cons ?_
        refine ge_tup ?_
        refine ga_cons ?_
        refine ge_var 5 rfl (.inl rfl) rfl ?_
        refine ga_cons ?_
        refine ge_tup ?_
        refine ga_cons ?_
        refine ge_str [102, 114, 101, 115, 104] (by decide +kernel) ?_
        refine ga_cons ?_
        refine ge_callTy B.«str» rfl bb_str ?_
        refine ga_cons ?_
        refine ge_dget hr.units (fun _ _ => rfl) ?_
        refine ge_var 0 rfl (.inl rfl) rfl ?_
        refine ge_str [102, 114, 101, 115, 104] (by decide +kernel) ?_
        refine ⟨_, _, _, _, rfl, SAt.o (by assumption), rfl, sF_fresh _ _, ?_⟩
        refine ga_nil ?_
        refine gc_str rfl (Nat.lt_of_le_of_lt hok.fresh (by decide)) ?_
        refine ga_nil ?_
        refine ⟨show 2 ≤ sizeLine by decide, ?_⟩
        refine ga_nil ?_
        refine ⟨show 2 ≤ sizeLine by decide, ?_⟩
        refine ga_cons ?_
        refine ge_var 3 rfl (.inl rfl) rfl ?_
        refine ga_nil ?_
        refine ⟨show 3 ≤ sizeLine by decide, ?_⟩
        rw [isNon_opt] at h5
        refine rtq (Ext.refl _) q ?_
        rw [hget]
        cases e : valO hs partS with
        | none => rfl
        | some t => rw [e] at h5; cases h5
      · rw [isNon_opt] at h6
        obtain ⟨t, et⟩ : ∃ t, valO hs partS = some t := by
          cases e : valO hs partS with
          | none => rw [e] at h6; cases h6
          | some t => exact ⟨t, rfl⟩
        rw [et] at hget ⊢
        refine gss_nil ?_
        show GSs _ _ _ [_, _, _, _, _, _, _, _, _, _, _] _ _
        refine gss_cons (gs_for (fun _ i ρ1 ω1 => Ext ω ω1 ∧ (∀ a b, a < i → a ≤ b → b < 1000 → t ≠ TL.numL a ++ [45] ++ TL.numL b) ∧ ∃ y7 y8 y9 y10, ρ1 = [some (.ref a), some (.str key), some (hsD hs), some (.str x.1), some (.int (x.2 : Nat)), some (.tup [.str markS, .str (markT x.2)]), some (.str t), y7, y8, y9, y10]) (passes_of rfl) rfl ?_)
        refine gj_range1 B.«range» rfl ?_
        refine ge_callB B.«len» rfl bb_len ?_
        refine ga_cons ?_
        refine ge_var 3 rfl (.inl rfl) rfl ?_
        refine ga_nil ?_
        walk_at "c"
        refine ⟨_, rfl, ⟨by omega, by omega⟩, ?_⟩
        try intro hz
        refine ⟨⟨Ext.refl _, (fun a b h => absurd h (Nat.not_lt_zero _)), none, none, none, none, rfl⟩, fun _ _ _ _ _ => trivial, ?_, ?_⟩
        · rintro i d ρ1 ω1 hd ⟨x1, hno, y7, y8, y9, y10, rfl⟩
          obtain ⟨hi, rfl⟩ := rngD_at hd
          rw [Int.toNat_natCast] at hi
          have hil := numL_len (n := i) (k := 3) (by omega) (by decide)
          have e0 : (0 : Int) + (i : Nat) = ((i : Nat) : Int) := Int.zero_add _
          refine gg_name 7 sc__law_got.nd rfl (.inl rfl) ?_
          show GSs _ _ _ [_, _, _, _, _, _, _, _, _, _, _] _ _
          refine gss_one (gs_for (fun _ j ρ2 ω2 => Ext ω ω2 ∧ (∀ b, i ≤ b → b < i + j → t ≠ TL.numL i ++ [45] ++ TL.numL b) ∧ ∃ y8 y9 y10, ρ2 = [some (.ref a), some (.str key), some (hsD hs), some (.str x.1), some (.int (x.2 : Nat)), some (.tup [.str markS, .str (markT x.2)]), some (.str t), some (.int (0 + (i : Nat))), y8, y9, y10]) (passes_of rfl) rfl ?_)
          refine gj_range2 B.«range» rfl ?_
          refine ge_var 7 rfl (.inl rfl) rfl ?_
          refine ge_ev (.int (if (t.take (TL.numL i ++ [45]).length == TL.numL i ++ [45]) = true then 1000 else (i : Nat))) ?_ ?_
          · refine ge_if ?_
            refine gt_truth (by intro _; rfl) ?_
            refine ge_bm PySem.F.plainAttrs_str PySem.F.slot_str_startswith PySem.F.type_str_startswith ?_
            refine ge_var 6 rfl (.inl rfl) rfl ?_
            walk_at "y"
            refine ga_cons ?_
            refine ge_bin ?_
            refine ge_callTy B.«str» rfl bb_str ?_
            refine ga_cons ?_
            refine ge_var 7 rfl (.inl rfl) rfl ?_
            refine ga_nil ?_
            refine gc_str e0 (show i < 10 ^ 18 by omega) ?_
            refine ge_str [45] (by decide +kernel) ?_
            walk_at "bp"
            refine ga_nil ?_
            walk_at "m"
            walk_at "t"
            refine ⟨fun h7 => ?_, fun h8 => ?_⟩
            · refine ge_int ?_
              refine ⟨by walk_at "x", ?_⟩
              rw [if_pos h7]
            · refine ge_var 7 rfl (.inl rfl) rfl ?_
              refine ⟨by walk_at "x", ?_⟩
              rw [if_neg (by rw [h8]; decide)]
              rw [e0]
          · refine ⟨_, _, rfl, rfl, ⟨by omega, by omega, by split <;> omega, by split <;> omega⟩, ?_⟩
            try intro hz
            refine ⟨⟨x1, (fun b h1 h2 => absurd h1 (by omega)), y8, y9, y10, rfl⟩, fun _ _ _ _ _ => trivial, ?_, ?_⟩
            · rintro j d ρ2 ω2 hd2 ⟨x2, hno2, y8, y9, y10, rfl⟩
              obtain ⟨hj, rfl⟩ := rngD_at hd2
              have hj2 : i + j < 1000 ∧ (t.take (TL.numL i ++ [45]).length == TL.numL i ++ [45]) = true := by
                split at hj
                · rename_i hc
                  exact ⟨by omega, hc⟩
                · omega
              have e1j : (0 : Int) + (i : Nat) + (j : Nat) = ((i + j : Nat) : Int) := by omega
              have hjl := numL_len (n := i + j) (k := 3) (by omega) (by decide)
              refine gg_name 8 sc__law_got.nd rfl (.inl rfl) ?_
              show GSs _ _ _ [_, _, _, _, _, _, _, _, _, _, _] _ _
              refine gss_one (gs_if ?_)
              refine gt_cmp (nomark _) ?_
              refine ge_var 6 rfl (.inl rfl) rfl ?_
              refine ge_bin ?_
              refine ge_bin ?_
              refine ge_callTy B.«str» rfl bb_str ?_
              refine ga_cons ?_
              refine ge_var 7 rfl (.inl rfl) rfl ?_
              refine ga_nil ?_
              refine gc_str e0 (show i < 10 ^ 18 by omega) ?_
              refine ge_str [45] (by decide +kernel) ?_
              walk_at "bp"
              refine ge_callTy B.«str» rfl bb_str ?_
              refine ga_cons ?_
              refine ge_var 8 rfl (.inl rfl) rfl ?_
              refine ga_nil ?_
              refine gc_str e1j (show i + j < 10 ^ 18 by omega) ?_
              walk_at "bp"
              refine gb_eqS ?_
              refine ⟨_, rfl, ?_⟩
              refine ⟨fun h9 => ?_, fun h10 => ?_⟩
              · have h9 := of_decide_eq_true h9
                have hp := part_hit (a := i) (b := i + j) (m := x.1.length) (by omega) hj2.1 hi
                rw [← h9] at hp
                simp only [hp] at hget
                have eE : (if ((x.1.length : Nat) : Int) - 1 < 0 + (i : Nat) + (j : Nat) then ((x.1.length : Nat) : Int) - 1 else 0 + (i : Nat) + (j : Nat)) = ((min (i + j) (x.1.length - 1) : Nat) : Int) := by split <;> omega
                have hml3 := numL_len (n := min (i + j) (x.1.length - 1)) (k := 3) (by omega) (by decide)
                have hnl := numL_len (n := x.1.length) (k := 3) (by omega) (by decide)
                show GSs _ _ _ [_, _, _, _, _, _, _, _, _, _, _] _ _
                refine gss_cons (gs_set 9 sc__law_got.nd rfl (.inl rfl) ?_)
                refine ge_callB B.«min» rfl bb_min ?_
                refine ga_cons ?_
                refine ge_var 8 rfl (.inl rfl) rfl ?_
                refine ga_cons ?_
                refine ge_bin ?_
                refine ge_callB B.«len» rfl bb_len ?_
                refine ga_cons ?_
                refine ge_var 3 rfl (.inl rfl) rfl ?_
                refine ga_nil ?_
                walk_at "c"
                refine ge_int ?_
                refine gb_sub ?_
                refine ga_nil ?_
                walk_at "c"
                show GSs _ _ _ [_, _, _, _, _, _, _, _, _, _, _] _ _
                refine gss_cons (gs_set 10 sc__law_got.nd rfl (.inl rfl) ?_)
                refine ge_bin ?_
                refine ge_bin ?_
                refine ge_bin ?_
                refine ge_bin ?_
                refine ge_callTy B.«str» rfl bb_str ?_
                refine ga_cons ?_
                refine ge_var 7 rfl (.inl rfl) rfl ?_
                refine ga_nil ?_
                rw [eE]
                refine gc_str e0 (show i < 10 ^ 18 by omega) ?_
                refine ge_str [45] (by decide +kernel) ?_
                walk_at "bp"
                refine ge_callTy B.«str» rfl bb_str ?_
                refine ga_cons ?_
                refine ge_var 9 rfl (.inl rfl) rfl ?_
                refine ga_nil ?_
                refine gc_str rfl (show min (i + j) (x.1.length - 1) < 10 ^ 18 by omega) ?_
                walk_at "bp"
                refine ge_str [32, 111, 102, 32] (by decide +kernel) ?_
                walk_at "bp"
                refine ge_callTy B.«str» rfl bb_str ?_
                refine ga_cons ?_
                refine ge_callB B.«len» rfl bb_len ?_
                refine ga_cons ?_
                refine ge_var 3 rfl (.inl rfl) rfl ?_
                refine ga_nil ?_
                walk_at "c"
                refine ga_nil ?_
                refine gc_str rfl (show x.1.length < 10 ^ 18 by omega) ?_
                walk_at "bp"
                show GSs _ _ _ [_, _, _, _, _, _, _, _, _, _, _] _ _
                refine gss_one (gs_ret ?_)
                refine ge_tup ?_
                refine ga_cons ?_
                refine ge_int ?_
                refine ga_cons ?_
                refine ge_tup ?_
                refine ga_cons ?_
                refine ge_var 5 rfl (.inl rfl) rfl ?_
                refine ga_cons ?_
                refine ge_tup ?_
                refine ga_cons ?_
                refine ge_str [112, 97, 114, 116] (by decide +kernel) ?_
                refine ga_cons ?_
                refine ge_var 10 rfl (.inl rfl) rfl ?_
                refine ga_nil ?_
                refine ⟨show 2 ≤ sizeLine by decide, ?_⟩
                refine ga_nil ?_
                refine ⟨show 2 ≤ sizeLine by decide, ?_⟩
                refine ga_cons ?_
                refine ge_slice ?_
                refine ge_var 3 rfl (.inl rfl) rfl ?_
                refine go_some ?_
                refine ge_var 7 rfl (.inl rfl) rfl ?_
                refine ⟨_, rfl, ?_⟩
                refine go_some ?_
                refine ge_bin ?_
                refine ge_var 9 rfl (.inl rfl) rfl ?_
                refine ge_int ?_
                walk_at "bp"
                refine ⟨_, rfl, ?_⟩
                walk_at "l"
                refine ga_nil ?_
                refine ⟨show 3 ≤ sizeLine by decide, ?_⟩
                refine rtq x2 q ?_
                rw [hget]
                show anD (206, [(markS, markT x.2), (partS, toldT i (min (i + j) (x.1.length - 1)) x.1.length)], (x.1.take (min (i + j) (x.1.length - 1) + 1)).drop i) = _
                have hc : cutL x.1 (some (0 + ((i : Nat) : Int))) (some ((((min (i + j) (x.1.length - 1) : Nat) : Int)) + 1 : Int)) = (x.1.take (min (i + j) (x.1.length - 1) + 1)).drop i := by
                  rw [e0]
                  exact cutL_mid x.1 i (min (i + j) (x.1.length - 1) + 1)
                rw [hc]
                rfl
              · have h10 := of_decide_eq_false h10
                refine gss_nil ?_
                refine ⟨x2, fun b hb1 hb2 => ?_, _, _, _, rfl⟩
                rcases Nat.lt_or_eq_of_le (Nat.le_of_lt_succ (show b < i + j + 1 by omega)) with h | h
                · exact hno2 b hb1 h
                · subst h
                  exact h10
            · rintro ρ2 ω2 ⟨x2, hno2, y8, y9, y10, rfl⟩
              have hln : ∀ (lo : Int) (n : Nat), (rngD lo n).length = n := fun lo n => by unfold rngD; rw [List.length_map, List.length_range]
              rw [hln] at hno2
              refine ⟨x2, fun a0 b0 ha hb1 hb2 => ?_, _, _, _, _, rfl⟩
              rcases Nat.lt_or_eq_of_le (Nat.le_of_lt_succ ha) with h | h
              · exact hno a0 b0 h hb1 hb2
              · subst h
                by_cases hc : (t.take (TL.numL a0 ++ [45]).length == TL.numL a0 ++ [45]) = true
                · rw [if_pos hc] at hno2
                  exact hno2 b0 hb1 (by omega)
                · intro e
                  refine hc ?_
                  rw [e, List.take_left' rfl]
                  simp
        · rintro ρ1 ω1 ⟨x1, hno, y7, y8, y9, y10, rfl⟩
          have hln : ∀ (lo : Int) (n : Nat), (rngD lo n).length = n := fun lo n => by unfold rngD; rw [List.length_map, List.length_range]
          rw [hln, Int.toNat_natCast] at hno
          show GSs _ _ _ [_, _, _, _, _, _, _, _, _, _, _] _ _
          refine gss_one (gs_ret ?_)
          refine ge_tup ?_
          refine ga_cons ?_
          refine ge_int ?_
          refine ga_cons ?_
          refine ge_tup ?_
          refine ga_nil ?_
          refine ⟨show 0 ≤ sizeLine by decide, ?_⟩
          refine ga_cons ?_
          refine ge_str [] (by decide +kernel) ?_
          refine ga_nil ?_
          refine ⟨show 3 ≤ sizeLine by decide, ?_⟩
          refine rtq x1 q ?_
          rw [hget]
          cases e : partF t x.1.length with
          | none => simp only []; rw [e]; rfl
          | some y =>
            obtain ⟨a0, b0, h1, h2, h3, h4⟩ := part_found e
            exact absurd h1 (hno a0 b0 h4 h2 h3)
theorem sc__law_changed : FnScope ["_law_state", "_law_key", "_law_asking", "_law_held", "_law_mark", "_law_code", "_law_heads", "_law_parts", "_law_number"] ["_law_state", "_law_key", "_law_asking"] (defScope s__law_changed) := ⟨rfl, rfl, rfl, by decide +kernel, rfl, by decide +kernel, by decide +kernel⟩
theorem ok__law_changed (B : Bl mg) (c__law_value_in : Cal P w K mg base 1 "_law_value_in" sp__law_value_in) (c__law_path_text : Cal P w K mg base 3 "_law_path_text" sp__law_path_text) (A : DefAt K mg "_law_changed" s__law_changed ["_law_state", "_law_key", "_law_asking"]) : Cal P w K mg base 4 "_law_changed" sp__law_changed := by
  refine cal_of A sc__law_changed (fun ds ω Q E h => by obtain ⟨a, Z, S, k, m, rfl, hat, hok, hk9, hm, hng, hw, q⟩ := h; rfl) ?_
  intro X f cdv Ar outer sh H E ds ω Qd Ed hX hr tk h'
  subst hX
  obtain ⟨a, Z, S, k, m, rfl, hat, hok, hk9, hm, hng, hw, q⟩ := h'
  show GSs _ H _ [some (.ref a), some (.str (Msg.key m)), some (Msg.D m), none, none, none, none, none, none] ω _
  have hbig : sizeLine = 16777216 := sizeLine_eq
  obtain ⟨m1, m2, m3, m4, m5, m6, m7, m8, m9⟩ := hm
  have hnm := hok.num (textP m.ps m.as)
  have hln := hok.len
  show GSs _ _ _ [_, _, _, _, _, _, _, _, _] _ _
  refine gss_cons (gs_set 3 sc__law_changed.nd rfl (.inl rfl) ?_)
  refine ge_dget hr.units (fun _ _ => rfl) ?_
  refine ge_var 0 rfl (.inl rfl) rfl ?_
  refine ge_str [104, 101, 108, 100] (by decide +kernel) ?_
  refine ⟨_, _, _, _, rfl, SAt.o (by assumption), rfl, sF_held _ _, ?_⟩
  show GSs _ _ _ [_, _, _, _, _, _, _, _, _] _ _
  refine gss_cons (gs_set 4 sc__law_changed.nd rfl (.inl rfl) ?_)
  refine ge_ev (.str (markF S m.key)) ?_ ?_
  · refine ge_if ?_
    refine gt_cmp rfl ?_
    refine ge_var 1 rfl (.inl rfl) rfl ?_
    refine ge_var 3 rfl (.inl rfl) rfl ?_
    refine gb_din hr.units (SAt.held (by assumption)) rfl ?_
    refine ⟨_, rfl, ?_⟩
    refine ⟨fun h1 => ?_, fun h2 => ?_⟩
    · refine ge_bin ?_
      refine ge_str [109] (by decide +kernel) ?_
      refine ge_callTy B.«str» rfl bb_str ?_
      refine ga_cons ?_
      refine ge_ix (fun _ _ => rfl) ?_
      refine ge_dget hr.units (fun _ _ => rfl) ?_
      refine ge_var 3 rfl (.inl rfl) rfl ?_
      refine ge_var 1 rfl (.inl rfl) rfl ?_
      obtain ⟨x, e1, e2⟩ := din_some h1
      have hx := hok.lk e1
      have hml := markT_len (n := x.2) (Nat.lt_of_le_of_lt (Nat.le_trans hx.2.2 (show k ≤ 900 by omega)) (by decide))
      unfold markT at hml
      rw [List.length_cons] at hml
      refine ⟨_, _, _, _, rfl, hat.held, rfl, e2, ?_⟩
      refine ge_int ?_
      walk_at "i"
      refine ga_nil ?_
      refine gc_str rfl (Nat.lt_of_le_of_lt (Nat.le_trans hx.2.2 (show k ≤ 900 by omega)) (by decide)) ?_
      walk_at "bp"
      refine ⟨by walk_at "x", ?_⟩
      unfold markF
      rw [e1]
      rfl
    · refine ge_str [110, 111, 110, 101] (by decide +kernel) ?_
      refine ⟨by walk_at "x", ?_⟩
      unfold markF
      rw [din_none h2]
  · show GSs _ _ _ [_, _, _, _, _, _, _, _, _] _ _
    refine gss_cons (gs_if ?_)
    refine gt_cmp rfl ?_
    refine ge_call (Ex := bodyX Ed) c__law_value_in (hr.mono (by decide)) tk rfl ?_
    refine ga_cons ?_
    refine ge_ix (fun _ _ => rfl) ?_
    refine ge_var 2 rfl (.inl rfl) rfl ?_
    refine ge_int ?_
    walk_at "i"
    refine ga_cons ?_
    refine ge_str [111, 110, 108, 121] (by decide +kernel) ?_
    refine ga_nil ?_
    refine ⟨_, _, rfl, ?_⟩
    rw [valOf_O]
    refine ge_tup ?_
    refine ga_cons ?_
    refine ge_non ?_
    refine ga_cons ?_
    refine ge_var 4 rfl (.inl rfl) rfl ?_
    refine ga_nil ?_
    refine ⟨show 2 ≤ sizeLine by decide, ?_⟩
    refine gb_notInN (o := valO m.hs onlyS) (by cases valO m.hs onlyS <;> rfl) ?_
    refine ⟨_, rfl, ?_⟩
    refine ⟨fun h3 => ?_, fun h4 => ?_⟩
    · have h3' : (!(valO m.hs onlyS).isNone && !decide (valO m.hs onlyS = some (markF S m.key))) = true := by rw [← Bool.not_or]; exact h3
      show GSs _ _ _ [_, _, _, _, _, _, _, _, _] _ _
      refine gss_one (gs_ret ?_)
      refine ge_tup ?_
      refine ga_cons ?_
      refine ge_int ?_
      refine ga_cons ?_
      refine ge_tup ?_
      refine ga_nil ?_
      refine ⟨show 0 ≤ sizeLine by decide, ?_⟩
      refine ga_cons ?_
      refine ge_str [] (by decide +kernel) ?_
      refine ga_nil ?_
      refine ⟨show 3 ≤ sizeLine by decide, ?_⟩
      have hd := done_412 hw hng h3'
      rw [hd] at q
      exact rtq (Ext.refl _) (q _ HKeep.refl hat) rfl
    · have h4' : (!(valO m.hs onlyS).isNone && !decide (valO m.hs onlyS = some (markF S m.key))) = false := by rw [← Bool.not_or]; exact h4
      refine gss_nil ?_
      show GSs _ _ _ [_, _, _, _, _, _, _, _, _] _ _
      refine gss_cons (gs_if ?_)
      refine gt_cmp (nomark _) ?_
      refine ge_ix (fun _ _ => rfl) ?_
      refine ge_var 2 rfl (.inl rfl) rfl ?_
      refine ge_int ?_
      walk_at "i"
      refine ge_str [100, 114, 111, 112] (by decide +kernel) ?_
      refine gb_eqS ?_
      refine ⟨_, rfl, ?_⟩
      refine ⟨fun h5 => ?_, fun h6 => ?_⟩
      · have h5 := of_decide_eq_true h5
        have hnp : ¬ m.w = putS := fun e => by rw [h5] at e; exact absurd e (by decide)
        have hd := done_drop hw hng h4' hnp h5
        rw [hd] at q
        unfold dropFn at q
        show GSs _ _ _ [_, _, _, _, _, _, _, _, _] _ _
        refine gss_cons (gs_if ?_)
        refine gt_cmp rfl ?_
        refine ge_var 1 rfl (.inl rfl) rfl ?_
        refine ge_var 3 rfl (.inl rfl) rfl ?_
        refine gb_dnotin hr.units (SAt.held (by assumption)) rfl ?_
        refine ⟨_, rfl, ?_⟩
        refine ⟨fun h7 => ?_, fun h8 => ?_⟩
        · skip
          show GSs _ _ _ [_, _, _, _, _, _, _, _, _] _ _
          refine gss_one (gs_ret ?_)
          refine ge_tup ?_
          refine ga_cons ?_
          refine ge_int ?_
          refine ga_cons ?_
          refine ge_tup ?_
          refine ga_nil ?_
          refine ⟨show 0 ≤ sizeLine by decide, ?_⟩
          refine ga_cons ?_
          refine ge_str [] (by decide +kernel) ?_
          refine ga_nil ?_
          refine ⟨show 3 ≤ sizeLine by decide, ?_⟩
          have e1 := din_none (by simpa using h7)
          rw [e1] at q
          exact rtq (Ext.refl _) (q _ HKeep.refl hat) rfl
        · obtain ⟨x, e1, e2⟩ := din_some (by simpa using h8)
          rw [e1] at q
          refine gss_nil ?_
          show GSs _ _ _ [_, _, _, _, _, _, _, _, _] _ _
          refine gss_cons (gs_expr ?_)
          refine ge_dpop ?_
          refine ge_var 3 rfl (.inl rfl) rfl ?_
          refine ⟨_, rfl, ⟨_, SAt.held (by assumption)⟩, ?_⟩
          refine ge_var 1 rfl (.inl rfl) rfl ?_
          refine ⟨_, _, _, hat.held, rfl, e2, ?_⟩
          have hat1 := hat.dropHeld m.key
          show GSs _ _ _ [_, _, _, _, _, _, _, _, _] _ _
          refine gss_cons (gs_daug hr.units ?_)
          refine ge_var 0 rfl (.inl rfl) rfl ?_
          refine ge_str [109, 97, 110, 121] (by decide +kernel) ?_
          refine ⟨_, _, _, _, rfl, SAt.o (by assumption), rfl, sF_many _ _, ?_⟩
          refine ge_int ?_
          refine gbi_add ?_
          refine ⟨_, hat1.o, sF_len _ _, ?_⟩
          have hat2 := hat1.many1
          show GSs _ _ _ [_, _, _, _, _, _, _, _, _] _ _
          refine gss_one (gs_ret ?_)
          refine ge_tup ?_
          refine ga_cons ?_
          refine ge_int ?_
          refine ga_cons ?_
          refine ge_tup ?_
          refine ga_nil ?_
          refine ⟨show 0 ≤ sizeLine by decide, ?_⟩
          refine ga_cons ?_
          refine ge_str [] (by decide +kernel) ?_
          refine ga_nil ?_
          refine ⟨show 3 ≤ sizeLine by decide, ?_⟩
          exact rtq (Ext.refl _) (q _ ((HKeep.refl.put (sm_h _ _)).put (sm_q _ _)) hat2) rfl
      · have h6 := of_decide_eq_false h6
        refine gss_nil ?_
        show GSs _ _ _ [_, _, _, _, _, _, _, _, _] _ _
        refine gss_cons (gs_set 5 sc__law_changed.nd rfl (.inl rfl) ?_)
        refine ge_ev (.int (if (lk S.held m.key).isSome = true then 200 else 201)) ?_ ?_
        · refine ge_if ?_
          refine gt_cmp rfl ?_
          refine ge_var 1 rfl (.inl rfl) rfl ?_
          refine ge_var 3 rfl (.inl rfl) rfl ?_
          refine gb_din hr.units (SAt.held (by assumption)) rfl ?_
          refine ⟨_, rfl, ?_⟩
          refine ⟨fun h9 => ?_, fun h10 => ?_⟩
          · refine ge_int ?_
            refine ⟨by walk_at "x", ?_⟩
            rw [valD_as] at h9
            rw [if_pos (by cases e : lk S.held m.key <;> rw [e] at h9 <;> first | rfl | cases h9)]
          · refine ge_int ?_
            refine ⟨by walk_at "x", ?_⟩
            rw [din_none h10]
            rfl
        · show GSs _ _ _ [_, _, _, _, _, _, _, _, _] _ _
          refine gss_cons (gs_set 6 sc__law_changed.nd rfl (.inl rfl) ?_)
          refine ge_tup ?_
          refine ga_nil ?_
          refine ⟨show 0 ≤ sizeLine by decide, ?_⟩
          show GSs _ _ _ [_, _, _, _, _, _, _, _, _] _ _
          refine gss_cut (fun ρ2 ω2 => ∃ S1 key2 code hds y7 y8, HKeep (Z.all a) ω ω2 ∧ SAt ω2 a Z S1 ∧ doneF S m = ((code, hds ++ [(markS, markT (S1.many + 1))], []), layF S1 key2 m.b) ∧ S1.held.length ≤ k ∧ S1.many ≤ k ∧ hds.length ≤ 1 ∧ ρ2 = [some (.ref a), some (.str key2), some m.D, some (.ref Z.bh), some (.str (markF S m.key)), some (.int ((code : Nat) : Int)), some (hsD hds), y7, y8]) ?_ ?_
          · refine gs_if ?_
            refine gt_cmp (nomark _) ?_
            refine ge_ix (fun _ _ => rfl) ?_
            refine ge_var 2 rfl (.inl rfl) rfl ?_
            refine ge_int ?_
            walk_at "i"
            refine ge_str [97, 100, 100] (by decide +kernel) ?_
            refine gb_eqS ?_
            refine ⟨_, rfl, ?_⟩
            refine ⟨fun h11 => ?_, fun h12 => ?_⟩
            · have h11 := of_decide_eq_true h11
              have hnp : ¬ m.w = putS := fun e => by rw [h11] at e; exact absurd e (by decide)
              have hd := done_add hw hng h4' hnp h6
              show GSs _ _ _ [_, _, _, _, _, _, _, _, _] _ _
              refine gss_cons (gs_set 7 sc__law_changed.nd rfl (.inl rfl) ?_)
              refine ge_ix (fun _ _ => rfl) ?_
              refine ge_ix (fun _ _ => rfl) ?_
              refine ge_var 2 rfl (.inl rfl) rfl ?_
              refine ge_int ?_
              walk_at "i"
              refine ge_int ?_
              walk_at "i"
              show GSs _ _ _ [_, _, _, _, _, _, _, _, _] _ _
              refine gss_cons (gs_if ?_)
              refine gt_cmp (nomark _) ?_
              refine ge_callB B.«len» rfl bb_len ?_
              refine ga_cons ?_
              refine ge_var 7 rfl (.inl rfl) rfl ?_
              refine ga_nil ?_
              walk_at "c"
              refine ge_int ?_
              refine gb_eqI ?_
              refine ⟨_, rfl, ?_⟩
              refine ⟨fun h13 => ?_, fun h14 => ?_⟩
              · skip
                show GSs _ _ _ [_, _, _, _, _, _, _, _, _] _ _
                refine gss_one (gs_ret ?_)
                refine ge_tup ?_
                refine ga_cons ?_
                refine ge_int ?_
                refine ga_cons ?_
                refine ge_tup ?_
                refine ga_nil ?_
                refine ⟨show 0 ≤ sizeLine by decide, ?_⟩
                refine ga_cons ?_
                refine ge_str [] (by decide +kernel) ?_
                refine ga_nil ?_
                refine ⟨show 3 ≤ sizeLine by decide, ?_⟩
                have h13 : m.ps.length = 5 := by simp at h13; omega
                rw [hd] at q
                unfold addFn at q
                rw [if_pos h13] at q
                exact rtq (Ext.refl _) (q _ HKeep.refl hat) rfl
              · have h14 : m.ps.length ≠ 5 := by simp at h14; omega
                have hadd : addFn S m.ps m.as m.b = ((201, [(toS, addK m.ps (addN S m.ps m.as)), (markS, markT (S.many + 1))], []), layF { S with numbers := pk S.numbers (textP m.ps m.as) (addN S m.ps m.as) } (addK m.ps (addN S m.ps m.as)) m.b) := by
                  unfold addFn; rw [if_neg h14]
                refine gss_nil ?_
                show GSs _ _ _ [_, _, _, _, _, _, _, _, _] _ _
                refine gss_cons (gs_set 8 sc__law_changed.nd rfl (.inl rfl) ?_)
                refine ge_bin ?_
                refine ge_dgetD hr.units ?_
                refine ge_dget hr.units (fun _ _ => rfl) ?_
                refine ge_var 0 rfl (.inl rfl) rfl ?_
                refine ge_str [110, 117, 109, 98, 101, 114, 115] (by decide +kernel) ?_
                refine ⟨_, _, _, _, rfl, SAt.o (by assumption), rfl, sF_nums _ _, ?_⟩
                refine ⟨_, rfl, ⟨_, SAt.nums (by assumption)⟩, ?_⟩
                refine ge_var 1 rfl (.inl rfl) rfl ?_
                refine ge_int ?_
                refine ⟨_, _, hat.nums, rfl, ?_⟩
                rw [show (D.int 0) = natD 0 from rfl, din_getD]
                refine ge_int ?_
                walk_at "bp"
                show GSs _ _ _ [_, _, _, _, _, _, _, _, _] _ _
                refine gss_cons (gs_while (fun mm ρ1 ω1 => ∃ j, mm = S.held.length + 1 - j ∧ j ≤ S.held.length ∧ ω1 = ω ∧ (∀ i, i < j → (lk S.held (addK m.ps ((lk S.numbers (textP m.ps m.as)).getD 0 + 1 + i))).isSome = true) ∧ nextN S.held m.ps (S.held.length + 1 - j) ((lk S.numbers (textP m.ps m.as)).getD 0 + 1 + j) = addN S m.ps m.as ∧ ρ1 = [some (.ref a), some (.str m.key), some m.D, some (.ref Z.bh), some (.str (markF S m.key)), some (.int (if (lk S.held m.key).isSome = true then 200 else 201)), some (.tup []), some (.tup (m.ps.map D.str)), some (.int (((lk S.numbers (textP m.ps m.as)).getD 0 + 1 + j : Nat) : Int))]) (S.held.length + 1) (⟨0, rfl, Nat.zero_le _, rfl, (fun i h => absurd h (Nat.not_lt_zero _)), rfl, rfl⟩) (passes_of rfl) ?_)
                rintro mm ρ1 ω1 ⟨j, rfl, hj, rfl, hall, hnx, rfl⟩
                have hb3 : (lk S.numbers (textP m.ps m.as)).getD 0 + 1 + j < 10 ^ 8 := by omega
                refine gt_cmp rfl ?_
                refine ge_call (Ex := bodyX Ed) c__law_path_text (hr.mono (by decide)) tk rfl ?_
                refine ga_cons ?_
                refine ge_tup ?_
                refine ga_cons ?_
                refine ge_bin ?_
                refine ge_var 7 rfl (.inl rfl) rfl ?_
                refine ge_tup ?_
                refine ga_cons ?_
                refine ge_callTy B.«str» rfl bb_str ?_
                refine ga_cons ?_
                refine ge_var 8 rfl (.inl rfl) rfl ?_
                refine ga_nil ?_
                refine gc_str rfl (show (lk S.numbers (textP m.ps m.as)).getD 0 + 1 + j < 10 ^ 18 by omega) ?_
                refine ga_nil ?_
                refine ⟨show 1 ≤ sizeLine by decide, ?_⟩
                walk_at "bp"
                refine ga_cons ?_
                refine ge_tup ?_
                refine ga_nil ?_
                refine ⟨show 0 ≤ sizeLine by decide, ?_⟩
                refine ga_nil ?_
                refine ⟨show 2 ≤ sizeLine by decide, ?_⟩
                refine ga_nil ?_
                refine ⟨m.ps ++ [TL.numL ((lk S.numbers (textP m.ps m.as)).getD 0 + 1 + j)], [], by simp, by rw [List.length_append, List.length_singleton]; omega, by decide, parts_num m4 hb3, rfl, ?_⟩
                refine ge_var 3 rfl (.inl rfl) rfl ?_
                refine gb_din hr.units (SAt.held (by assumption)) rfl ?_
                refine ⟨_, rfl, ?_⟩
                refine ⟨fun h15 => ?_, fun h16 => ?_⟩
                · obtain ⟨x, e1, e2⟩ := din_some h15
                  have hall' : ∀ i, i < j + 1 → (lk S.held (addK m.ps ((lk S.numbers (textP m.ps m.as)).getD 0 + 1 + i))).isSome = true := fun i hi => by
                    rcases Nat.lt_or_eq_of_le (Nat.le_of_lt_succ hi) with h | h
                    · exact hall i h
                    · subst h
                      show (lk S.held (textP (m.ps ++ [TL.numL _]) [])).isSome = true
                      rw [e1]
                      rfl
                  have hj1 := addK_pig hall'
                  show GSs _ _ _ [_, _, _, _, _, _, _, _, _] _ _
                  refine gss_one (gs_aug 8 sc__law_changed.nd rfl (.inl rfl) rfl ?_)
                  refine ge_int ?_
                  refine gbi_add ?_
                  refine ⟨S.held.length + 1 - (j + 1), by omega, j + 1, rfl, hj1, rfl, hall', ?_, ?_⟩
                  · rw [← hnx, show S.held.length + 1 - j = (S.held.length + 1 - (j + 1)) + 1 by omega, nextN_hit (hall' j (Nat.lt_succ_self _))]
                    rfl
                  · rfl
                · have hend : (lk S.held (addK m.ps ((lk S.numbers (textP m.ps m.as)).getD 0 + 1 + j))).isSome = false := by
                    rw [show lk S.held (addK m.ps _) = none from din_none h16]
                    rfl
                  rw [nextN_end hend] at hnx
                  rw [hnx]
                  have hN := addN_le2 hok (by omega) m.ps m.as
                  show GSs _ _ _ [_, _, _, _, _, _, _, _, _] _ _
                  refine gss_cons (gs_dput hr.units ?_)
                  refine ge_var 8 rfl (.inl rfl) rfl ?_
                  refine ge_dget hr.units (fun _ _ => rfl) ?_
                  refine ge_var 0 rfl (.inl rfl) rfl ?_
                  refine ge_str [110, 117, 109, 98, 101, 114, 115] (by decide +kernel) ?_
                  refine ⟨_, _, _, _, rfl, SAt.o (by assumption), rfl, sF_nums _ _, ?_⟩
                  refine ge_var 1 rfl (.inl rfl) rfl ?_
                  refine ⟨_, _, _, rfl, hat.nums, rfl, (by rw [asD_len]; have := hok.nlen; omega), ?_⟩
                  have hat1 := hat.putNums (textP m.ps m.as) (addN S m.ps m.as)
                  show GSs _ _ _ [_, _, _, _, _, _, _, _, _] _ _
                  refine gss_cons (gs_set 1 sc__law_changed.nd rfl (.inl rfl) ?_)
                  refine ge_call (Ex := bodyX Ed) c__law_path_text (hr.mono (by decide)) tk rfl ?_
                  refine ga_cons ?_
                  refine ge_tup ?_
                  refine ga_cons ?_
                  refine ge_bin ?_
                  refine ge_var 7 rfl (.inl rfl) rfl ?_
                  refine ge_tup ?_
                  refine ga_cons ?_
                  refine ge_callTy B.«str» rfl bb_str ?_
                  refine ga_cons ?_
                  refine ge_var 8 rfl (.inl rfl) rfl ?_
                  refine ga_nil ?_
                  refine gc_str rfl (show addN S m.ps m.as < 10 ^ 18 by omega) ?_
                  refine ga_nil ?_
                  refine ⟨show 1 ≤ sizeLine by decide, ?_⟩
                  walk_at "bp"
                  refine ga_cons ?_
                  refine ge_tup ?_
                  refine ga_nil ?_
                  refine ⟨show 0 ≤ sizeLine by decide, ?_⟩
                  refine ga_nil ?_
                  refine ⟨show 2 ≤ sizeLine by decide, ?_⟩
                  refine ga_nil ?_
                  refine ⟨m.ps ++ [TL.numL (addN S m.ps m.as)], [], by simp, by rw [List.length_append, List.length_singleton]; omega, by decide, parts_num m4 (by omega), rfl, ?_⟩
                  show GSs _ _ _ [_, _, _, _, _, _, _, _, _] _ _
                  refine gss_cons (gs_set 5 sc__law_changed.nd rfl (.inl rfl) ?_)
                  refine ge_int ?_
                  show GSs _ _ _ [_, _, _, _, _, _, _, _, _] _ _
                  refine gss_one (gs_set 6 sc__law_changed.nd rfl (.inl rfl) ?_)
                  refine ge_tup ?_
                  refine ga_cons ?_
                  refine ge_tup ?_
                  refine ga_cons ?_
                  refine ge_str [116, 111] (by decide +kernel) ?_
                  refine ga_cons ?_
                  refine ge_var 1 rfl (.inl rfl) rfl ?_
                  refine ga_nil ?_
                  refine ⟨show 2 ≤ sizeLine by decide, ?_⟩
                  refine ga_nil ?_
                  refine ⟨show 1 ≤ sizeLine by decide, ?_⟩
                  exact ⟨_, addK m.ps (addN S m.ps m.as), 201, [(toS, addK m.ps (addN S m.ps m.as))], _, _, HKeep.refl.put (sm_n _ _), hat1, by rw [hd, hadd]; rfl, hok.len, hok.many, Nat.le_refl _, rfl⟩
            · have h12 := of_decide_eq_false h12
              have hput : m.w = putS := by
                have := m1
                unfold wordsL at this
                simp at this
                rcases this with h | h | h | h
                · exact absurd h hng
                · exact h
                · exact absurd h h12
                · exact absurd h h6
              have hd := done_put hw hng h4' hput
              refine gss_nil ?_
              exact ⟨S, m.key, if (lk S.held m.key).isSome = true then 200 else 201, [], _, _, HKeep.refl, hat, by rw [hd]; rfl, hok.len, hok.many, Nat.zero_le _, by
                congr 6
                split <;> rfl⟩
          · rintro ρ2 ω2 ⟨S1, key2, code, hds, y7, y8, kp, hat1, hd, hl1, hmy, hhl, rfl⟩
            show GSs _ _ _ [_, _, _, _, _, _, _, _, _] _ _
            refine gss_cons (gs_daug hr.units ?_)
            refine ge_var 0 rfl (.inl rfl) rfl ?_
            refine ge_str [109, 97, 110, 121] (by decide +kernel) ?_
            refine ⟨_, _, _, _, rfl, SAt.o (by assumption), rfl, sF_many _ _, ?_⟩
            refine ge_int ?_
            refine gbi_add ?_
            refine ⟨_, hat1.o, sF_len _ _, ?_⟩
            have hat2 := hat1.many1
            show GSs _ _ _ [_, _, _, _, _, _, _, _, _] _ _
            refine gss_cons (gs_dput hr.units ?_)
            refine ge_tup ?_
            refine ga_cons ?_
            refine ge_ix (fun _ _ => rfl) ?_
            refine ge_var 2 rfl (.inl rfl) rfl ?_
            refine ge_int ?_
            walk_at "i"
            refine ga_cons ?_
            refine ge_dget hr.units (fun _ _ => rfl) ?_
            refine ge_var 0 rfl (.inl rfl) rfl ?_
            refine ge_str [109, 97, 110, 121] (by decide +kernel) ?_
            refine ⟨_, _, _, _, rfl, SAt.o (by assumption), rfl, sF_many _ _, ?_⟩
            refine ga_nil ?_
            refine ⟨show 2 ≤ sizeLine by decide, ?_⟩
            refine ge_var 3 rfl (.inl rfl) rfl ?_
            refine ge_var 1 rfl (.inl rfl) rfl ?_
            refine ⟨_, _, _, rfl, hat2.held, rfl, (by rw [asD_len]; show S1.held.length < _; omega), ?_⟩
            have hat3 := hat2.putHeld key2 (m.b, S1.many + 1)
            show GSs _ _ _ [_, _, _, _, _, _, _, _, _] _ _
            refine gss_one (gs_ret ?_)
            refine ge_tup ?_
            refine ga_cons ?_
            refine ge_var 5 rfl (.inl rfl) rfl ?_
            refine ga_cons ?_
            refine ge_bin ?_
            refine ge_var 6 rfl (.inl rfl) rfl ?_
            refine ge_tup ?_
            refine ga_cons ?_
            refine ge_tup ?_
            refine ga_cons ?_
            refine ge_str [109, 97, 114, 107] (by decide +kernel) ?_
            refine ga_cons ?_
            refine ge_bin ?_
            refine ge_str [109] (by decide +kernel) ?_
            refine ge_callTy B.«str» rfl bb_str ?_
            refine ga_cons ?_
            refine ge_dget hr.units (fun _ _ => rfl) ?_
            refine ge_var 0 rfl (.inl rfl) rfl ?_
            refine ge_str [109, 97, 110, 121] (by decide +kernel) ?_
            refine ⟨_, _, _, _, rfl, SAt.o (by assumption), rfl, sF_many _ _, ?_⟩
            refine ga_nil ?_
            refine gc_str rfl (show S1.many + 1 < 10 ^ 18 by omega) ?_
            have hml2 := numL_len (n := S1.many + 1) (k := 4) (by omega) (by decide)
            walk_at "bp"
            refine ga_nil ?_
            refine ⟨show 2 ≤ sizeLine by decide, ?_⟩
            refine ga_nil ?_
            refine ⟨show 1 ≤ sizeLine by decide, ?_⟩
            walk_at "bp"
            refine ga_cons ?_
            refine ge_str [] (by decide +kernel) ?_
            refine ga_nil ?_
            refine ⟨show 3 ≤ sizeLine by decide, ?_⟩
            rw [hd] at q
            refine rtq (Ext.refl _) (q _ ((kp.put (sm_q _ _)).put (sm_h _ _)) hat3) ?_
            show D.tup [_, hsD (hds ++ [(markS, markT (S1.many + 1))]), _] = _
            rw [show hsD (hds ++ [(markS, markT (S1.many + 1))]) = .tup (hds.map hdD ++ [hdD (markS, markT (S1.many + 1))]) from by simp]
            rfl
theorem sc__law_answered : FnScope ["_law_state", "_law_asking", "_law_once", "_law_key", "_law_found"] ["_law_state", "_law_asking"] (defScope s__law_answered) := ⟨rfl, rfl, rfl, by decide +kernel, rfl, by decide +kernel, by decide +kernel⟩
theorem ok__law_answered (c__law_value_in : Cal P w K mg base 1 "_law_value_in" sp__law_value_in) (c__law_path_text : Cal P w K mg base 3 "_law_path_text" sp__law_path_text) (c__law_got : Cal P w K mg base 2 "_law_got" sp__law_got) (c__law_changed : Cal P w K mg base 4 "_law_changed" sp__law_changed) (A : DefAt K mg "_law_answered" s__law_answered ["_law_state", "_law_asking"]) : Cal P w K mg base 5 "_law_answered" sp__law_answered := by
  refine cal_of A sc__law_answered (fun ds ω Q E h => by obtain ⟨a, Z, S, k, m, rfl, hat, hok, hk9, hm, q⟩ := h; rfl) ?_
  intro X f cdv Ar outer sh H E ds ω Qd Ed hX hr tk h'
  subst hX
  obtain ⟨a, Z, S, k, m, rfl, hat, hok, hk9, hm, q⟩ := h'
  show GSs _ H _ [some (.ref a), some (Msg.D m), none, none, none] ω _
  have hbig : sizeLine = 16777216 := sizeLine_eq
  have hok1 := hok.done (by omega) hm
  have hm0 := hm
  obtain ⟨m1, m2, m3, m4, m5, m6, m7, m8, m9⟩ := hm0
  show GSs _ _ _ [_, _, _, _, _] _ _
  refine gss_cons (gs_set 2 sc__law_answered.nd rfl (.inl rfl) ?_)
  refine ge_call (Ex := bodyX Ed) c__law_value_in (hr.mono (by decide)) tk rfl ?_
  refine ga_cons ?_
  refine ge_ix (fun _ _ => rfl) ?_
  refine ge_var 1 rfl (.inl rfl) rfl ?_
  refine ge_int ?_
  walk_at "i"
  refine ga_cons ?_
  refine ge_str [111, 110, 99, 101] (by decide +kernel) ?_
  refine ga_nil ?_
  refine ⟨_, _, rfl, ?_⟩
  rw [valOf_O]
  show GSs _ _ _ [_, _, _, _, _] _ _
  refine gss_cons (gs_if (gt_ev (match valO m.hs onceS with
  | none => false
  | some o => (lk S.known o).isSome) ?_ ⟨fun h1 => ?_, fun h2 => ?_⟩))
  · refine gt_bool ?_
    refine gw_and ?_
    refine gt_cmp (nomark _) ?_
    refine ge_var 2 rfl (.inl rfl) rfl ?_
    refine ge_non ?_
    refine gb_isnot ?_
    refine ⟨_, rfl, ?_⟩
    refine ⟨fun h3 => ?_, fun h4 => ?_⟩
    · rw [isNon_opt] at h3
      obtain ⟨o, eo⟩ : ∃ o, valO m.hs onceS = some o := by
        cases e : valO m.hs onceS with
        | none => rw [e] at h3; cases h3
        | some o => exact ⟨o, rfl⟩
      rw [eo]
      refine gw_and1 ?_
      refine gt_cmp rfl ?_
      refine ge_var 2 rfl (.inl rfl) rfl ?_
      refine ge_dget hr.units (fun _ _ => rfl) ?_
      refine ge_var 0 rfl (.inl rfl) rfl ?_
      refine ge_str [107, 110, 111, 119, 110] (by decide +kernel) ?_
      refine ⟨_, _, _, _, rfl, SAt.o (by assumption), rfl, sF_known _ _, ?_⟩
      refine gb_din hr.units (SAt.known (by assumption)) rfl ?_
      refine ⟨_, rfl, ?_⟩
      refine ⟨by walk_at "x", ?_⟩
      rw [valD_as]
      simp only []
      cases lk S.known o <;> rfl
    · skip
      refine ⟨by walk_at "x", ?_⟩
      rw [isNon_opt] at h4
      cases e : valO m.hs onceS with
      | none => rfl
      | some o => rw [e] at h4; cases h4
  · obtain ⟨o, eo⟩ : ∃ o, valO m.hs onceS = some o := by
      cases e : valO m.hs onceS with
      | none => rw [e] at h1; cases h1
      | some o => exact ⟨o, rfl⟩
    rw [eo] at h1 ⊢
    obtain ⟨an, ea⟩ : ∃ an, lk S.known o = some an := by
      cases e : lk S.known o with
      | none => simp [e] at h1
      | some an => exact ⟨an, rfl⟩
    have hf : askFn S m = (an, S) := by
      unfold askFn
      rw [eo]
      simp only []
      rw [ea]
    show GSs _ _ _ [_, _, _, _, _] _ _
    refine gss_one (gs_ret ?_)
    refine ge_dget hr.units (fun _ _ => rfl) ?_
    refine ge_dget hr.units (fun _ _ => rfl) ?_
    refine ge_var 0 rfl (.inl rfl) rfl ?_
    refine ge_str [107, 110, 111, 119, 110] (by decide +kernel) ?_
    refine ⟨_, _, _, _, rfl, SAt.o (by assumption), rfl, sF_known _ _, ?_⟩
    refine ge_var 2 rfl (.inl rfl) rfl ?_
    refine ⟨_, _, _, _, rfl, hat.known, rfl, din_at ea, ?_⟩
    rw [hf] at q
    exact rtq (Ext.refl _) (q _ HKeep.refl hat) rfl
  · skip
    refine gss_nil ?_
    show GSs _ _ _ [_, _, _, _, _] _ _
    refine gss_cons (gs_set 3 sc__law_answered.nd rfl (.inl rfl) ?_)
    refine ge_call (Ex := bodyX Ed) c__law_path_text (hr.mono (by decide)) tk rfl ?_
    refine ga_cons ?_
    refine ge_ix (fun _ _ => rfl) ?_
    refine ge_var 1 rfl (.inl rfl) rfl ?_
    refine ge_int ?_
    walk_at "i"
    refine ga_nil ?_
    refine ⟨m.ps, m.as, rfl, m2, m3, m4, m5, ?_⟩
    show GSs _ _ _ [_, _, _, _, _] _ _
    refine gss_cut (fun ρ2 ω2 => HKeep (Z.all a) ω ω2 ∧ SAt ω2 a Z (doneF S m).2 ∧ ρ2 = [some (.ref a), some m.D, some (optD (valO m.hs onceS)), some (.str m.key), some (anD (doneF S m).1)]) ?_ ?_
    · refine gs_if ?_
      refine gt_cmp rfl ?_
      refine ge_var 3 rfl (.inl rfl) rfl ?_
      refine ge_dget hr.units (fun _ _ => rfl) ?_
      refine ge_var 0 rfl (.inl rfl) rfl ?_
      refine ge_str [119, 97, 121, 115] (by decide +kernel) ?_
      refine ⟨_, _, _, _, rfl, SAt.o (by assumption), rfl, sF_ways _ _, ?_⟩
      refine gb_din hr.units (SAt.ways (by assumption)) rfl ?_
      refine ⟨_, rfl, ?_⟩
      refine ⟨fun h5 => ?_, fun h6 => ?_⟩
      · obtain ⟨x, e1, e2⟩ := din_some h5
        show GSs _ _ _ [_, _, _, _, _] _ _
        refine gss_one (gs_set 4 sc__law_answered.nd rfl (.inl rfl) ?_)
        refine ge_tup ?_
        refine ga_cons ?_
        refine ge_int ?_
        refine ga_cons ?_
        refine ge_tup ?_
        refine ga_cons ?_
        refine ge_tup ?_
        refine ga_cons ?_
        refine ge_str [116, 111] (by decide +kernel) ?_
        refine ga_cons ?_
        refine ge_dget hr.units (fun _ _ => rfl) ?_
        refine ge_dget hr.units (fun _ _ => rfl) ?_
        refine ge_var 0 rfl (.inl rfl) rfl ?_
        refine ge_str [119, 97, 121, 115] (by decide +kernel) ?_
        refine ⟨_, _, _, _, rfl, SAt.o (by assumption), rfl, sF_ways _ _, ?_⟩
        refine ge_var 3 rfl (.inl rfl) rfl ?_
        refine ⟨_, _, _, _, rfl, hat.ways, rfl, e2, ?_⟩
        refine ga_nil ?_
        refine ⟨show 2 ≤ sizeLine by decide, ?_⟩
        refine ga_nil ?_
        refine ⟨show 1 ≤ sizeLine by decide, ?_⟩
        refine ga_cons ?_
        refine ge_str [] (by decide +kernel) ?_
        refine ga_nil ?_
        refine ⟨show 3 ≤ sizeLine by decide, ?_⟩
        exact ⟨HKeep.refl, by rw [done_way e1]; exact hat, by rw [done_way e1]; rfl⟩
      · have hw := din_none h6
        show GSs _ _ _ [_, _, _, _, _] _ _
        refine gss_one (gs_if ?_)
        refine gt_cmp (nomark _) ?_
        refine ge_ix (fun _ _ => rfl) ?_
        refine ge_var 1 rfl (.inl rfl) rfl ?_
        refine ge_int ?_
        walk_at "i"
        refine ge_str [103, 101, 116] (by decide +kernel) ?_
        refine gb_eqS ?_
        refine ⟨_, rfl, ?_⟩
        refine ⟨fun h7 => ?_, fun h8 => ?_⟩
        · have h7 := of_decide_eq_true h7
          have hd := done_get hw h7
          show GSs _ _ _ [_, _, _, _, _] _ _
          refine gss_one (gs_set 4 sc__law_answered.nd rfl (.inl rfl) ?_)
          refine ge_call (Ex := bodyX Ed) c__law_got (hr.mono (by decide)) tk rfl ?_
          refine ga_cons ?_
          refine ge_var 0 rfl (.inl rfl) rfl ?_
          refine ga_cons ?_
          refine ge_var 3 rfl (.inl rfl) rfl ?_
          refine ga_cons ?_
          refine ge_ix (fun _ _ => rfl) ?_
          refine ge_var 1 rfl (.inl rfl) rfl ?_
          refine ge_int ?_
          walk_at "i"
          refine ga_nil ?_
          refine ⟨_, _, _, k, _, _, rfl, hat, hok, by omega, m7, ?_⟩
          rw [hd]
          exact ⟨HKeep.refl, hat, rfl⟩
        · have h8 := of_decide_eq_false h8
          show GSs _ _ _ [_, _, _, _, _] _ _
          refine gss_one (gs_set 4 sc__law_answered.nd rfl (.inl rfl) ?_)
          refine ge_call (Ex := bodyX Ed) c__law_changed (hr.mono (by decide)) tk rfl ?_
          refine ga_cons ?_
          refine ge_var 0 rfl (.inl rfl) rfl ?_
          refine ga_cons ?_
          refine ge_var 3 rfl (.inl rfl) rfl ?_
          refine ga_cons ?_
          refine ge_var 1 rfl (.inl rfl) rfl ?_
          refine ga_nil ?_
          refine ⟨_, _, _, k, m, rfl, hat, hok, hk9, hm, h8, hw, fun ω1 kp hat1 => ?_⟩
          exact ⟨kp, hat1, rfl⟩
    · rintro ρ2 ω2 ⟨kp, hat1, rfl⟩
      show GSs _ _ _ [_, _, _, _, _] _ _
      refine gss_cut (fun ρ3 ω3 => HKeep (Z.all a) ω ω3 ∧ SAt ω3 a Z (askFn S m).2 ∧ ρ3 = [some (.ref a), some m.D, some (optD (valO m.hs onceS)), some (.str m.key), some (anD (askFn S m).1)]) ?_ ?_
      · refine gs_if ?_
        refine gt_cmp (nomark _) ?_
        refine ge_var 2 rfl (.inl rfl) rfl ?_
        refine ge_non ?_
        refine gb_isnot ?_
        refine ⟨_, rfl, ?_⟩
        refine ⟨fun h9 => ?_, fun h10 => ?_⟩
        · rw [isNon_opt] at h9
          obtain ⟨o, eo⟩ : ∃ o, valO m.hs onceS = some o := by
            cases e : valO m.hs onceS with
            | none => rw [e] at h9; cases h9
            | some o => exact ⟨o, rfl⟩
          rw [eo] at h2 ⊢
          have ek : lk S.known o = none := by
            cases e : lk S.known o with
            | none => rfl
            | some an => simp [e] at h2
          have hf : askFn S m = ((doneF S m).1, { (doneF S m).2 with known := pk (doneF S m).2.known o (doneF S m).1 }) := by
            unfold askFn
            rw [eo]
            simp only []
            rw [ek]
          show GSs _ _ _ [_, _, _, _, _] _ _
          refine gss_one (gs_dput hr.units ?_)
          refine ge_var 4 rfl (.inl rfl) rfl ?_
          refine ge_dget hr.units (fun _ _ => rfl) ?_
          refine ge_var 0 rfl (.inl rfl) rfl ?_
          refine ge_str [107, 110, 111, 119, 110] (by decide +kernel) ?_
          refine ⟨_, _, _, _, rfl, SAt.o (by assumption), rfl, sF_known _ _, ?_⟩
          refine ge_var 2 rfl (.inl rfl) rfl ?_
          refine ⟨_, _, _, rfl, hat1.known, rfl, (by rw [asD_len, hok1.2.1]; have := hok.klen; omega), ?_⟩
          have hat2 := hat1.putKnown o (doneF S m).1
          rw [hf]
          exact ⟨kp.put (sm_k _ _), hat2, rfl⟩
        · rw [isNon_opt] at h10
          have hf : askFn S m = doneF S m := by
            unfold askFn
            cases e : valO m.hs onceS with
            | none => rfl
            | some o => rw [e] at h10; cases h10
          refine gss_nil ?_
          rw [hf]
          exact ⟨kp, hat1, rfl⟩
      · rintro ρ3 ω3 ⟨kp3, hat3, rfl⟩
        show GSs _ _ _ [_, _, _, _, _] _ _
        refine gss_one (gs_ret ?_)
        refine ge_var 4 rfl (.inl rfl) rfl ?_
        exact rtq (Ext.refl _) (q _ kp3 hat3) rfl
theorem sc_checked_heads : FnScope ["heads"] ["heads"] (defScope s_checked_heads) := ⟨rfl, rfl, rfl, by decide +kernel, rfl, by decide +kernel, by decide +kernel⟩
theorem ok_checked_heads {aBadHeads : Addr} (c_are_heads : Cal P w K mg base 4 "are_heads" sp_are_heads) (x_BadHeads : ExcC K mg "BadHeads" aBadHeads) (A : DefAt K mg "checked_heads" s_checked_heads ["heads"]) : Cal P w K mg base 5 "checked_heads" (sp_checked_heads aBadHeads) := by
  refine cal_of A sc_checked_heads (fun ds ω Q E h => by obtain ⟨d, rfl, hk, q, qe⟩ := h; rfl) ?_
  intro X f cdv Ar outer sh H E ds ω Qd Ed hX hr tk h'
  subst hX
  obtain ⟨d, rfl, hk, q, qe⟩ := h'
  show GSs _ H _ [some (d)] ω _
  show GSs _ _ _ [_] _ _
  refine gss_cons (gs_if ?_)
  refine gt_not ?_
  refine gt_truth (by intro _; rfl) ?_
  refine ge_call (Ex := bodyX Ed) c_are_heads (hr.mono (by decide)) tk rfl ?_
  refine ga_cons ?_
  refine ge_var 0 rfl (.inl rfl) rfl ?_
  refine ga_nil ?_
  refine ⟨d, rfl, hk, ?_⟩
  walk_at "t"
  refine ⟨fun h1 => ?_, fun h2 => ?_⟩
  · show GSs _ _ _ [_] _ _
    refine gss_one (gs_raise rfl tk (pmk_exc x_BadHeads rfl) ?_)
    exact bx1 (by walk_at "x") (qe (by simpa using h1))
  · refine gss_nil ?_
    show GSs _ _ _ [_] _ _
    refine gss_one (gs_ret ?_)
    refine ge_var 0 rfl (.inl rfl) rfl ?_
    exact rtq (by walk_at "x") (q (by simpa using h2)) rfl
theorem sc_look_head : FnScope ["name", "text"] ["name", "text"] (defScope s_look_head) := ⟨rfl, rfl, rfl, by decide +kernel, rfl, by decide +kernel, by decide +kernel⟩
theorem ok_look_head {aBadHeads : Addr} (c_is_head_name : Cal P w K mg base 1 "is_head_name" sp_is_head_name) (c_is_head_value : Cal P w K mg base 3 "is_head_value" sp_is_head_value) (x_BadHeads : ExcC K mg "BadHeads" aBadHeads) (A : DefAt K mg "look_head" s_look_head ["name", "text"]) : Cal P w K mg base 4 "look_head" (sp_look_head aBadHeads) := by
  refine cal_of A sc_look_head (fun ds ω Q E h => by obtain ⟨n, t, rfl, hk, hkt, q, qe⟩ := h; rfl) ?_
  intro X f cdv Ar outer sh H E ds ω Qd Ed hX hr tk h'
  subst hX
  obtain ⟨n, t, rfl, hk, hkt, q, qe⟩ := h'
  show GSs _ H _ [some (n), some (t)] ω _
  show GSs _ _ _ [_, _] _ _
  refine gss_one (gs_if (gt_ev (!lookD n t) ?_ ⟨fun h1 => ?_, fun h2 => ?_⟩))
  · refine gt_bool ?_
    refine gw_or ?_
    refine gt_not ?_
    refine gt_truth (by intro _; rfl) ?_
    refine ge_call (Ex := bodyX Ed) c_is_head_name (hr.mono (by decide)) tk rfl ?_
    refine ga_cons ?_
    refine ge_var 0 rfl (.inl rfl) rfl ?_
    refine ga_nil ?_
    refine ⟨n, rfl, hk, ?_⟩
    walk_at "t"
    refine ⟨fun h3 => ?_, fun h4 => ?_⟩
    · refine ⟨by walk_at "x", ?_⟩
      rw [lookD_no (by simpa using h3)]
      rfl
    · refine gw_or1 ?_
      refine gt_not ?_
      refine gt_truth (by intro _; rfl) ?_
      refine ge_call (Ex := bodyX Ed) c_is_head_value (hr.mono (by decide)) tk rfl ?_
      refine ga_cons ?_
      refine ge_var 0 rfl (.inl rfl) rfl ?_
      refine ga_cons ?_
      refine ge_var 1 rfl (.inl rfl) rfl ?_
      refine ga_nil ?_
      obtain ⟨s, rfl, hs⟩ := isHName_str (d := n) (by simpa using h4)
      refine ⟨s, t, rfl, hkt, ?_⟩
      walk_at "t"
      refine ⟨by walk_at "x", ?_⟩
      show (!isHValD s t) = !(hnL s && isHValD s t)
      rw [hs]
      rfl
  · show GSs _ _ _ [_, _] _ _
    refine gss_one (gs_raise rfl tk (pmk_exc x_BadHeads rfl) ?_)
    exact bx1 (by walk_at "x") (qe (by simpa using h1))
  · refine gss_nil ?_
    exact rtq (by walk_at "x") (q (by simpa using h2)) rfl
theorem sc_value_of : FnScope ["heads", "name"] ["heads", "name"] (defScope s_value_of) := ⟨rfl, rfl, rfl, by decide +kernel, rfl, by decide +kernel, by decide +kernel⟩
theorem ok_value_of {aBadHeads : Addr} (c_checked_heads : Cal P w K mg base 5 "checked_heads" (sp_checked_heads aBadHeads)) (c_look_head : Cal P w K mg base 4 "look_head" (sp_look_head aBadHeads)) (c_found_value : Cal P w K mg base 1 "found_value" sp_found_value) (A : DefAt K mg "value_of" s_value_of ["heads", "name"]) : Cal P w K mg base 6 "value_of" (sp_value_of aBadHeads) := by
  refine cal_of A sc_value_of (fun ds ω Q E h => by obtain ⟨h, n, rfl, hk, hkn, q, qe⟩ := h; rfl) ?_
  intro X f cdv Ar outer sh H E ds ω Qd Ed hX hr tk h'
  subst hX
  obtain ⟨h, n, rfl, hk, hkn, q, qe⟩ := h'
  show GSs _ H _ [some (h), some (n)] ω _
  show GSs _ _ _ [_, _] _ _
  refine gss_cons (gs_expr ?_)
  refine ge_call (Ex := bodyX Ed) c_checked_heads (hr.mono (by decide)) tk rfl ?_
  refine ga_cons ?_
  refine ge_var 0 rfl (.inl rfl) rfl ?_
  refine ga_nil ?_
  refine ⟨h, rfl, hk, fun hh => ?_, fun hz => bx1 (by walk_at "x") (qe (by rw [hz]; rfl))⟩
  show GSs _ _ _ [_, _] _ _
  refine gss_cons (gs_expr ?_)
  refine ge_call (Ex := bodyX Ed) c_look_head (hr.mono (by decide)) tk rfl ?_
  refine ga_cons ?_
  refine ge_var 1 rfl (.inl rfl) rfl ?_
  refine ga_cons ?_
  refine ge_str [] (by decide +kernel) ?_
  refine ga_nil ?_
  refine ⟨n, _, rfl, hkn, rfl, fun hn => ?_, fun hz => bx1 (by walk_at "x") (qe (by rw [look_nil] at hz; rw [hz, Bool.and_false]))⟩
  rw [look_nil] at hn
  obtain ⟨hs, rfl, hl, hok⟩ := isHeads_of hh
  obtain ⟨s, rfl, hs1⟩ := isHName_str hn
  show GSs _ _ _ [_, _] _ _
  refine gss_one (gs_ret ?_)
  refine ge_call (Ex := bodyX Ed) c_found_value (hr.mono (by decide)) tk rfl ?_
  refine ga_cons ?_
  refine ge_var 0 rfl (.inl rfl) rfl ?_
  refine ga_cons ?_
  refine ge_var 1 rfl (.inl rfl) rfl ?_
  refine ga_nil ?_
  refine ⟨hs, s, rfl, ?_⟩
  exact rtq (by walk_at "x") (q hs s rfl hl hok rfl hs1) rfl
theorem sc_House_things : FnScope ["self", "key"] ["self"] (defScope s_House_things) := ⟨rfl, rfl, rfl, by decide +kernel, rfl, by decide +kernel, by decide +kernel⟩
theorem ok_House_things {aHouse : Addr} (B : Bl mg) (cl_House : Cls K aHouse) (na_House__held : NoAttr K aHouse "held") (mc_House__mark : MCal P w K mg base 1 aHouse "mark" (sp_House_mark aHouse)) (A : MAt K aHouse "things" "House.things" s_House_things ["self"]) : MCal P w K mg base 2 aHouse "things" (sp_House_things aHouse) := by
  refine mcal_of A sc_House_things (fun ds ω Q E h => by obtain ⟨p, A, S, k, rfl, hat, hok, hk6, q⟩ := h; rfl) ?_
  intro X f cdv Ar outer sh H E ds ω Qd Ed hX hr tk h'
  subst hX
  obtain ⟨p, A, S, k, rfl, hat, hok, hk6, q⟩ := h'
  show GSs _ H _ [some (.ref p), none] ω _
  have hbig : sizeLine = 16777216 := sizeLine_eq
  have hlen := hok.len
  show GSs _ _ _ [_, _] _ _
  refine gss_one (gs_ret ?_)
  refine ge_lc (own := [("key", 1)]) (js := [1]) (split := sp1) rfl sc_House_things.nd tg_name (by decide) (blkOk_by (own := [("key", 1)]) (N := ["self", "key"]) (sc := defScope s_House_things) (by decide +kernel)) (fun _ _ _ _ _ => pg_name (i := 1) sc_House_things.nd rfl (Or.inl rfl)) ?_
  refine gj_lst ?_
  refine ge_callB B.«sorted» rfl bb_sorted ?_
  refine ga_cons ?_
  refine ge_fld cl_House na_House__held ?_
  refine ge_var 0 rfl (.inr (.inl rfl)) rfl ?_
  refine ⟨_, _, _, _, rfl, HAt.o (by assumption), hF_held _ _, ?_⟩
  refine ga_nil ?_
  refine gc_sortedD rfl hat.held (held_keys S) (by rw [List.length_map]; omega) (fun j m => by
    obtain ⟨x, hx, rfl⟩ := List.mem_map.mp m
    have := (hok.key x hx).1
    omega) fun ys hys hso l0 nl => ?_
  walk_at "j"
  try intro hz
  refine lc_pure (fun d => true) (fun d => thingD S (strOf d)) (by rw [List.length_map, hys.length_eq, List.length_map]; omega) (fun _ x => by first | trivial | exact x _ _ (by walk_at "o")) ?_ ?_
  · rintro d ω1 hd x1
    obtain ⟨key, hkm, rfl⟩ := List.mem_map.mp hd
    have hat1 := (hat.ext (Ext.new nl)).ext x1
    obtain ⟨x, ex⟩ := lk_of_mem (hys.mem_iff.mp hkm)
    refine ⟨_, rfl, fun s H C cl fp => ?_, fun hc s H C cl fp => ?_⟩
    · exact ⟨by walk_at "x", rfl⟩
    · refine ge_tup ?_
      refine ga_cons ?_
      refine ge_var 1 rfl (.inl rfl) rfl ?_
      refine ga_cons ?_
      refine ge_ix (fun _ _ => rfl) ?_
      refine ge_dget hr.units (fun _ _ => rfl) ?_
      refine ge_fld cl_House na_House__held ?_
      refine ge_var 0 rfl (.inr (.inl rfl)) rfl ?_
      refine ⟨_, _, _, _, rfl, HAt.o (by assumption), hF_held _ _, ?_⟩
      refine ge_var 1 rfl (.inl rfl) rfl ?_
      refine ⟨_, _, _, _, rfl, hat1.held, rfl, din_at ex, ?_⟩
      refine ge_int ?_
      walk_at "i"
      refine ga_cons ?_
      refine ge_meth (Ex := fun _ _ _ _ => False) mc_House__mark cl_House (hr.mono (by decide)) xw0 ?_
      refine ge_var 0 rfl (.inr (.inl rfl)) rfl ?_
      refine ⟨_, _, _, rfl, HAt.o (by assumption), hF_no (by decide +kernel), ?_⟩
      refine ga_cons ?_
      refine ge_var 1 rfl (.inl rfl) rfl ?_
      refine ga_nil ?_
      refine ⟨_, _, _, _, _, rfl, hat1, hok, by omega, ?_⟩
      refine ga_nil ?_
      refine ⟨show 3 ≤ sizeLine by decide, ?_⟩
      refine ⟨by walk_at "x", ?_⟩
      show _ = D.tup [.str key, .str ((lk S.held key).getD ([], 0)).1, .str (markF S key)]
      rw [ex]
      rfl
  · intro p1 np2
    rw [things_eq]
    exact rtq (ext_put (Ext.new nl)) (q ys hys hso _ (put_none np2).2) rfl
theorem sc_House_changes : FnScope ["self"] ["self"] (defScope s_House_changes) := ⟨rfl, rfl, rfl, by decide +kernel, rfl, by decide +kernel, by decide +kernel⟩
theorem ok_House_changes {aHouse : Addr} (cl_House : Cls K aHouse) (na_House__many : NoAttr K aHouse "many") (A : MAt K aHouse "changes" "House.changes" s_House_changes ["self"]) : MCal P w K mg base 1 aHouse "changes" (sp_House_changes aHouse) := by
  refine mcal_of A sc_House_changes (fun ds ω Q E h => by obtain ⟨p, A, S, rfl, hat, q⟩ := h; rfl) ?_
  intro X f cdv Ar outer sh H E ds ω Qd Ed hX hr tk h'
  subst hX
  obtain ⟨p, A, S, rfl, hat, q⟩ := h'
  show GSs _ H _ [some (.ref p)] ω _
  show GSs _ _ _ [_] _ _
  refine gss_one (gs_ret ?_)
  refine ge_fld cl_House na_House__many ?_
  refine ge_var 0 rfl (.inl rfl) rfl ?_
  refine ⟨_, _, _, _, rfl, HAt.o (by assumption), hF_many _ _, ?_⟩
  exact rtq (by walk_at "x") q (by walk_at "eq")
theorem sc_law : FnScope ["_law_script", "_law_fresh", "_law_house", "_law_other", "_law_near", "_law_state", "_law_now", "_law_k", "_law_seed_here", "_law_asking", "_law_how", "_law_answer", "_law_due"] ["_law_script"] (defScope s_law) := ⟨rfl, rfl, rfl, by decide +kernel, rfl, by decide +kernel, by decide +kernel⟩
theorem ok_law {aHouse aBadNumber aNear aBadAsking aBadHeads : Addr} (c__law_cell : Cal P w K mg base 1 "_law_cell" sp__law_cell) (n_House : NCal P w K mg base 2 "House" aHouse (sp_House___init__ aHouse aBadNumber)) (n_Near : NCal P w K mg base 1 "Near" aNear (sp_Near___init__ aNear)) (B : Bl mg) (c__law_mix : Cal P w K mg base 1 "_law_mix" sp__law_mix) (c__law_seed : Cal P w K mg base 1 "_law_seed" sp__law_seed) (c__law_deed : Cal P w K mg base 4 "_law_deed" sp__law_deed) (cl_Near : Cls K aNear) (mc_Near__ask : MCal P w K mg base 9 aNear "ask" (sp_Near_ask aNear aHouse aBadAsking aBadNumber)) (cl_House : Cls K aHouse) (mc_House__ask : MCal P w K mg base 7 aHouse "ask" (sp_House_ask aHouse aBadAsking)) (c__law_answered : Cal P w K mg base 5 "_law_answered" sp__law_answered) (c_value_of : Cal P w K mg base 6 "value_of" (sp_value_of aBadHeads)) (mc_House__things : MCal P w K mg base 2 aHouse "things" (sp_House_things aHouse)) (mc_House__changes : MCal P w K mg base 1 aHouse "changes" (sp_House_changes aHouse)) {f : Addr} {fd : FuncData} (A : Fun K "law" "law" s_law f fd) : FnOk P w K mg base (L2.CX P w) 10 f fd ["_law_script"] (toSp K sp_law) := by
  refine fn_ok A sc_law (fun ds ω Q E h => by obtain ⟨a, ns, rfl, hs0, hl, q⟩ := h; rfl) ?_
  intro X cdv Ar outer sh H E ds ω Qd Ed hX hr tk h'
  subst hX
  obtain ⟨a, ns, rfl, hs0, hl, q⟩ := h'
  show GSs _ H _ [some (.ref a), none, none, none, none, none, none, none, none, none, none, none, none] ω _
  have hS : Sc ω a (ns.map D.int) := .inl hs0
  have hbig : sizeLine = 16777216 := sizeLine_eq
  show GSs _ _ _ [_, _, _, _, _, _, _, _, _, _, _, _, _] _ _
  refine gss_cons (gs_set 1 sc_law.nd rfl (.inl rfl) ?_)
  refine ge_ix (fun _ _ => rfl) ?_
  refine ge_lst ?_
  refine ga_cons ?_
  refine ge_int ?_
  refine ga_cons ?_
  refine ge_int ?_
  refine ga_cons ?_
  refine ge_int ?_
  refine ga_cons ?_
  refine ge_int ?_
  refine ga_cons ?_
  refine ge_int ?_
  refine ga_nil ?_
  refine ⟨show 5 ≤ sizeLine by decide, fun p1 np2 => ?_⟩
  refine ge_bin ?_
  refine ge_call (Ex := bodyX Ed) c__law_cell (hr.mono (by decide)) tk rfl ?_
  refine ga_cons ?_
  refine ge_var 0 rfl (.inl rfl) rfl ?_
  refine ga_cons ?_
  refine ge_int ?_
  refine ga_nil ?_
  refine ⟨a, ns, 0, rfl, hS.ext (Ext.new np2), ?_⟩
  refine ge_int ?_
  refine gb_mod (by first | decide | omega | (simp only [List.length_map]; omega)) ?_
  refine gi_all (fun d => ∃ f : Nat, d = D.int ((f : Nat) : Int) ∧ f ≤ 999) put_same (Int.emod_nonneg _ (by decide)) (Int.emod_lt_of_pos _ (by decide)) (all_cons ⟨0, rfl, by decide⟩ (all_cons ⟨1, rfl, by decide⟩ (all_cons ⟨5, rfl, by decide⟩ (all_cons ⟨20, rfl, by decide⟩ (all_cons ⟨999, rfl, by decide⟩ all_nil))))) ?_
  rintro d ⟨fr, rfl, hfr⟩
  have x0 : Ext ω (put ω p1 (.lst [.int 0, .int 1, .int 5, .int 20, .int 999])) := Ext.new np2
  generalize put ω p1 (.lst [.int 0, .int 1, .int 5, .int 20, .int 999]) = ω0 at x0 ⊢
  show GSs _ _ _ [_, _, _, _, _, _, _, _, _, _, _, _, _] _ _
  refine gss_cons (gs_set 2 sc_law.nd rfl (.inl rfl) ?_)
  refine ge_make (Ex := bodyX Ed) n_House (hr.mono (by decide)) tk rfl ?_
  refine ga_cons ?_
  refine ge_var 1 rfl (.inl rfl) rfl ?_
  refine ga_nil ?_
  intro p3 dxp3 np4
  refine ⟨p3, dxp3, _, rfl, rfl, put_same, fun fr' e hfr' ωh A kh hat0 hnew => ⟨rfl, ?_⟩, fun hz => by
    exfalso
    have : withinD (.int (fr : Nat)) 0 999 = true := by
      show (decide (0 ≤ ((fr : Nat) : Int)) && decide (((fr : Nat) : Int) ≤ 999)) = true
      rw [decide_eq_true (by omega), decide_eq_true (by omega)]
      rfl
    rw [this] at hz
    cases hz⟩
  cases Int.ofNat.inj (D.int.inj e)
  have hAn : ∀ x ∈ A.all p3, ω0 x = none := fun x m => by
    rcases List.mem_cons.mp m with rfl | m
    · exact np4
    · exact (put_none (hnew x m)).2
  have xh : Ext ω0 ωh := fun b u e => kh b u (Ext.new np4 b u e) (by
    intro mz
    rw [List.mem_singleton.mp mz, np4] at e
    cases e)
  show GSs _ _ _ [_, _, _, _, _, _, _, _, _, _, _, _, _] _ _
  refine gss_cons (gs_set 3 sc_law.nd rfl (.inl rfl) ?_)
  refine ge_make (Ex := bodyX Ed) n_House (hr.mono (by decide)) tk rfl ?_
  refine ga_cons ?_
  refine ge_var 1 rfl (.inl rfl) rfl ?_
  refine ga_nil ?_
  intro p5 dxp5 np6
  refine ⟨p5, dxp5, _, rfl, rfl, put_same, fun fr' e hfr' ωg A2 kg hat20 hnew => ⟨rfl, ?_⟩, fun hz => by
    exfalso
    have : withinD (.int (fr : Nat)) 0 999 = true := by
      show (decide (0 ≤ ((fr : Nat) : Int)) && decide (((fr : Nat) : Int) ≤ 999)) = true
      rw [decide_eq_true (by omega), decide_eq_true (by omega)]
      rfl
    rw [this] at hz
    cases hz⟩
  cases Int.ofNat.inj (D.int.inj e)
  have hBn : ∀ x ∈ A2.all p5, ωh x = none := fun x m => by
    rcases List.mem_cons.mp m with rfl | m
    · exact np6
    · exact (put_none (hnew x m)).2
  have xg : Ext ωh ωg := fun b u e => kg b u (Ext.new np6 b u e) (by
    intro mz
    rw [List.mem_singleton.mp mz, np6] at e
    cases e)
  show GSs _ _ _ [_, _, _, _, _, _, _, _, _, _, _, _, _] _ _
  refine gss_cons (gs_set 4 sc_law.nd rfl (.inl rfl) ?_)
  refine ge_make0 (Ex := bodyX Ed) n_Near (hr.mono (by decide)) tk rfl fun p7 dxp7 np8 => ?_
  have hat1 := hat0.ext xg
  have dj12 : ∀ x ∈ A.all p3, x ∉ A2.all p5 := disj_new (ω' := ω) hat0.addrs hBn
  refine ⟨p7, dxp7, rfl, put_same, fun ωn AN kn0 hkt0 hqn => ⟨rfl, ?_⟩⟩
  have hNn : ∀ x ∈ AN.all p7, ωg x = none := fun x m => by
    simp only [List.mem_cons, List.not_mem_nil, or_false] at m
    rcases m with rfl | rfl
    · exact np8
    · exact (put_none hqn).2
  have xn : Ext ωg ωn := fun b u e => kn0 b u (Ext.new np8 b u e) (by
    intro mz
    rw [List.mem_singleton.mp mz, np8] at e
    cases e)
  have djN : ∀ x ∈ A.all p3, x ∉ AN.all p7 := disj_new (ω' := ω) hat1.addrs hNn
  have djM : ∀ x ∈ A2.all p5, x ∉ AN.all p7 := disj_new (ω' := ω) hat20.addrs hNn
  have hat3 := hat1.ext xn
  have hat23 := hat20.ext xn
  show GSs _ _ _ [_, _, _, _, _, _, _, _, _, _, _, _, _] _ _
  refine gss_cons (gs_set 5 sc_law.nd rfl (.inl rfl) ?_)
  refine ge_disp (by rfl) (by rfl) (by simp) (by decide) fun p9 np10 => ?_
  refine gps_cons ?_
  refine ge_str [104, 101, 108, 100] (by decide +kernel) ?_
  refine ge_dnew fun p11 np12 => ?_
  refine gps_cons ?_
  refine ge_str [109, 97, 110, 121] (by decide +kernel) ?_
  refine ge_int ?_
  refine gps_cons ?_
  refine ge_str [110, 117, 109, 98, 101, 114, 115] (by decide +kernel) ?_
  refine ge_dnew fun p13 np14 => ?_
  refine gps_cons ?_
  refine ge_str [107, 110, 111, 119, 110] (by decide +kernel) ?_
  refine ge_dnew fun p15 np16 => ?_
  refine gps_cons ?_
  refine ge_str [119, 97, 121, 115] (by decide +kernel) ?_
  refine ge_dnew fun p17 np18 => ?_
  refine gps_cons ?_
  refine ge_str [102, 114, 101, 115, 104] (by decide +kernel) ?_
  refine ge_var 1 rfl (.inl rfl) rfl ?_
  refine gps_nil ?_
  refine ⟨?_, [(sk heldS, .ref p11), (sk manyS, .int 0), (sk numsS, .ref p13), (sk knownS, .ref p15), (sk waysS, .ref p17), (sk freshS, .int (fr : Nat))], rfl, (by show 6 ≤ 15; decide), ?_⟩
  · exact Ext.new np18 _ _ (Ext.new np16 _ _ (Ext.new np14 _ _ (Ext.new np12 _ _ put_same)))
  obtain ⟨sat, xs, hZn⟩ := state_made (n := fr) np10 np12 np14 np16 np18
  have hat2 := hat3.ext xs
  have hat22 := hat23.ext xs
  have hkt2 := (hkt0 fr).ext xs
  have djZ : ∀ x ∈ A.all p3, x ∉ SA.all ⟨p11, p13, p15, p17⟩ p9 := disj_new (ω' := ω) hat3.addrs hZn
  have djY : ∀ x ∈ A2.all p5, x ∉ SA.all ⟨p11, p13, p15, p17⟩ p9 := disj_new (ω' := ω) hat23.addrs hZn
  have djK : ∀ x ∈ AN.all p7, x ∉ SA.all ⟨p11, p13, p15, p17⟩ p9 := disj_new (ω' := ω) (hkt0 fr).addrs hZn
  have xall := x0.trans (xh.trans (xg.trans (xn.trans xs)))
  have hAo : ∀ x ∈ A.all p3, ω x = none := fun x m => ext_none x0 (hAn x m)
  have hBo : ∀ x ∈ A2.all p5, ω x = none := fun x m => ext_none (x0.trans xh) (hBn x m)
  have hNo : ∀ x ∈ AN.all p7, ω x = none := fun x m => ext_none (x0.trans (xh.trans xg)) (hNn x m)
  have hZo : ∀ x ∈ SA.all ⟨p11, p13, p15, p17⟩ p9, ω x = none := fun x m => ext_none (x0.trans (xh.trans (xg.trans xn))) (hZn x m)
  show GSs _ _ _ [_, _, _, _, _, _, _, _, _, _, _, _, _] _ _
  refine gss_cons (gs_set 6 sc_law.nd rfl (.inl rfl) ?_)
  refine ge_int ?_
  show GSs _ _ _ [_, _, _, _, _, _, _, _, _, _, _, _, _] _ _
  refine gss_cons (gs_for (fun _ i ρ1 ω1 => ∃ S N t y7 y8 y9 y10 y11 y12, Ext ω ω1 ∧ HAt aHouse ω1 p3 A S ∧ HAt aHouse ω1 p5 A2 S ∧ KAt aNear ω1 p7 AN fr N t ∧ SAt ω1 p9 ⟨p11, p13, p15, p17⟩ S ∧ HOk S i ∧ NT S N (2 * i) t ∧ KJ S N ∧ S.ways = [] ∧ S.fresh = fr ∧ t ≤ 12 * i ∧ ρ1 = [some (.ref a), some (.int (fr : Nat)), some (.ref p3), some (.ref p5), some (.ref p7), some (.ref p9), some (.int (t : Nat)), y7, y8, y9, y10, y11, y12]) (passes_of rfl) rfl ?_)
  refine gj_range1 B.«range» rfl ?_
  refine ge_bin ?_
  refine ge_int ?_
  refine ge_call (Ex := bodyX Ed) c__law_mix (hr.mono (by decide)) tk rfl ?_
  refine ga_cons ?_
  refine ge_call (Ex := bodyX Ed) c__law_cell (hr.mono (by decide)) tk rfl ?_
  refine ga_cons ?_
  refine ge_var 0 rfl (.inl rfl) rfl ?_
  refine ga_cons ?_
  refine ge_int ?_
  refine ga_nil ?_
  refine ⟨a, ns, 1, rfl, hS.ext xall, ?_⟩
  refine ga_cons ?_
  refine ge_int ?_
  refine ga_cons ?_
  refine ge_int ?_
  refine ga_nil ?_
  refine ⟨_, _, _, rfl, by decide, by decide, by first | decide | omega, ?_⟩
  walk_at "bp"
  have hmx := mixF_lo (c := cellF ns 1) (p := 9949) (m := 16) (by decide)
  have hmx2 := mixF_hi (c := cellF ns 1) (p := 9949) (m := 16) (by decide)
  refine ⟨_, rfl, ⟨by omega, by omega⟩, ?_⟩
  have hln : (rngD 0 (1 + mixF (cellF ns 1) 9949 16).toNat).length ≤ 16 := by unfold rngD; rw [List.length_map, List.length_range]; omega
  try intro hz
  refine ⟨⟨HS.new fr, [], 0, none, none, none, none, none, none, xall, hat2, hat22, hkt2, sat, HOk.new (by omega), ⟨NOk.new, (fun _ m => nomatch m)⟩, (fun _ _ h => nomatch h), rfl, rfl, Nat.zero_le _, rfl⟩, fun _ _ _ _ _ => trivial, ?_, ?_⟩
  · rintro i d ρ1 ω1 hd ⟨S, N, t, y7, y8, y9, y10, y11, y12, x1, hat, hbt, hkt, sat, hok, hnt, hkj, hwy, hfS, ht, rfl⟩
    obtain ⟨hi, rfl⟩ := rngD_at hd
    have hi16 : i < 16 := by omega
    refine gg_name 7 sc_law.nd rfl (.inl rfl) ?_
    show GSs _ _ _ [_, _, _, _, _, _, _, _, _, _, _, _, _] _ _
    refine gss_cons (gs_set 8 sc_law.nd rfl (.inl rfl) ?_)
    refine ge_call (Ex := bodyX Ed) c__law_seed (hr.mono (by decide)) tk rfl ?_
    refine ga_cons ?_
    refine ge_bin ?_
    refine ge_call (Ex := bodyX Ed) c__law_cell (hr.mono (by decide)) tk rfl ?_
    refine ga_cons ?_
    refine ge_var 0 rfl (.inl rfl) rfl ?_
    refine ga_cons ?_
    refine ge_bin ?_
    refine ge_int ?_
    refine ge_bin ?_
    refine ge_var 7 rfl (.inl rfl) rfl ?_
    refine ge_int ?_
    refine gb_mod (by first | decide | omega | (simp only [List.length_map]; omega)) ?_
    walk_at "bp"
    refine ga_nil ?_
    refine ⟨a, ns, 2 + i % 9, by rw [show (2 : Int) + (0 + (i : Nat)) % 9 = ((2 + i % 9 : Nat) : Int) by omega], hS.ext x1, ?_⟩
    refine ge_var 7 rfl (.inl rfl) rfl ?_
    walk_at "bp"
    refine ga_cons ?_
    refine ge_var 7 rfl (.inl rfl) rfl ?_
    refine ga_nil ?_
    refine ⟨_, _, rfl, ?_⟩
    generalize hsd : seedF (cellF ns (2 + i % 9) + (0 + (i : Nat))) (0 + (i : Nat)) = sd
    have hsd0 : 0 ≤ sd := by rw [← hsd]; exact seedF_lo _ _
    show GSs _ _ _ [_, _, _, _, _, _, _, _, _, _, _, _, _] _ _
    refine gss_cons (gs_aug 6 sc_law.nd rfl (.inl rfl) rfl ?_)
    refine ge_ix (fun _ _ => rfl) ?_
    refine ge_lst ?_
    refine ga_cons ?_
    refine ge_int ?_
    refine ga_cons ?_
    refine ge_int ?_
    refine ga_cons ?_
    refine ge_int ?_
    refine ga_cons ?_
    refine ge_int ?_
    refine ga_nil ?_
    refine ⟨show 4 ≤ sizeLine by decide, fun p19 np20 => ?_⟩
    refine ge_bin ?_
    refine ge_bin ?_
    refine ge_var 8 rfl (.inl rfl) rfl ?_
    refine ge_int ?_
    refine gb_div ⟨by decide, by decide⟩ ?_
    refine ge_int ?_
    refine gb_mod (by first | decide | omega | (simp only [List.length_map]; omega)) ?_
    refine gi_all (fun d => ∃ f : Nat, d = D.int ((f : Nat) : Int) ∧ f ≤ 12) put_same (Int.emod_nonneg _ (by decide)) (Int.emod_lt_of_pos _ (by decide)) (all_cons ⟨0, rfl, by decide⟩ (all_cons ⟨1, rfl, by decide⟩ (all_cons ⟨3, rfl, by decide⟩ (all_cons ⟨12, rfl, by decide⟩ all_nil)))) ?_
    rintro d ⟨dd, rfl, hdd⟩
    have x2 : Ext ω1 (put ω1 p19 (.lst [.int 0, .int 1, .int 3, .int 12])) := Ext.new np20
    generalize put ω1 p19 (.lst [.int 0, .int 1, .int 3, .int 12]) = ω2 at x2 ⊢
    have x1 := x1.trans x2
    have hat := hat.ext x2
    have hkt := hkt.ext x2
    have sat := sat.ext x2
    have hbt := hbt.ext x2
    refine gbi_add ?_
    show GSs _ _ _ [_, _, _, _, _, _, _, _, _, _, _, _, _] _ _
    refine gss_cons (gs_set 9 sc_law.nd rfl (.inl rfl) ?_)
    refine ge_call (Ex := bodyX Ed) c__law_deed (hr.mono (by decide)) tk rfl ?_
    refine ga_cons ?_
    refine ge_var 8 rfl (.inl rfl) rfl ?_
    refine ga_cons ?_
    refine ge_var 5 rfl (.inl rfl) rfl ?_
    refine ga_nil ?_
    refine ⟨_, _, _, _, _, rfl, hsd0, sat, hok, by omega, fun m0 hm0 _ _ _ => ?_⟩
    show GSs _ _ _ [_, _, _, _, _, _, _, _, _, _, _, _, _] _ _
    refine gss_cut (fun ρ2 ω3 => ω3 = ω2 ∧ ∃ m : Msg, m.ok ∧ ρ2 = [some (.ref a), some (.int (fr : Nat)), some (.ref p3), some (.ref p5), some (.ref p7), some (.ref p9), some (.int ((t + dd : Nat) : Int)), some (.int (0 + (i : Nat))), some (.int sd), some m.D, y10, y11, y12]) ?_ ?_
    · refine gs_if ?_
      refine gt_cmp (nomark _) ?_
      refine ge_bin ?_
      refine ge_bin ?_
      refine ge_var 8 rfl (.inl rfl) rfl ?_
      refine ge_int ?_
      refine gb_div ⟨by decide, by decide⟩ ?_
      refine ge_int ?_
      refine gb_mod (by first | decide | omega | (simp only [List.length_map]; omega)) ?_
      refine ge_int ?_
      refine gb_eqI ?_
      refine ⟨_, rfl, ?_⟩
      refine ⟨fun h21 => ?_, fun h22 => ?_⟩
      · skip
        show GSs _ _ _ [_, _, _, _, _, _, _, _, _, _, _, _, _] _ _
        refine gss_one (gs_set 9 sc_law.nd rfl (.inl rfl) ?_)
        refine ge_tup ?_
        refine ga_cons ?_
        refine ge_str [103, 101, 116] (by decide +kernel) ?_
        refine ga_cons ?_
        refine ge_ix (fun _ _ => rfl) ?_
        refine ge_var 9 rfl (.inl rfl) rfl ?_
        refine ge_int ?_
        walk_at "i"
        refine ga_cons ?_
        refine ge_bin ?_
        refine ge_tup ?_
        refine ga_cons ?_
        refine ge_tup ?_
        refine ga_cons ?_
        refine ge_str [97] (by decide +kernel) ?_
        refine ga_cons ?_
        refine ge_str [98] (by decide +kernel) ?_
        refine ga_nil ?_
        refine ⟨show 2 ≤ sizeLine by decide, ?_⟩
        refine ga_nil ?_
        refine ⟨show 1 ≤ sizeLine by decide, ?_⟩
        refine ge_bin ?_
        refine ge_bin ?_
        refine ge_var 8 rfl (.inl rfl) rfl ?_
        refine ge_int ?_
        refine gb_div ⟨by decide, by decide⟩ ?_
        refine ge_int ?_
        refine gb_mod (by first | decide | omega | (simp only [List.length_map]; omega)) ?_
        have hn9 := Int.emod_lt_of_pos (sd / 79) (show (0 : Int) < 9 by decide)
        have hn0 := Int.emod_nonneg (sd / 79) (show (9 : Int) ≠ 0 by decide)
        refine gb_mulT9 (List.cons_ne_nil _ _) hn0 (by omega) (by decide) ?_
        rw [show (List.replicate (sd / 79 % 9).toNat [D.tup [.str [97], .str [98]]]).flatten = (List.replicate (sd / 79 % 9).toNat ([97], [98])).map hdD from rep_hd (sd / 79 % 9).toNat ([97], [98])]
        refine ga_cons ?_
        refine ge_str [] (by decide +kernel) ?_
        refine ga_nil ?_
        refine ⟨show 4 ≤ sizeLine by decide, ?_⟩
        exact ⟨rfl, Msg.mk getS m0.ps m0.as (List.replicate (sd / 79 % 9).toNat ([97], [98])) [], rep_ok (by omega) m0 hm0, rfl⟩
      · skip
        refine gss_nil ?_
        exact ⟨rfl, m0, hm0, rfl⟩
    · rintro ρ2 ω3 ⟨rfl, m, hm, rfl⟩
      have hok3 := hok.ask (by omega) hm
      have hwk : lk S.ways m.key = none := by rw [hwy]; rfl
      have hst := near_state (N := N) (now := t + dd) hwk
      have hna := near_as hkj (now := t + dd) hwk
      have hkj2 := hkj.near (now := t + dd) hwk
      have hkm : m.key.length ≤ 1000 ∧ okT m.key = true := key_ok hm.2.2.2.1 hm.2.2.2.2.1 hm.2.1 hm.2.2.1
      have hnt2 : NT (askFn S m).2 (nearFn S N m (t + dd)).2.2 (2 * (i + 1)) (t + dd) := NT.near (k := 2 * i + 1) (hok.mono (by omega)) (hnt.mono (S' := S) (Nat.le_succ _) (Nat.le_add_right t dd)) hkm
      have han := near_okA (now := t + dd) hok (by omega) hnt (by omega) hm (by omega)
      rw [hst] at hkj2
      show GSs _ _ _ [_, _, _, _, _, _, _, _, _, _, _, _, _] _ _
      refine gss_cons (gs_asg ?_)
      refine ge_meth (Ex := bodyX Ed) mc_Near__ask cl_Near (hr.mono (by decide)) tk ?_
      refine ge_var 4 rfl (.inl rfl) rfl ?_
      refine ⟨_, _, _, rfl, KAt.o (by assumption), nF_no (by decide +kernel), ?_⟩
      refine ga_cons ?_
      refine ge_var 2 rfl (.inl rfl) rfl ?_
      refine ga_cons ?_
      refine ge_var 9 rfl (.inl rfl) rfl ?_
      refine ga_cons ?_
      refine ge_var 6 rfl (.inl rfl) rfl ?_
      refine ga_nil ?_
      refine ⟨p7, AN, p3, A, S, i, N, t, 2 * i, m, t + dd, rfl, by rw [hfS]; exact hkt, hat, disj_sym djN, hok, by omega, hnt.ok, by omega, hm, hwy, by omega, by omega, fun x hx => Nat.le_trans (hnt.t x hx) (by omega), fun ω6 k6 hkt6 hat6 => ?_⟩
      rw [hfS] at hkt6
      rw [hst] at hat6
      have k6d : ∀ x ∈ AN.all p7 ++ A.all p3, ω x = none := fun x hx => (List.mem_append.mp hx).elim (hNo x) (hAo x)
      have sat6 := sat.keep k6 (fun x hx h => (List.mem_append.mp h).elim (fun h => djK x h hx) (fun h => djZ x h hx))
      have hbt6 := hbt.keep k6 (fun x hx h => (List.mem_append.mp h).elim (fun h => djM x hx h) (fun h => dj12 x h hx))
      have x6 := ext_keep x1 k6 k6d
      skip
      refine gg_tup rfl rfl ?_
      refine ggs_cons ?_
      refine gg_name 10 sc_law.nd rfl (.inl rfl) ?_
      refine ggs_cons ?_
      refine gg_name 11 sc_law.nd rfl (.inl rfl) ?_
      refine ggs_nil ?_
      show GSs _ _ _ [_, _, _, _, _, _, _, _, _, _, _, _, _] _ _
      refine gss_cons (gs_set 12 sc_law.nd rfl (.inl rfl) ?_)
      refine ge_meth (Ex := bodyX Ed) mc_House__ask cl_House (hr.mono (by decide)) tk ?_
      refine ge_var 3 rfl (.inl rfl) rfl ?_
      refine ⟨_, _, _, rfl, HAt.o (by assumption), hF_no (by decide +kernel), ?_⟩
      refine ga_cons ?_
      refine ge_var 9 rfl (.inl rfl) rfl ?_
      refine ga_nil ?_
      refine ⟨p5, m.D, rfl, msg_kn _ _ _ _ _ _, ⟨A2, S, _, hbt6, hok, by omega, fun m' e hm' ω7 k7 hbt7 => ?_⟩, fun hz => by rw [msg_ok hm] at hz; cases hz⟩
      cases Msg.inj e
      have sat7 := sat6.keep k7 (disj_sym djY)
      have hat7 := hat6.keep k7 dj12
      have hkt7 := hkt6.keep k7 (disj_sym djM)
      have x7 := ext_keep x6 k7 hBo
      show GSs _ _ _ [_, _, _, _, _, _, _, _, _, _, _, _, _] _ _
      refine gss_cons (gs_expr ?_)
      refine ge_call (Ex := bodyX Ed) c__law_answered (hr.mono (by decide)) tk rfl ?_
      refine ga_cons ?_
      refine ge_var 5 rfl (.inl rfl) rfl ?_
      refine ga_cons ?_
      refine ge_var 9 rfl (.inl rfl) rfl ?_
      refine ga_nil ?_
      refine ⟨_, _, _, _, m, rfl, sat7, hok, by omega, hm, fun ω8 k8 sat8 => ?_⟩
      have hat8 := hat7.keep k8 djZ
      have hbt8 := hbt7.keep k8 djY
      have hkt8 := hkt7.keep k8 djK
      have x8 := ext_keep x7 k8 hZo
      generalize nearFn S N m (t + dd) = nr at hst hna hkj2 hnt2 han hkt8 ⊢
      have hcb : nr.1.2.1 = (askFn S m).1.1 ∧ nr.1.2.2.2 = (askFn S m).1.2.2 ∧ valO nr.1.2.2.1 markS = valO (askFn S m).1.2.1 markS := by
        rcases hna with ⟨_, h⟩ | ⟨_, h1, h2, h3, _⟩
        · rw [h]; exact ⟨rfl, rfl, rfl⟩
        · exact ⟨h1, h2, h3⟩
      show GSs _ _ _ [_, _, _, _, _, _, _, _, _, _, _, _, _] _ _
      refine gss_cons (gs_if ?_)
      refine gt_bool ?_
      refine gw_or ?_
      refine gt_cmp rfl ?_
      refine ge_var 10 rfl (.inl rfl) rfl ?_
      refine ge_tup ?_
      refine ga_cons ?_
      refine ge_str [99, 111, 112, 121] (by decide +kernel) ?_
      refine ga_cons ?_
      refine ge_str [114, 101, 110, 101, 119, 101, 100] (by decide +kernel) ?_
      refine ga_cons ?_
      refine ge_str [102, 97, 114] (by decide +kernel) ?_
      refine ga_nil ?_
      refine ⟨show 3 ≤ sizeLine by decide, ?_⟩
      refine gb_notInT (ys := [copyS, renS, farS]) ?_
      refine ⟨_, rfl, ?_⟩
      refine ⟨fun h23 => ?_, fun h24 => ?_⟩
      · skip
        refine ⟨fun _ => ?_, fun hz => by cases hz⟩
        show GSs _ _ _ [_, _, _, _, _, _, _, _, _, _, _, _, _] _ _
        refine gss_one (gs_ret ?_)
        refine ge_bl ?_
        have h23 := of_decide_eq_false (nb1 h23)
        rcases hna with ⟨h, _⟩ | ⟨h | h, _⟩ <;> rw [h] at h23 <;> exact absurd (by decide) h23
      · skip
        refine gw_or1 ?_
        refine gt_cmp (nomark _) ?_
        refine ge_tup ?_
        refine ga_cons ?_
        refine ge_ix (fun _ _ => rfl) ?_
        refine ge_var 11 rfl (.inl rfl) rfl ?_
        refine ge_int ?_
        walk_at "i"
        refine ga_cons ?_
        refine ge_ix (fun _ _ => rfl) ?_
        refine ge_var 11 rfl (.inl rfl) rfl ?_
        refine ge_int ?_
        walk_at "i"
        refine ga_nil ?_
        refine ⟨show 2 ≤ sizeLine by decide, ?_⟩
        refine ge_tup ?_
        refine ga_cons ?_
        refine ge_ix (fun _ _ => rfl) ?_
        refine ge_var 12 rfl (.inl rfl) rfl ?_
        refine ge_int ?_
        walk_at "i"
        refine ga_cons ?_
        refine ge_ix (fun _ _ => rfl) ?_
        refine ge_var 12 rfl (.inl rfl) rfl ?_
        refine ge_int ?_
        walk_at "i"
        refine ga_nil ?_
        refine ⟨show 2 ≤ sizeLine by decide, ?_⟩
        refine gb_neDe hr.units ?_ ?_ ?_
        · show (true && (pl 11 (.str nr.1.2.2.2) && true)) = true
          rw [pl_okS 11 han.2.2.2.2.2]
          rfl
        · rw [hcb.1, hcb.2.1]
        refine ⟨_, rfl, ?_⟩
        refine ⟨fun h25 => ?_, fun h26 => ?_⟩
        · skip
          show GSs _ _ _ [_, _, _, _, _, _, _, _, _, _, _, _, _] _ _
          refine gss_one (gs_ret ?_)
          refine ge_bl ?_
          cases h25
        · skip
          refine gss_nil ?_
          show GSs _ _ _ [_, _, _, _, _, _, _, _, _, _, _, _, _] _ _
          refine gss_one (gs_if ?_)
          refine gt_bool ?_
          refine gw_or ?_
          refine gt_bool ?_
          refine gw_and ?_
          refine gt_cmp (nomark _) ?_
          refine ge_var 10 rfl (.inl rfl) rfl ?_
          refine ge_str [102, 97, 114] (by decide +kernel) ?_
          refine gb_eqS ?_
          refine ⟨_, rfl, ?_⟩
          refine ⟨fun h27 => ?_, fun h28 => ?_⟩
          · have hfar : nr.1.1 = farS := of_decide_eq_true h27
            have hae : nr.1.2 = (askFn S m).1 := by
              rcases hna with ⟨_, h⟩ | ⟨h | h, _⟩
              · exact h
              · rw [hfar] at h; exact absurd h (by decide)
              · rw [hfar] at h; exact absurd h (by decide)
            refine gw_and1 ?_
            refine gt_cmp (nomark _) ?_
            refine ge_var 11 rfl (.inl rfl) rfl ?_
            refine ge_var 12 rfl (.inl rfl) rfl ?_
            refine gb_neDe hr.units (okAn_pl han) (by rw [hae]) ?_
            refine ⟨_, rfl, ?_⟩
            refine ⟨fun h29 => ?_, fun h30 => ?_⟩
            · skip
              refine ⟨fun _ => ?_, fun hz => by cases hz⟩
              show GSs _ _ _ [_, _, _, _, _, _, _, _, _, _, _, _, _] _ _
              refine gss_one (gs_ret ?_)
              refine ge_bl ?_
              cases h29
            · skip
              refine gw_or1 ?_
              refine gt_cmp (nomark _) ?_
              refine ge_call (Ex := bodyX Ed) c_value_of (hr.mono (by decide)) tk rfl ?_
              refine ga_cons ?_
              refine ge_ix (fun _ _ => rfl) ?_
              refine ge_var 11 rfl (.inl rfl) rfl ?_
              refine ge_int ?_
              walk_at "i"
              refine ga_cons ?_
              refine ge_str [109, 97, 114, 107] (by decide +kernel) ?_
              refine ga_nil ?_
              refine ⟨_, _, rfl, hs_kn _ _, rfl, fun hs s e1 hl ho e2 hn => ?_, fun hz => ?_⟩
              rotate_left
              · rw [isHeads_hs, decide_eq_true han.2.2.1, han.2.2.2.1] at hz
                cases hz
              obtain rfl := hsD_inj e1
              cases e2
              rw [valOf_O]
              refine ge_call (Ex := bodyX Ed) c_value_of (hr.mono (by decide)) tk rfl ?_
              refine ga_cons ?_
              refine ge_ix (fun _ _ => rfl) ?_
              refine ge_var 12 rfl (.inl rfl) rfl ?_
              refine ge_int ?_
              walk_at "i"
              refine ga_cons ?_
              refine ge_str [109, 97, 114, 107] (by decide +kernel) ?_
              refine ga_nil ?_
              refine ⟨_, _, rfl, hs_kn _ _, rfl, fun hs s e1 hl ho e2 hn => ?_, fun hz => ?_⟩
              rotate_left
              · rw [isHeads_hs, decide_eq_true hok3.2.1.2.2.1, hok3.2.1.2.2.2.1] at hz
                cases hz
              obtain rfl := hsD_inj e1
              cases e2
              rw [valOf_O]
              refine gb_neDe hr.units (valO_pl han.2.2.2.1 _) (congrArg optD hcb.2.2) ?_
              refine ⟨_, rfl, ?_⟩
              refine ⟨fun h31 => ?_, fun h32 => ?_⟩
              · skip
                show GSs _ _ _ [_, _, _, _, _, _, _, _, _, _, _, _, _] _ _
                refine gss_one (gs_ret ?_)
                refine ge_bl ?_
                cases h31
              · skip
                refine gss_nil ?_
                exact ⟨_, _, t + dd, _, _, _, _, _, _, x8, hat8, hbt8, hkt8, sat8, hok3.1, hnt2, hkj2, hok3.2.2.trans hwy, (ask_fresh S m).trans hfS, by omega, rfl⟩
          · skip
            refine ⟨fun hz => (by cases hz), fun _ => ?_⟩
            refine gw_or1 ?_
            refine gt_cmp (nomark _) ?_
            refine ge_call (Ex := bodyX Ed) c_value_of (hr.mono (by decide)) tk rfl ?_
            refine ga_cons ?_
            refine ge_ix (fun _ _ => rfl) ?_
            refine ge_var 11 rfl (.inl rfl) rfl ?_
            refine ge_int ?_
            walk_at "i"
            refine ga_cons ?_
            refine ge_str [109, 97, 114, 107] (by decide +kernel) ?_
            refine ga_nil ?_
            refine ⟨_, _, rfl, hs_kn _ _, rfl, fun hs s e1 hl ho e2 hn => ?_, fun hz => ?_⟩
            rotate_left
            · rw [isHeads_hs, decide_eq_true han.2.2.1, han.2.2.2.1] at hz
              cases hz
            obtain rfl := hsD_inj e1
            cases e2
            rw [valOf_O]
            refine ge_call (Ex := bodyX Ed) c_value_of (hr.mono (by decide)) tk rfl ?_
            refine ga_cons ?_
            refine ge_ix (fun _ _ => rfl) ?_
            refine ge_var 12 rfl (.inl rfl) rfl ?_
            refine ge_int ?_
            walk_at "i"
            refine ga_cons ?_
            refine ge_str [109, 97, 114, 107] (by decide +kernel) ?_
            refine ga_nil ?_
            refine ⟨_, _, rfl, hs_kn _ _, rfl, fun hs s e1 hl ho e2 hn => ?_, fun hz => ?_⟩
            rotate_left
            · rw [isHeads_hs, decide_eq_true hok3.2.1.2.2.1, hok3.2.1.2.2.2.1] at hz
              cases hz
            obtain rfl := hsD_inj e1
            cases e2
            rw [valOf_O]
            refine gb_neDe hr.units (valO_pl han.2.2.2.1 _) (congrArg optD hcb.2.2) ?_
            refine ⟨_, rfl, ?_⟩
            refine ⟨fun h33 => ?_, fun h34 => ?_⟩
            · skip
              show GSs _ _ _ [_, _, _, _, _, _, _, _, _, _, _, _, _] _ _
              refine gss_one (gs_ret ?_)
              refine ge_bl ?_
              cases h33
            · skip
              refine gss_nil ?_
              exact ⟨_, _, t + dd, _, _, _, _, _, _, x8, hat8, hbt8, hkt8, sat8, hok3.1, hnt2, hkj2, hok3.2.2.trans hwy, (ask_fresh S m).trans hfS, by omega, rfl⟩
  · rintro ρ1 ω1 ⟨S, N, t, y7, y8, y9, y10, y11, y12, x1, hat, hbt, hkt, sat, hok, hnt, hkj, hwy, hfS, ht, rfl⟩
    have hok := hok.mono (show (rngD 0 (1 + mixF (cellF ns 1) 9949 16).toNat).length ≤ 16 by omega)
    show GSs _ _ _ [_, _, _, _, _, _, _, _, _, _, _, _, _] _ _
    refine gss_one (gs_ret ?_)
    refine ge_and ?_
    refine ge_cmp (nomark _) ?_
    refine ge_meth0 (Ex := bodyX Ed) mc_House__things cl_House (hr.mono (by decide)) tk ?_
    refine ge_var 2 rfl (.inl rfl) rfl ?_
    refine ⟨_, _, _, rfl, HAt.o (by assumption), hF_no (by decide +kernel), ?_⟩
    refine ⟨_, _, _, _, rfl, hat, hok, by omega, fun zs hzs hzo l6 nl6 => ?_⟩
    have hatX := hat.ext (Ext.new (m := .lst (zs.map (thingD S))) nl6)
    have hatY := hbt.ext (Ext.new (m := .lst (zs.map (thingD S))) nl6)
    refine ge_meth0 (Ex := bodyX Ed) mc_House__things cl_House (hr.mono (by decide)) tk ?_
    refine ge_var 3 rfl (.inl rfl) rfl ?_
    refine ⟨_, _, _, rfl, HAt.o (by assumption), hF_no (by decide +kernel), ?_⟩
    refine ⟨_, _, _, _, rfl, hatY, hok, by omega, fun ys hys hyo l7 nl7 => ?_⟩
    cases sorted_uniq (hzs.trans hys.symm) hzo hyo
    have hatX2 := hatX.ext (Ext.new (m := .lst (zs.map (thingD S))) nl7)
    have hatY2 := hatY.ext (Ext.new (m := .lst (zs.map (thingD S))) nl7)
    refine gb_eqLe hr.units (Ext.new nl7 _ _ put_same) put_same (things_pl hok hzs) rfl ?_
    walk_at "t"
    refine ⟨fun h35 => ?_, fun h36 => ?_⟩
    · skip
      refine ge_one ?_
      refine ge_cmp (nomark _) ?_
      refine ge_meth0 (Ex := bodyX Ed) mc_House__changes cl_House (hr.mono (by decide)) tk ?_
      refine ge_var 2 rfl (.inl rfl) rfl ?_
      refine ⟨_, _, _, rfl, HAt.o (by assumption), hF_no (by decide +kernel), ?_⟩
      refine ⟨_, _, _, rfl, hatX2, ?_⟩
      refine ge_meth0 (Ex := bodyX Ed) mc_House__changes cl_House (hr.mono (by decide)) tk ?_
      refine ge_var 3 rfl (.inl rfl) rfl ?_
      refine ⟨_, _, _, rfl, HAt.o (by assumption), hF_no (by decide +kernel), ?_⟩
      refine ⟨_, _, _, rfl, hatY2, ?_⟩
      refine gb_eqI ?_
      rw [show decide (((S.many : Nat) : Int) = ((S.many : Nat) : Int)) = true by simp]
      exact rtq (x1.trans ((Ext.new nl6).trans (Ext.new nl7))) q rfl
    · skip
      cases h36
end
theorem all_mk {w : World} {K : PySem.W.Frag} {h : Heap} {mg : Str → Option Value} {fa : Addr} (X : K.In h) (G : h.Ns mainGlobals mg) (hfa : mg "law" = some (.ref fa))
    {aHouse : Addr} {aNear : Addr} {f0 : Addr} {od0 an0 : Option Addr} {sl0 : Array (Option Value)} {oc0 kV0 dc0 pm0 cd0 ct0 : Value} {f1 : Addr} {od1 an1 : Option Addr} {sl1 : Array (Option Value)} {oc1 kV1 dc1 pm1 cd1 ct1 : Value} {f2 : Addr} {od2 an2 : Option Addr} {sl2 : Array (Option Value)} {oc2 kV2 dc2 pm2 cd2 ct2 : Value} {f3 : Addr} {od3 an3 : Option Addr} {sl3 : Array (Option Value)} {oc3 kV3 dc3 pm3 cd3 ct3 : Value} {f4 : Addr} {od4 an4 : Option Addr} {sl4 : Array (Option Value)} {oc4 kV4 dc4 pm4 cd4 ct4 : Value} {f5 : Addr} {od5 an5 : Option Addr} {sl5 : Array (Option Value)} {oc5 kV5 dc5 pm5 cd5 ct5 : Value} {f6 : Addr} {od6 an6 : Option Addr} {sl6 : Array (Option Value)} {oc6 kV6 dc6 pm6 cd6 ct6 : Value} {f7 : Addr} {od7 an7 : Option Addr} {sl7 : Array (Option Value)} {oc7 kV7 dc7 pm7 cd7 ct7 : Value} {f8 : Addr} {od8 an8 : Option Addr} {sl8 : Array (Option Value)} {oc8 kV8 dc8 pm8 cd8 ct8 : Value} {f9 : Addr} {od9 an9 : Option Addr} {sl9 : Array (Option Value)} {oc9 kV9 dc9 pm9 cd9 ct9 : Value} {f10 : Addr} {od10 an10 : Option Addr} {sl10 : Array (Option Value)} {oc10 kV10 dc10 pm10 cd10 ct10 : Value} {f11 : Addr} {od11 an11 : Option Addr} {sl11 : Array (Option Value)} {oc11 kV11 dc11 pm11 cd11 ct11 : Value} {f12 : Addr} {od12 an12 : Option Addr} {sl12 : Array (Option Value)} {oc12 kV12 dc12 pm12 cd12 ct12 : Value} {f13 : Addr} {od13 an13 : Option Addr} {sl13 : Array (Option Value)} {oc13 kV13 dc13 pm13 cd13 ct13 : Value} {f14 : Addr} {od14 an14 : Option Addr} {sl14 : Array (Option Value)} {oc14 kV14 dc14 pm14 cd14 ct14 : Value} {f15 : Addr} {od15 an15 : Option Addr} {sl15 : Array (Option Value)} {oc15 kV15 dc15 pm15 cd15 ct15 : Value} {f16 : Addr} {od16 an16 : Option Addr} {sl16 : Array (Option Value)} {oc16 kV16 dc16 pm16 cd16 ct16 : Value} {f17 : Addr} {od17 an17 : Option Addr} {sl17 : Array (Option Value)} {oc17 kV17 dc17 pm17 cd17 ct17 : Value} {f18 : Addr} {od18 an18 : Option Addr} {sl18 : Array (Option Value)} {oc18 kV18 dc18 pm18 cd18 ct18 : Value} {f19 : Addr} {od19 an19 : Option Addr} {sl19 : Array (Option Value)} {oc19 kV19 dc19 pm19 cd19 ct19 : Value} {f20 : Addr} {od20 an20 : Option Addr} {sl20 : Array (Option Value)} {oc20 kV20 dc20 pm20 cd20 ct20 : Value} {f21 : Addr} {od21 an21 : Option Addr} {sl21 : Array (Option Value)} {oc21 kV21 dc21 pm21 cd21 ct21 : Value} {f22 : Addr} {od22 an22 : Option Addr} {sl22 : Array (Option Value)} {oc22 kV22 dc22 pm22 cd22 ct22 : Value} {f23 : Addr} {od23 an23 : Option Addr} {sl23 : Array (Option Value)} {oc23 kV23 dc23 pm23 cd23 ct23 : Value} {f24 : Addr} {od24 an24 : Option Addr} {sl24 : Array (Option Value)} {oc24 kV24 dc24 pm24 cd24 ct24 : Value} {f25 : Addr} {od25 an25 : Option Addr} {sl25 : Array (Option Value)} {oc25 kV25 dc25 pm25 cd25 ct25 : Value} {f26 : Addr} {od26 an26 : Option Addr} {sl26 : Array (Option Value)} {oc26 kV26 dc26 pm26 cd26 ct26 : Value} {f27 : Addr} {od27 an27 : Option Addr} {sl27 : Array (Option Value)} {oc27 kV27 dc27 pm27 cd27 ct27 : Value} {f28 : Addr} {od28 an28 : Option Addr} {sl28 : Array (Option Value)} {oc28 kV28 dc28 pm28 cd28 ct28 : Value} {f29 : Addr} {od29 an29 : Option Addr} {sl29 : Array (Option Value)} {oc29 kV29 dc29 pm29 cd29 ct29 : Value} {f30 : Addr} {od30 an30 : Option Addr} {sl30 : Array (Option Value)} {oc30 kV30 dc30 pm30 cd30 ct30 : Value} {f31 : Addr} {od31 an31 : Option Addr} {sl31 : Array (Option Value)} {oc31 kV31 dc31 pm31 cd31 ct31 : Value} {f32 : Addr} {od32 an32 : Option Addr} {sl32 : Array (Option Value)} {oc32 kV32 dc32 pm32 cd32 ct32 : Value} {f33 : Addr} {od33 an33 : Option Addr} {sl33 : Array (Option Value)} {oc33 kV33 dc33 pm33 cd33 ct33 : Value} {f34 : Addr} {od34 an34 : Option Addr} {sl34 : Array (Option Value)} {oc34 kV34 dc34 pm34 cd34 ct34 : Value} {f35 : Addr} {od35 an35 : Option Addr} {sl35 : Array (Option Value)} {oc35 kV35 dc35 pm35 cd35 ct35 : Value} {f36 : Addr} {od36 an36 : Option Addr} {sl36 : Array (Option Value)} {oc36 kV36 dc36 pm36 cd36 ct36 : Value} {f37 : Addr} {od37 an37 : Option Addr} {sl37 : Array (Option Value)} {oc37 kV37 dc37 pm37 cd37 ct37 : Value} {f38 : Addr} {od38 an38 : Option Addr} {sl38 : Array (Option Value)} {oc38 kV38 dc38 pm38 cd38 ct38 : Value} {f39 : Addr} {od39 an39 : Option Addr} {sl39 : Array (Option Value)} {oc39 kV39 dc39 pm39 cd39 ct39 : Value} {f40 : Addr} {od40 an40 : Option Addr} {sl40 : Array (Option Value)} {oc40 kV40 dc40 pm40 cd40 ct40 : Value} {f41 : Addr} {od41 an41 : Option Addr} {sl41 : Array (Option Value)} {oc41 kV41 dc41 pm41 cd41 ct41 : Value} {f42 : Addr} {od42 an42 : Option Addr} {sl42 : Array (Option Value)} {oc42 kV42 dc42 pm42 cd42 ct42 : Value} {f43 : Addr} {od43 an43 : Option Addr} {sl43 : Array (Option Value)} {oc43 kV43 dc43 pm43 cd43 ct43 : Value} {f44 : Addr} {od44 an44 : Option Addr} {sl44 : Array (Option Value)} {oc44 kV44 dc44 pm44 cd44 ct44 : Value} {f45 : Addr} {od45 an45 : Option Addr} {sl45 : Array (Option Value)} {oc45 kV45 dc45 pm45 cd45 ct45 : Value} {f46 : Addr} {od46 an46 : Option Addr} {sl46 : Array (Option Value)} {oc46 kV46 dc46 pm46 cd46 ct46 : Value} {f47 : Addr} {od47 an47 : Option Addr} {sl47 : Array (Option Value)} {oc47 kV47 dc47 pm47 cd47 ct47 : Value} {f48 : Addr} {od48 an48 : Option Addr} {sl48 : Array (Option Value)} {oc48 kV48 dc48 pm48 cd48 ct48 : Value} {f49 : Addr} {od49 an49 : Option Addr} {sl49 : Array (Option Value)} {oc49 kV49 dc49 pm49 cd49 ct49 : Value} {f50 : Addr} {od50 an50 : Option Addr} {sl50 : Array (Option Value)} {oc50 kV50 dc50 pm50 cd50 ct50 : Value} {f51 : Addr} {od51 an51 : Option Addr} {sl51 : Array (Option Value)} {oc51 kV51 dc51 pm51 cd51 ct51 : Value} {aBadNumber : Addr} {aBadAsking : Addr} {aBadHeads : Addr} {uSIGNS : Str} {tSIGNS : Tok} {pOWN : Addr} {odOWN : Option Addr} {itOWN : Array Value} {nOWN : Nat} {slOWN : Array (Option Value)} {uSMALL : Str} {tSMALL : Tok} {tMOST : Tok} {pWORDS : Addr} {odWORDS : Option Addr} {itWORDS : Array Value} {nWORDS : Nat} {slWORDS : Array (Option Value)} {tMOST_BODY : Tok} {uPLAIN : Str} {tPLAIN : Tok} {uLINE : Str} {tLINE : Tok} {uFIGURES : Str} {tFIGURES : Tok} {tMOST_PARTS : Tok}
    (zHouseg : PySem.W.nsIn K mainGlobals "House" = some (some (.ref aHouse)))
    (zHouse1 : PySem.W.plainGet K aHouse Str.empty = true)
    (zHouse2 : PySem.W.hasDictIn K aHouse = true)
    (zHouse3 : PySem.W.plainOver K aHouse = true)
    (zHouse4 : PySem.W.findIn K (.ref aHouse) "__setattr__" = some (some (.builtin "object.__setattr__")))
    (zHouse5 : PySem.W.makesIn K aHouse = true)
    (zHouse6 : PySem.W.keepIn K (.ref aHouse) = true)
    (zNearg : PySem.W.nsIn K mainGlobals "Near" = some (some (.ref aNear)))
    (zNear1 : PySem.W.plainGet K aNear Str.empty = true)
    (zNear2 : PySem.W.hasDictIn K aNear = true)
    (zNear3 : PySem.W.plainOver K aNear = true)
    (zNear4 : PySem.W.findIn K (.ref aNear) "__setattr__" = some (some (.builtin "object.__setattr__")))
    (zNear5 : PySem.W.makesIn K aNear = true)
    (zNear6 : PySem.W.keepIn K (.ref aNear) = true)
    (zHouse_fresh : PySem.W.findIn K (.ref aHouse) "fresh" = some none)
    (zHouse_held : PySem.W.findIn K (.ref aHouse) "held" = some none)
    (zHouse_many : PySem.W.findIn K (.ref aHouse) "many" = some none)
    (zHouse_numbers : PySem.W.findIn K (.ref aHouse) "numbers" = some none)
    (zHouse_known : PySem.W.findIn K (.ref aHouse) "known" = some none)
    (zHouse_ways : PySem.W.findIn K (.ref aHouse) "ways" = some none)
    (zNear_kept : PySem.W.findIn K (.ref aNear) "kept" = some none)
    (zNear_last : PySem.W.findIn K (.ref aNear) "last" = some none)
    (a0 : PySem.W.nsIn K mainGlobals "_law_cell" = some (some (.ref f0)))
    (l0 : K.lookup f0 = some ⟨oc0, od0, .func (PySem.W.fnOf "_law_cell" "_law_cell" (defArgs s__law_cell) (defBody s__law_cell) (defScope s__law_cell) .none kV0 dc0 pm0 an0 cd0 ct0), sl0⟩)
    (c0 : PySem.W.codeIn K cd0 "_law_cell" = true)
    (k0 : PySem.W.keepIn K (.ref f0) = true)
    (a1 : PySem.W.nsIn K mainGlobals "is_within" = some (some (.ref f1)))
    (l1 : K.lookup f1 = some ⟨oc1, od1, .func (PySem.W.fnOf "is_within" "is_within" (defArgs s_is_within) (defBody s_is_within) (defScope s_is_within) .none kV1 dc1 pm1 an1 cd1 ct1), sl1⟩)
    (c1 : PySem.W.codeIn K cd1 "is_within" = true)
    (k1 : PySem.W.keepIn K (.ref f1) = true)
    (a2 : PySem.W.findIn K (.ref aHouse) "__init__" = some (some (.ref f2)))
    (i2 : PySem.W.isFn K (.ref f2) = true)
    (l2 : K.lookup f2 = some ⟨oc2, od2, .func (PySem.W.fnOf "__init__" "House.__init__" (defArgs s_House___init__) (defBody s_House___init__) (defScope s_House___init__) .none kV2 dc2 pm2 an2 cd2 ct2), sl2⟩)
    (c2 : PySem.W.codeIn K cd2 "House.__init__" = true)
    (k2 : PySem.W.keepIn K (.ref f2) = true)
    (a3 : PySem.W.findIn K (.ref aNear) "__init__" = some (some (.ref f3)))
    (i3 : PySem.W.isFn K (.ref f3) = true)
    (l3 : K.lookup f3 = some ⟨oc3, od3, .func (PySem.W.fnOf "__init__" "Near.__init__" (defArgs s_Near___init__) (defBody s_Near___init__) (defScope s_Near___init__) .none kV3 dc3 pm3 an3 cd3 ct3), sl3⟩)
    (c3 : PySem.W.codeIn K cd3 "Near.__init__" = true)
    (k3 : PySem.W.keepIn K (.ref f3) = true)
    (a4 : PySem.W.nsIn K mainGlobals "_law_mix" = some (some (.ref f4)))
    (l4 : K.lookup f4 = some ⟨oc4, od4, .func (PySem.W.fnOf "_law_mix" "_law_mix" (defArgs s__law_mix) (defBody s__law_mix) (defScope s__law_mix) .none kV4 dc4 pm4 an4 cd4 ct4), sl4⟩)
    (c4 : PySem.W.codeIn K cd4 "_law_mix" = true)
    (k4 : PySem.W.keepIn K (.ref f4) = true)
    (a5 : PySem.W.nsIn K mainGlobals "_law_seed" = some (some (.ref f5)))
    (l5 : K.lookup f5 = some ⟨oc5, od5, .func (PySem.W.fnOf "_law_seed" "_law_seed" (defArgs s__law_seed) (defBody s__law_seed) (defScope s__law_seed) .none kV5 dc5 pm5 an5 cd5 ct5), sl5⟩)
    (c5 : PySem.W.codeIn K cd5 "_law_seed" = true)
    (k5 : PySem.W.keepIn K (.ref f5) = true)
    (a6 : PySem.W.nsIn K mainGlobals "_law_place" = some (some (.ref f6)))
    (l6 : K.lookup f6 = some ⟨oc6, od6, .func (PySem.W.fnOf "_law_place" "_law_place" (defArgs s__law_place) (defBody s__law_place) (defScope s__law_place) .none kV6 dc6 pm6 an6 cd6 ct6), sl6⟩)
    (c6 : PySem.W.codeIn K cd6 "_law_place" = true)
    (k6 : PySem.W.keepIn K (.ref f6) = true)
    (a7 : PySem.W.nsIn K mainGlobals "_law_signs" = some (some (.ref f7)))
    (l7 : K.lookup f7 = some ⟨oc7, od7, .func (PySem.W.fnOf "_law_signs" "_law_signs" (defArgs s__law_signs) (defBody s__law_signs) (defScope s__law_signs) .none kV7 dc7 pm7 an7 cd7 ct7), sl7⟩)
    (c7 : PySem.W.codeIn K cd7 "_law_signs" = true)
    (k7 : PySem.W.keepIn K (.ref f7) = true)
    (a8 : PySem.W.nsIn K mainGlobals "_law_quote" = some (some (.ref f8)))
    (l8 : K.lookup f8 = some ⟨oc8, od8, .func (PySem.W.fnOf "_law_quote" "_law_quote" (defArgs s__law_quote) (defBody s__law_quote) (defScope s__law_quote) .none kV8 dc8 pm8 an8 cd8 ct8), sl8⟩)
    (c8 : PySem.W.codeIn K cd8 "_law_quote" = true)
    (k8 : PySem.W.keepIn K (.ref f8) = true)
    (a9 : PySem.W.nsIn K mainGlobals "_law_path_text" = some (some (.ref f9)))
    (l9 : K.lookup f9 = some ⟨oc9, od9, .func (PySem.W.fnOf "_law_path_text" "_law_path_text" (defArgs s__law_path_text) (defBody s__law_path_text) (defScope s__law_path_text) .none kV9 dc9 pm9 an9 cd9 ct9), sl9⟩)
    (c9 : PySem.W.codeIn K cd9 "_law_path_text" = true)
    (k9 : PySem.W.keepIn K (.ref f9) = true)
    (a10 : PySem.W.nsIn K mainGlobals "_law_pick" = some (some (.ref f10)))
    (l10 : K.lookup f10 = some ⟨oc10, od10, .func (PySem.W.fnOf "_law_pick" "_law_pick" (defArgs s__law_pick) (defBody s__law_pick) (defScope s__law_pick) .none kV10 dc10 pm10 an10 cd10 ct10), sl10⟩)
    (c10 : PySem.W.codeIn K cd10 "_law_pick" = true)
    (k10 : PySem.W.keepIn K (.ref f10) = true)
    (a11 : PySem.W.nsIn K mainGlobals "_law_text" = some (some (.ref f11)))
    (l11 : K.lookup f11 = some ⟨oc11, od11, .func (PySem.W.fnOf "_law_text" "_law_text" (defArgs s__law_text) (defBody s__law_text) (defScope s__law_text) .none kV11 dc11 pm11 an11 cd11 ct11), sl11⟩)
    (c11 : PySem.W.codeIn K cd11 "_law_text" = true)
    (k11 : PySem.W.keepIn K (.ref f11) = true)
    (a12 : PySem.W.nsIn K mainGlobals "_law_deed" = some (some (.ref f12)))
    (l12 : K.lookup f12 = some ⟨oc12, od12, .func (PySem.W.fnOf "_law_deed" "_law_deed" (defArgs s__law_deed) (defBody s__law_deed) (defScope s__law_deed) .none kV12 dc12 pm12 an12 cd12 ct12), sl12⟩)
    (c12 : PySem.W.codeIn K cd12 "_law_deed" = true)
    (k12 : PySem.W.keepIn K (.ref f12) = true)
    (a13 : PySem.W.nsIn K mainGlobals "is_text" = some (some (.ref f13)))
    (l13 : K.lookup f13 = some ⟨oc13, od13, .func (PySem.W.fnOf "is_text" "is_text" (defArgs s_is_text) (defBody s_is_text) (defScope s_is_text) .none kV13 dc13 pm13 an13 cd13 ct13), sl13⟩)
    (c13 : PySem.W.codeIn K cd13 "is_text" = true)
    (k13 : PySem.W.keepIn K (.ref f13) = true)
    (a14 : PySem.W.nsIn K mainGlobals "is_path" = some (some (.ref f14)))
    (l14 : K.lookup f14 = some ⟨oc14, od14, .func (PySem.W.fnOf "is_path" "is_path" (defArgs s_is_path) (defBody s_is_path) (defScope s_is_path) .none kV14 dc14 pm14 an14 cd14 ct14), sl14⟩)
    (c14 : PySem.W.codeIn K cd14 "is_path" = true)
    (k14 : PySem.W.keepIn K (.ref f14) = true)
    (a15 : PySem.W.nsIn K mainGlobals "is_head_name" = some (some (.ref f15)))
    (l15 : K.lookup f15 = some ⟨oc15, od15, .func (PySem.W.fnOf "is_head_name" "is_head_name" (defArgs s_is_head_name) (defBody s_is_head_name) (defScope s_is_head_name) .none kV15 dc15 pm15 an15 cd15 ct15), sl15⟩)
    (c15 : PySem.W.codeIn K cd15 "is_head_name" = true)
    (k15 : PySem.W.keepIn K (.ref f15) = true)
    (a16 : PySem.W.nsIn K mainGlobals "is_row" = some (some (.ref f16)))
    (l16 : K.lookup f16 = some ⟨oc16, od16, .func (PySem.W.fnOf "is_row" "is_row" (defArgs s_is_row) (defBody s_is_row) (defScope s_is_row) .none kV16 dc16 pm16 an16 cd16 ct16), sl16⟩)
    (c16 : PySem.W.codeIn K cd16 "is_row" = true)
    (k16 : PySem.W.keepIn K (.ref f16) = true)
    (a17 : PySem.W.nsIn K mainGlobals "is_head_value" = some (some (.ref f17)))
    (l17 : K.lookup f17 = some ⟨oc17, od17, .func (PySem.W.fnOf "is_head_value" "is_head_value" (defArgs s_is_head_value) (defBody s_is_head_value) (defScope s_is_head_value) .none kV17 dc17 pm17 an17 cd17 ct17), sl17⟩)
    (c17 : PySem.W.codeIn K cd17 "is_head_value" = true)
    (k17 : PySem.W.keepIn K (.ref f17) = true)
    (a18 : PySem.W.nsIn K mainGlobals "are_heads" = some (some (.ref f18)))
    (l18 : K.lookup f18 = some ⟨oc18, od18, .func (PySem.W.fnOf "are_heads" "are_heads" (defArgs s_are_heads) (defBody s_are_heads) (defScope s_are_heads) .none kV18 dc18 pm18 an18 cd18 ct18), sl18⟩)
    (c18 : PySem.W.codeIn K cd18 "are_heads" = true)
    (k18 : PySem.W.keepIn K (.ref f18) = true)
    (a19 : PySem.W.nsIn K mainGlobals "is_asking" = some (some (.ref f19)))
    (l19 : K.lookup f19 = some ⟨oc19, od19, .func (PySem.W.fnOf "is_asking" "is_asking" (defArgs s_is_asking) (defBody s_is_asking) (defScope s_is_asking) .none kV19 dc19 pm19 an19 cd19 ct19), sl19⟩)
    (c19 : PySem.W.codeIn K cd19 "is_asking" = true)
    (k19 : PySem.W.keepIn K (.ref f19) = true)
    (a20 : PySem.W.nsIn K mainGlobals "checked_asking" = some (some (.ref f20)))
    (l20 : K.lookup f20 = some ⟨oc20, od20, .func (PySem.W.fnOf "checked_asking" "checked_asking" (defArgs s_checked_asking) (defBody s_checked_asking) (defScope s_checked_asking) .none kV20 dc20 pm20 an20 cd20 ct20), sl20⟩)
    (c20 : PySem.W.codeIn K cd20 "checked_asking" = true)
    (k20 : PySem.W.keepIn K (.ref f20) = true)
    (a21 : PySem.W.nsIn K mainGlobals "sign_text" = some (some (.ref f21)))
    (l21 : K.lookup f21 = some ⟨oc21, od21, .func (PySem.W.fnOf "sign_text" "sign_text" (defArgs s_sign_text) (defBody s_sign_text) (defScope s_sign_text) .none kV21 dc21 pm21 an21 cd21 ct21), sl21⟩)
    (c21 : PySem.W.codeIn K cd21 "sign_text" = true)
    (k21 : PySem.W.keepIn K (.ref f21) = true)
    (a22 : PySem.W.nsIn K mainGlobals "quote" = some (some (.ref f22)))
    (l22 : K.lookup f22 = some ⟨oc22, od22, .func (PySem.W.fnOf "quote" "quote" (defArgs s_quote) (defBody s_quote) (defScope s_quote) .none kV22 dc22 pm22 an22 cd22 ct22), sl22⟩)
    (c22 : PySem.W.codeIn K cd22 "quote" = true)
    (k22 : PySem.W.keepIn K (.ref f22) = true)
    (a23 : PySem.W.nsIn K mainGlobals "text_of" = some (some (.ref f23)))
    (l23 : K.lookup f23 = some ⟨oc23, od23, .func (PySem.W.fnOf "text_of" "text_of" (defArgs s_text_of) (defBody s_text_of) (defScope s_text_of) .none kV23 dc23 pm23 an23 cd23 ct23), sl23⟩)
    (c23 : PySem.W.codeIn K cd23 "text_of" = true)
    (k23 : PySem.W.keepIn K (.ref f23) = true)
    (a24 : PySem.W.nsIn K mainGlobals "found_value" = some (some (.ref f24)))
    (l24 : K.lookup f24 = some ⟨oc24, od24, .func (PySem.W.fnOf "found_value" "found_value" (defArgs s_found_value) (defBody s_found_value) (defScope s_found_value) .none kV24 dc24 pm24 an24 cd24 ct24), sl24⟩)
    (c24 : PySem.W.codeIn K cd24 "found_value" = true)
    (k24 : PySem.W.keepIn K (.ref f24) = true)
    (a25 : PySem.W.findIn K (.ref aHouse) "mark" = some (some (.ref f25)))
    (i25 : PySem.W.isFn K (.ref f25) = true)
    (l25 : K.lookup f25 = some ⟨oc25, od25, .func (PySem.W.fnOf "mark" "House.mark" (defArgs s_House_mark) (defBody s_House_mark) (defScope s_House_mark) .none kV25 dc25 pm25 an25 cd25 ct25), sl25⟩)
    (c25 : PySem.W.codeIn K cd25 "House.mark" = true)
    (k25 : PySem.W.keepIn K (.ref f25) = true)
    (a26 : PySem.W.nsIn K mainGlobals "is_figures" = some (some (.ref f26)))
    (l26 : K.lookup f26 = some ⟨oc26, od26, .func (PySem.W.fnOf "is_figures" "is_figures" (defArgs s_is_figures) (defBody s_is_figures) (defScope s_is_figures) .none kV26 dc26 pm26 an26 cd26 ct26), sl26⟩)
    (c26 : PySem.W.codeIn K cd26 "is_figures" = true)
    (k26 : PySem.W.keepIn K (.ref f26) = true)
    (a27 : PySem.W.nsIn K mainGlobals "part_of" = some (some (.ref f27)))
    (l27 : K.lookup f27 = some ⟨oc27, od27, .func (PySem.W.fnOf "part_of" "part_of" (defArgs s_part_of) (defBody s_part_of) (defScope s_part_of) .none kV27 dc27 pm27 an27 cd27 ct27), sl27⟩)
    (c27 : PySem.W.codeIn K cd27 "part_of" = true)
    (k27 : PySem.W.keepIn K (.ref f27) = true)
    (a28 : PySem.W.findIn K (.ref aHouse) "to_get" = some (some (.ref f28)))
    (i28 : PySem.W.isFn K (.ref f28) = true)
    (l28 : K.lookup f28 = some ⟨oc28, od28, .func (PySem.W.fnOf "to_get" "House.to_get" (defArgs s_House_to_get) (defBody s_House_to_get) (defScope s_House_to_get) .none kV28 dc28 pm28 an28 cd28 ct28), sl28⟩)
    (c28 : PySem.W.codeIn K cd28 "House.to_get" = true)
    (k28 : PySem.W.keepIn K (.ref f28) = true)
    (a29 : PySem.W.findIn K (.ref aHouse) "lay" = some (some (.ref f29)))
    (i29 : PySem.W.isFn K (.ref f29) = true)
    (l29 : K.lookup f29 = some ⟨oc29, od29, .func (PySem.W.fnOf "lay" "House.lay" (defArgs s_House_lay) (defBody s_House_lay) (defScope s_House_lay) .none kV29 dc29 pm29 an29 cd29 ct29), sl29⟩)
    (c29 : PySem.W.codeIn K cd29 "House.lay" = true)
    (k29 : PySem.W.keepIn K (.ref f29) = true)
    (a30 : PySem.W.findIn K (.ref aHouse) "to_put" = some (some (.ref f30)))
    (i30 : PySem.W.isFn K (.ref f30) = true)
    (l30 : K.lookup f30 = some ⟨oc30, od30, .func (PySem.W.fnOf "to_put" "House.to_put" (defArgs s_House_to_put) (defBody s_House_to_put) (defScope s_House_to_put) .none kV30 dc30 pm30 an30 cd30 ct30), sl30⟩)
    (c30 : PySem.W.codeIn K cd30 "House.to_put" = true)
    (k30 : PySem.W.keepIn K (.ref f30) = true)
    (a31 : PySem.W.findIn K (.ref aHouse) "to_drop" = some (some (.ref f31)))
    (i31 : PySem.W.isFn K (.ref f31) = true)
    (l31 : K.lookup f31 = some ⟨oc31, od31, .func (PySem.W.fnOf "to_drop" "House.to_drop" (defArgs s_House_to_drop) (defBody s_House_to_drop) (defScope s_House_to_drop) .none kV31 dc31 pm31 an31 cd31 ct31), sl31⟩)
    (c31 : PySem.W.codeIn K cd31 "House.to_drop" = true)
    (k31 : PySem.W.keepIn K (.ref f31) = true)
    (a32 : PySem.W.findIn K (.ref aHouse) "to_add" = some (some (.ref f32)))
    (i32 : PySem.W.isFn K (.ref f32) = true)
    (l32 : K.lookup f32 = some ⟨oc32, od32, .func (PySem.W.fnOf "to_add" "House.to_add" (defArgs s_House_to_add) (defBody s_House_to_add) (defScope s_House_to_add) .none kV32 dc32 pm32 an32 cd32 ct32), sl32⟩)
    (c32 : PySem.W.codeIn K cd32 "House.to_add" = true)
    (k32 : PySem.W.keepIn K (.ref f32) = true)
    (a33 : PySem.W.findIn K (.ref aHouse) "done" = some (some (.ref f33)))
    (i33 : PySem.W.isFn K (.ref f33) = true)
    (l33 : K.lookup f33 = some ⟨oc33, od33, .func (PySem.W.fnOf "done" "House.done" (defArgs s_House_done) (defBody s_House_done) (defScope s_House_done) .none kV33 dc33 pm33 an33 cd33 ct33), sl33⟩)
    (c33 : PySem.W.codeIn K cd33 "House.done" = true)
    (k33 : PySem.W.keepIn K (.ref f33) = true)
    (a34 : PySem.W.findIn K (.ref aHouse) "ask" = some (some (.ref f34)))
    (i34 : PySem.W.isFn K (.ref f34) = true)
    (l34 : K.lookup f34 = some ⟨oc34, od34, .func (PySem.W.fnOf "ask" "House.ask" (defArgs s_House_ask) (defBody s_House_ask) (defScope s_House_ask) .none kV34 dc34 pm34 an34 cd34 ct34), sl34⟩)
    (c34 : PySem.W.codeIn K cd34 "House.ask" = true)
    (k34 : PySem.W.keepIn K (.ref f34) = true)
    (a35 : PySem.W.findIn K (.ref aNear) "is_fresh" = some (some (.ref f35)))
    (i35 : PySem.W.isFn K (.ref f35) = true)
    (l35 : K.lookup f35 = some ⟨oc35, od35, .func (PySem.W.fnOf "is_fresh" "Near.is_fresh" (defArgs s_Near_is_fresh) (defBody s_Near_is_fresh) (defScope s_Near_is_fresh) .none kV35 dc35 pm35 an35 cd35 ct35), sl35⟩)
    (c35 : PySem.W.codeIn K cd35 "Near.is_fresh" = true)
    (k35 : PySem.W.keepIn K (.ref f35) = true)
    (a36 : PySem.W.nsIn K mainGlobals "put_head" = some (some (.ref f36)))
    (l36 : K.lookup f36 = some ⟨oc36, od36, .func (PySem.W.fnOf "put_head" "put_head" (defArgs s_put_head) (defBody s_put_head) (defScope s_put_head) .none kV36 dc36 pm36 an36 cd36 ct36), sl36⟩)
    (c36 : PySem.W.codeIn K cd36 "put_head" = true)
    (k36 : PySem.W.keepIn K (.ref f36) = true)
    (a37 : PySem.W.findIn K (.ref aNear) "aged" = some (some (.ref f37)))
    (i37 : PySem.W.isFn K (.ref f37) = true)
    (l37 : K.lookup f37 = some ⟨oc37, od37, .func (PySem.W.fnOf "aged" "Near.aged" (defArgs s_Near_aged) (defBody s_Near_aged) (defScope s_Near_aged) .none kV37 dc37 pm37 an37 cd37 ct37), sl37⟩)
    (c37 : PySem.W.codeIn K cd37 "Near.aged" = true)
    (k37 : PySem.W.keepIn K (.ref f37) = true)
    (a38 : PySem.W.findIn K (.ref aNear) "forget" = some (some (.ref f38)))
    (i38 : PySem.W.isFn K (.ref f38) = true)
    (l38 : K.lookup f38 = some ⟨oc38, od38, .func (PySem.W.fnOf "forget" "Near.forget" (defArgs s_Near_forget) (defBody s_Near_forget) (defScope s_Near_forget) .none kV38 dc38 pm38 an38 cd38 ct38), sl38⟩)
    (c38 : PySem.W.codeIn K cd38 "Near.forget" = true)
    (k38 : PySem.W.keepIn K (.ref f38) = true)
    (a39 : PySem.W.nsIn K mainGlobals "is_kept" = some (some (.ref f39)))
    (l39 : K.lookup f39 = some ⟨oc39, od39, .func (PySem.W.fnOf "is_kept" "is_kept" (defArgs s_is_kept) (defBody s_is_kept) (defScope s_is_kept) .none kV39 dc39 pm39 an39 cd39 ct39), sl39⟩)
    (c39 : PySem.W.codeIn K cd39 "is_kept" = true)
    (k39 : PySem.W.keepIn K (.ref f39) = true)
    (a40 : PySem.W.findIn K (.ref aNear) "far" = some (some (.ref f40)))
    (i40 : PySem.W.isFn K (.ref f40) = true)
    (l40 : K.lookup f40 = some ⟨oc40, od40, .func (PySem.W.fnOf "far" "Near.far" (defArgs s_Near_far) (defBody s_Near_far) (defScope s_Near_far) .none kV40 dc40 pm40 an40 cd40 ct40), sl40⟩)
    (c40 : PySem.W.codeIn K cd40 "Near.far" = true)
    (k40 : PySem.W.keepIn K (.ref f40) = true)
    (a41 : PySem.W.findIn K (.ref aNear) "ask" = some (some (.ref f41)))
    (i41 : PySem.W.isFn K (.ref f41) = true)
    (l41 : K.lookup f41 = some ⟨oc41, od41, .func (PySem.W.fnOf "ask" "Near.ask" (defArgs s_Near_ask) (defBody s_Near_ask) (defScope s_Near_ask) .none kV41 dc41 pm41 an41 cd41 ct41), sl41⟩)
    (c41 : PySem.W.codeIn K cd41 "Near.ask" = true)
    (k41 : PySem.W.keepIn K (.ref f41) = true)
    (a42 : PySem.W.nsIn K mainGlobals "_law_value_in" = some (some (.ref f42)))
    (l42 : K.lookup f42 = some ⟨oc42, od42, .func (PySem.W.fnOf "_law_value_in" "_law_value_in" (defArgs s__law_value_in) (defBody s__law_value_in) (defScope s__law_value_in) .none kV42 dc42 pm42 an42 cd42 ct42), sl42⟩)
    (c42 : PySem.W.codeIn K cd42 "_law_value_in" = true)
    (k42 : PySem.W.keepIn K (.ref f42) = true)
    (a43 : PySem.W.nsIn K mainGlobals "_law_got" = some (some (.ref f43)))
    (l43 : K.lookup f43 = some ⟨oc43, od43, .func (PySem.W.fnOf "_law_got" "_law_got" (defArgs s__law_got) (defBody s__law_got) (defScope s__law_got) .none kV43 dc43 pm43 an43 cd43 ct43), sl43⟩)
    (c43 : PySem.W.codeIn K cd43 "_law_got" = true)
    (k43 : PySem.W.keepIn K (.ref f43) = true)
    (a44 : PySem.W.nsIn K mainGlobals "_law_changed" = some (some (.ref f44)))
    (l44 : K.lookup f44 = some ⟨oc44, od44, .func (PySem.W.fnOf "_law_changed" "_law_changed" (defArgs s__law_changed) (defBody s__law_changed) (defScope s__law_changed) .none kV44 dc44 pm44 an44 cd44 ct44), sl44⟩)
    (c44 : PySem.W.codeIn K cd44 "_law_changed" = true)
    (k44 : PySem.W.keepIn K (.ref f44) = true)
    (a45 : PySem.W.nsIn K mainGlobals "_law_answered" = some (some (.ref f45)))
    (l45 : K.lookup f45 = some ⟨oc45, od45, .func (PySem.W.fnOf "_law_answered" "_law_answered" (defArgs s__law_answered) (defBody s__law_answered) (defScope s__law_answered) .none kV45 dc45 pm45 an45 cd45 ct45), sl45⟩)
    (c45 : PySem.W.codeIn K cd45 "_law_answered" = true)
    (k45 : PySem.W.keepIn K (.ref f45) = true)
    (a46 : PySem.W.nsIn K mainGlobals "checked_heads" = some (some (.ref f46)))
    (l46 : K.lookup f46 = some ⟨oc46, od46, .func (PySem.W.fnOf "checked_heads" "checked_heads" (defArgs s_checked_heads) (defBody s_checked_heads) (defScope s_checked_heads) .none kV46 dc46 pm46 an46 cd46 ct46), sl46⟩)
    (c46 : PySem.W.codeIn K cd46 "checked_heads" = true)
    (k46 : PySem.W.keepIn K (.ref f46) = true)
    (a47 : PySem.W.nsIn K mainGlobals "look_head" = some (some (.ref f47)))
    (l47 : K.lookup f47 = some ⟨oc47, od47, .func (PySem.W.fnOf "look_head" "look_head" (defArgs s_look_head) (defBody s_look_head) (defScope s_look_head) .none kV47 dc47 pm47 an47 cd47 ct47), sl47⟩)
    (c47 : PySem.W.codeIn K cd47 "look_head" = true)
    (k47 : PySem.W.keepIn K (.ref f47) = true)
    (a48 : PySem.W.nsIn K mainGlobals "value_of" = some (some (.ref f48)))
    (l48 : K.lookup f48 = some ⟨oc48, od48, .func (PySem.W.fnOf "value_of" "value_of" (defArgs s_value_of) (defBody s_value_of) (defScope s_value_of) .none kV48 dc48 pm48 an48 cd48 ct48), sl48⟩)
    (c48 : PySem.W.codeIn K cd48 "value_of" = true)
    (k48 : PySem.W.keepIn K (.ref f48) = true)
    (a49 : PySem.W.findIn K (.ref aHouse) "things" = some (some (.ref f49)))
    (i49 : PySem.W.isFn K (.ref f49) = true)
    (l49 : K.lookup f49 = some ⟨oc49, od49, .func (PySem.W.fnOf "things" "House.things" (defArgs s_House_things) (defBody s_House_things) (defScope s_House_things) .none kV49 dc49 pm49 an49 cd49 ct49), sl49⟩)
    (c49 : PySem.W.codeIn K cd49 "House.things" = true)
    (k49 : PySem.W.keepIn K (.ref f49) = true)
    (a50 : PySem.W.findIn K (.ref aHouse) "changes" = some (some (.ref f50)))
    (i50 : PySem.W.isFn K (.ref f50) = true)
    (l50 : K.lookup f50 = some ⟨oc50, od50, .func (PySem.W.fnOf "changes" "House.changes" (defArgs s_House_changes) (defBody s_House_changes) (defScope s_House_changes) .none kV50 dc50 pm50 an50 cd50 ct50), sl50⟩)
    (c50 : PySem.W.codeIn K cd50 "House.changes" = true)
    (k50 : PySem.W.keepIn K (.ref f50) = true)
    (a51 : PySem.W.nsIn K mainGlobals "law" = some (some (.ref f51)))
    (l51 : K.lookup f51 = some ⟨oc51, od51, .func (PySem.W.fnOf "law" "law" (defArgs s_law) (defBody s_law) (defScope s_law) .none kV51 dc51 pm51 an51 cd51 ct51), sl51⟩)
    (c51 : PySem.W.codeIn K cd51 "law" = true)
    (k51 : PySem.W.keepIn K (.ref f51) = true)
    (eBadNumber : PySem.W.nsIn K mainGlobals "BadNumber" = some (some (.ref aBadNumber)))
    (ekBadNumber : PySem.W.keepIn K (.ref aBadNumber) = true)
    (ebBadNumber : PySem.W.subIn K (.ref aBadNumber) (.type "BaseException") = some true)
    (etBadNumber : PySem.W.typeIn K (.ref aBadNumber) = some (.type "type"))
    (emBadNumber : PySem.W.excIn K aBadNumber [.type "ValueError", .type "Exception", .type "BaseException", .type "object"] "ValueError.__new__" = true)
    (eBadAsking : PySem.W.nsIn K mainGlobals "BadAsking" = some (some (.ref aBadAsking)))
    (ekBadAsking : PySem.W.keepIn K (.ref aBadAsking) = true)
    (ebBadAsking : PySem.W.subIn K (.ref aBadAsking) (.type "BaseException") = some true)
    (etBadAsking : PySem.W.typeIn K (.ref aBadAsking) = some (.type "type"))
    (emBadAsking : PySem.W.excIn K aBadAsking [.type "ValueError", .type "Exception", .type "BaseException", .type "object"] "ValueError.__new__" = true)
    (eBadHeads : PySem.W.nsIn K mainGlobals "BadHeads" = some (some (.ref aBadHeads)))
    (ekBadHeads : PySem.W.keepIn K (.ref aBadHeads) = true)
    (ebBadHeads : PySem.W.subIn K (.ref aBadHeads) (.type "BaseException") = some true)
    (etBadHeads : PySem.W.typeIn K (.ref aBadHeads) = some (.type "type"))
    (emBadHeads : PySem.W.excIn K aBadHeads [.type "ValueError", .type "Exception", .type "BaseException", .type "object"] "ValueError.__new__" = true)
    (vSIGNS : PySem.W.nsIn K mainGlobals "SIGNS" = some (some (.str uSIGNS tSIGNS)))
    (wSIGNS : uSIGNS.cps.toList = lSIGNS)
    (vOWN : PySem.W.nsIn K mainGlobals "OWN" = some (some (.ref pOWN)))
    (lOWN : K.lookup pOWN = some ⟨.type "tuple", odOWN, .seq itOWN nOWN, slOWN⟩)
    (wOWN : itOWN.toList.map unStr = ownL.map some)
    (yOWN : (decide (itOWN.size ≤ 1000) && ownL.all (fun l => decide (l.length ≤ 1000))) = true)
    (vSMALL : PySem.W.nsIn K mainGlobals "SMALL" = some (some (.str uSMALL tSMALL)))
    (wSMALL : uSMALL.cps.toList = lSMALL)
    (vMOST : PySem.W.nsIn K mainGlobals "MOST" = some (some (.int 8 tMOST)))
    (vWORDS : PySem.W.nsIn K mainGlobals "WORDS" = some (some (.ref pWORDS)))
    (lWORDS : K.lookup pWORDS = some ⟨.type "tuple", odWORDS, .seq itWORDS nWORDS, slWORDS⟩)
    (wWORDS : itWORDS.toList.map unStr = wordsL.map some)
    (yWORDS : (decide (itWORDS.size ≤ 1000) && wordsL.all (fun l => decide (l.length ≤ 1000))) = true)
    (vMOST_BODY : PySem.W.nsIn K mainGlobals "MOST_BODY" = some (some (.int 120 tMOST_BODY)))
    (vPLAIN : PySem.W.nsIn K mainGlobals "PLAIN" = some (some (.str uPLAIN tPLAIN)))
    (wPLAIN : uPLAIN.cps.toList = lPLAIN)
    (vLINE : PySem.W.nsIn K mainGlobals "LINE" = some (some (.str uLINE tLINE)))
    (wLINE : uLINE.cps.toList = [57, 57])
    (vFIGURES : PySem.W.nsIn K mainGlobals "FIGURES" = some (some (.str uFIGURES tFIGURES)))
    (wFIGURES : uFIGURES.cps.toList = lFIG)
    (vMOST_PARTS : PySem.W.nsIn K mainGlobals "MOST_PARTS" = some (some (.int 5 tMOST_PARTS)))
    (zisinstance : PySem.W.nsIn K mainGlobals "isinstance" = some none)
    (zlen : PySem.W.nsIn K mainGlobals "len" = some none)
    (zmin : PySem.W.nsIn K mainGlobals "min" = some none)
    (zmax : PySem.W.nsIn K mainGlobals "max" = some none)
    (zsorted : PySem.W.nsIn K mainGlobals "sorted" = some none)
    (zstr : PySem.W.nsIn K mainGlobals "str" = some none)
    (zint : PySem.W.nsIn K mainGlobals "int" = some none)
    (zbool : PySem.W.nsIn K mainGlobals "bool" = some none)
    (ztuple : PySem.W.nsIn K mainGlobals "tuple" = some none)
    (zlist : PySem.W.nsIn K mainGlobals "list" = some none)
    (zrange : PySem.W.nsIn K mainGlobals "range" = some none)
    (zset : PySem.W.nsIn K mainGlobals "set" = some none)
    (zdict : PySem.W.nsIn K mainGlobals "dict" = some none)
    (zenumerate : PySem.W.nsIn K mainGlobals "enumerate" = some none) :
    ∃ fd : FuncData, (∀ (s : Shared) (v : Value), BindsTo s fd ⟨[v], []⟩ [("_law_script", v)]) ∧ ∀ base : Heap, K.In base → base.Ns mainGlobals mg → FnOk PySem.Challenge.pw_askwire_k19_whole_near_as_far w K mg base (L2.CX PySem.Challenge.pw_askwire_k19_whole_near_as_far w) 10 fa fd ["_law_script"] (toSp K sp_law) := by
  have e := hfa.symm.trans (PySem.W.mg_of X G a51)
  cases e
  have B : Bl mg := ⟨PySem.W.mg_none_of X G zisinstance, PySem.W.mg_none_of X G zlen, PySem.W.mg_none_of X G zmin, PySem.W.mg_none_of X G zmax, PySem.W.mg_none_of X G zsorted, PySem.W.mg_none_of X G zstr, PySem.W.mg_none_of X G zint, PySem.W.mg_none_of X G zbool, PySem.W.mg_none_of X G ztuple, PySem.W.mg_none_of X G zlist, PySem.W.mg_none_of X G zrange, PySem.W.mg_none_of X G zset, PySem.W.mg_none_of X G zdict, PySem.W.mg_none_of X G zenumerate⟩
  have x_BadNumber : ExcC K mg "BadNumber" aBadNumber := excC X G eBadNumber ekBadNumber ebBadNumber etBadNumber emBadNumber
  have x_BadAsking : ExcC K mg "BadAsking" aBadAsking := excC X G eBadAsking ekBadAsking ebBadAsking etBadAsking emBadAsking
  have x_BadHeads : ExcC K mg "BadHeads" aBadHeads := excC X G eBadHeads ekBadHeads ebBadHeads etBadHeads emBadHeads
  have g_SIGNS : Glob K mg "SIGNS" (.str lSIGNS) := glob_str X G vSIGNS wSIGNS
  have g_OWN : Glob K mg "OWN" dOWN := glob_strs X G vOWN lOWN wOWN yOWN
  have g_SMALL : Glob K mg "SMALL" (.str lSMALL) := glob_str X G vSMALL wSMALL
  have g_MOST : Glob K mg "MOST" (.int 8) := glob_int X G vMOST
  have g_WORDS : Glob K mg "WORDS" dWORDS := glob_strs X G vWORDS lWORDS wWORDS yWORDS
  have g_MOST_BODY : Glob K mg "MOST_BODY" (.int 120) := glob_int X G vMOST_BODY
  have g_PLAIN : Glob K mg "PLAIN" (.str lPLAIN) := glob_str X G vPLAIN wPLAIN
  have g_LINE : Glob K mg "LINE" (.str [57, 57]) := glob_str X G vLINE wLINE
  have g_FIGURES : Glob K mg "FIGURES" (.str lFIG) := glob_str X G vFIGURES wFIGURES
  have g_MOST_PARTS : Glob K mg "MOST_PARTS" (.int 5) := glob_int X G vMOST_PARTS
  have cl_House : Cls K aHouse := ⟨zHouse1, zHouse2, zHouse3, zHouse4⟩
  have cl_Near : Cls K aNear := ⟨zNear1, zNear2, zNear3, zNear4⟩
  have na_House__fresh : NoAttr K aHouse "fresh" := zHouse_fresh
  have na_House__held : NoAttr K aHouse "held" := zHouse_held
  have na_House__many : NoAttr K aHouse "many" := zHouse_many
  have na_House__numbers : NoAttr K aHouse "numbers" := zHouse_numbers
  have na_House__known : NoAttr K aHouse "known" := zHouse_known
  have na_House__ways : NoAttr K aHouse "ways" := zHouse_ways
  have na_Near__kept : NoAttr K aNear "kept" := zNear_kept
  have na_Near__last : NoAttr K aNear "last" := zNear_last
  have A0 : DefAt K mg "_law_cell" s__law_cell ["_law_script", "_law_k"] := defAt X G a0 l0 c0 k0 (fun F => F.binds (ps := ["_law_script", "_law_k"]) fun _ _ _ _ _ _ us hl => match us, hl with | [_, _], _ => rfl)
  have A1 : DefAt K mg "is_within" s_is_within ["thing", "low", "high"] := defAt X G a1 l1 c1 k1 (fun F => F.binds (ps := ["thing", "low", "high"]) fun _ _ _ _ _ _ us hl => match us, hl with | [_, _, _], _ => rfl)
  have A2 : NAt K mg "House" aHouse "House.__init__" s_House___init__ ["self", "fresh"] := mk_nat X G zHouseg zHouse5 zHouse6 a2 i2 l2 c2 k2 (fun F => F.binds (ps := ["self", "fresh"]) fun _ _ _ _ _ _ us hl => match us, hl with | [_, _], _ => rfl)
  have A3 : NAt K mg "Near" aNear "Near.__init__" s_Near___init__ ["self"] := mk_nat X G zNearg zNear5 zNear6 a3 i3 l3 c3 k3 (fun F => F.binds (ps := ["self"]) fun _ _ _ _ _ _ us hl => match us, hl with | [_], _ => rfl)
  have A4 : DefAt K mg "_law_mix" s__law_mix ["_law_cell_here", "_law_prime", "_law_many"] := defAt X G a4 l4 c4 k4 (fun F => F.binds (ps := ["_law_cell_here", "_law_prime", "_law_many"]) fun _ _ _ _ _ _ us hl => match us, hl with | [_, _, _], _ => rfl)
  have A5 : DefAt K mg "_law_seed" s__law_seed ["_law_seed_here", "_law_k"] := defAt X G a5 l5 c5 k5 (fun F => F.binds (ps := ["_law_seed_here", "_law_k"]) fun _ _ _ _ _ _ us hl => match us, hl with | [_, _], _ => rfl)
  have A6 : DefAt K mg "_law_place" s__law_place ["_law_seed_here"] := defAt X G a6 l6 c6 k6 (fun F => F.binds (ps := ["_law_seed_here"]) fun _ _ _ _ _ _ us hl => match us, hl with | [_], _ => rfl)
  have A7 : DefAt K mg "_law_signs" s__law_signs [] := defAt X G a7 l7 c7 k7 (fun F => F.binds (ps := []) fun _ _ _ _ _ _ us hl => match us, hl with | [], _ => rfl)
  have A8 : DefAt K mg "_law_quote" s__law_quote ["_law_text_here"] := defAt X G a8 l8 c8 k8 (fun F => F.binds (ps := ["_law_text_here"]) fun _ _ _ _ _ _ us hl => match us, hl with | [_], _ => rfl)
  have A9 : DefAt K mg "_law_path_text" s__law_path_text ["_law_path"] := defAt X G a9 l9 c9 k9 (fun F => F.binds (ps := ["_law_path"]) fun _ _ _ _ _ _ us hl => match us, hl with | [_], _ => rfl)
  have A10 : DefAt K mg "_law_pick" s__law_pick ["_law_seed_here", "_law_many"] := defAt X G a10 l10 c10 k10 (fun F => F.binds (ps := ["_law_seed_here", "_law_many"]) fun _ _ _ _ _ _ us hl => match us, hl with | [_, _], _ => rfl)
  have A11 : DefAt K mg "_law_text" s__law_text ["_law_seed_here", "_law_most", "_law_lines"] := defAt X G a11 l11 c11 k11 (fun F => F.binds (ps := ["_law_seed_here", "_law_most", "_law_lines"]) fun _ _ _ _ _ _ us hl => match us, hl with | [_, _, _], _ => rfl)
  have A12 : DefAt K mg "_law_deed" s__law_deed ["_law_seed_here", "_law_state"] := defAt X G a12 l12 c12 k12 (fun F => F.binds (ps := ["_law_seed_here", "_law_state"]) fun _ _ _ _ _ _ us hl => match us, hl with | [_, _], _ => rfl)
  have A13 : DefAt K mg "is_text" s_is_text ["thing", "most"] := defAt X G a13 l13 c13 k13 (fun F => F.binds (ps := ["thing", "most"]) fun _ _ _ _ _ _ us hl => match us, hl with | [_, _], _ => rfl)
  have A14 : DefAt K mg "is_path" s_is_path ["thing"] := defAt X G a14 l14 c14 k14 (fun F => F.binds (ps := ["thing"]) fun _ _ _ _ _ _ us hl => match us, hl with | [_], _ => rfl)
  have A15 : DefAt K mg "is_head_name" s_is_head_name ["thing"] := defAt X G a15 l15 c15 k15 (fun F => F.binds (ps := ["thing"]) fun _ _ _ _ _ _ us hl => match us, hl with | [_], _ => rfl)
  have A16 : DefAt K mg "is_row" s_is_row ["thing", "most"] := defAt X G a16 l16 c16 k16 (fun F => F.binds (ps := ["thing", "most"]) fun _ _ _ _ _ _ us hl => match us, hl with | [_, _], _ => rfl)
  have A17 : DefAt K mg "is_head_value" s_is_head_value ["name", "thing"] := defAt X G a17 l17 c17 k17 (fun F => F.binds (ps := ["name", "thing"]) fun _ _ _ _ _ _ us hl => match us, hl with | [_, _], _ => rfl)
  have A18 : DefAt K mg "are_heads" s_are_heads ["thing"] := defAt X G a18 l18 c18 k18 (fun F => F.binds (ps := ["thing"]) fun _ _ _ _ _ _ us hl => match us, hl with | [_], _ => rfl)
  have A19 : DefAt K mg "is_asking" s_is_asking ["thing"] := defAt X G a19 l19 c19 k19 (fun F => F.binds (ps := ["thing"]) fun _ _ _ _ _ _ us hl => match us, hl with | [_], _ => rfl)
  have A20 : DefAt K mg "checked_asking" s_checked_asking ["asking"] := defAt X G a20 l20 c20 k20 (fun F => F.binds (ps := ["asking"]) fun _ _ _ _ _ _ us hl => match us, hl with | [_], _ => rfl)
  have A21 : DefAt K mg "sign_text" s_sign_text ["sign"] := defAt X G a21 l21 c21 k21 (fun F => F.binds (ps := ["sign"]) fun _ _ _ _ _ _ us hl => match us, hl with | [_], _ => rfl)
  have A22 : DefAt K mg "quote" s_quote ["text"] := defAt X G a22 l22 c22 k22 (fun F => F.binds (ps := ["text"]) fun _ _ _ _ _ _ us hl => match us, hl with | [_], _ => rfl)
  have A23 : DefAt K mg "text_of" s_text_of ["path"] := defAt X G a23 l23 c23 k23 (fun F => F.binds (ps := ["path"]) fun _ _ _ _ _ _ us hl => match us, hl with | [_], _ => rfl)
  have A24 : DefAt K mg "found_value" s_found_value ["heads", "name"] := defAt X G a24 l24 c24 k24 (fun F => F.binds (ps := ["heads", "name"]) fun _ _ _ _ _ _ us hl => match us, hl with | [_, _], _ => rfl)
  have A25 : MAt K aHouse "mark" "House.mark" s_House_mark ["self", "key"] := mk_at a25 i25 l25 c25 k25 (fun F => F.binds (ps := ["self", "key"]) fun _ _ _ _ _ _ us hl => match us, hl with | [_, _], _ => rfl)
  have A26 : DefAt K mg "is_figures" s_is_figures ["text", "most"] := defAt X G a26 l26 c26 k26 (fun F => F.binds (ps := ["text", "most"]) fun _ _ _ _ _ _ us hl => match us, hl with | [_, _], _ => rfl)
  have A27 : DefAt K mg "part_of" s_part_of ["text", "many"] := defAt X G a27 l27 c27 k27 (fun F => F.binds (ps := ["text", "many"]) fun _ _ _ _ _ _ us hl => match us, hl with | [_, _], _ => rfl)
  have A28 : MAt K aHouse "to_get" "House.to_get" s_House_to_get ["self", "key", "heads"] := mk_at a28 i28 l28 c28 k28 (fun F => F.binds (ps := ["self", "key", "heads"]) fun _ _ _ _ _ _ us hl => match us, hl with | [_, _, _], _ => rfl)
  have A29 : MAt K aHouse "lay" "House.lay" s_House_lay ["self", "key", "body"] := mk_at a29 i29 l29 c29 k29 (fun F => F.binds (ps := ["self", "key", "body"]) fun _ _ _ _ _ _ us hl => match us, hl with | [_, _, _], _ => rfl)
  have A30 : MAt K aHouse "to_put" "House.to_put" s_House_to_put ["self", "key", "body"] := mk_at a30 i30 l30 c30 k30 (fun F => F.binds (ps := ["self", "key", "body"]) fun _ _ _ _ _ _ us hl => match us, hl with | [_, _, _], _ => rfl)
  have A31 : MAt K aHouse "to_drop" "House.to_drop" s_House_to_drop ["self", "key"] := mk_at a31 i31 l31 c31 k31 (fun F => F.binds (ps := ["self", "key"]) fun _ _ _ _ _ _ us hl => match us, hl with | [_, _], _ => rfl)
  have A32 : MAt K aHouse "to_add" "House.to_add" s_House_to_add ["self", "path", "body"] := mk_at a32 i32 l32 c32 k32 (fun F => F.binds (ps := ["self", "path", "body"]) fun _ _ _ _ _ _ us hl => match us, hl with | [_, _, _], _ => rfl)
  have A33 : MAt K aHouse "done" "House.done" s_House_done ["self", "asking"] := mk_at a33 i33 l33 c33 k33 (fun F => F.binds (ps := ["self", "asking"]) fun _ _ _ _ _ _ us hl => match us, hl with | [_, _], _ => rfl)
  have A34 : MAt K aHouse "ask" "House.ask" s_House_ask ["self", "asking"] := mk_at a34 i34 l34 c34 k34 (fun F => F.binds (ps := ["self", "asking"]) fun _ _ _ _ _ _ us hl => match us, hl with | [_, _], _ => rfl)
  have A35 : MAt K aNear "is_fresh" "Near.is_fresh" s_Near_is_fresh ["self", "key", "now"] := mk_at a35 i35 l35 c35 k35 (fun F => F.binds (ps := ["self", "key", "now"]) fun _ _ _ _ _ _ us hl => match us, hl with | [_, _, _], _ => rfl)
  have A36 : DefAt K mg "put_head" s_put_head ["heads", "name", "text"] := defAt X G a36 l36 c36 k36 (fun F => F.binds (ps := ["heads", "name", "text"]) fun _ _ _ _ _ _ us hl => match us, hl with | [_, _, _], _ => rfl)
  have A37 : MAt K aNear "aged" "Near.aged" s_Near_aged ["self", "key", "now"] := mk_at a37 i37 l37 c37 k37 (fun F => F.binds (ps := ["self", "key", "now"]) fun _ _ _ _ _ _ us hl => match us, hl with | [_, _, _], _ => rfl)
  have A38 : MAt K aNear "forget" "Near.forget" s_Near_forget ["self", "key"] := mk_at a38 i38 l38 c38 k38 (fun F => F.binds (ps := ["self", "key"]) fun _ _ _ _ _ _ us hl => match us, hl with | [_, _], _ => rfl)
  have A39 : DefAt K mg "is_kept" s_is_kept ["answer"] := defAt X G a39 l39 c39 k39 (fun F => F.binds (ps := ["answer"]) fun _ _ _ _ _ _ us hl => match us, hl with | [_], _ => rfl)
  have A40 : MAt K aNear "far" "Near.far" s_Near_far ["self", "house", "asking", "now"] := mk_at a40 i40 l40 c40 k40 (fun F => F.binds (ps := ["self", "house", "asking", "now"]) fun _ _ _ _ _ _ us hl => match us, hl with | [_, _, _, _], _ => rfl)
  have A41 : MAt K aNear "ask" "Near.ask" s_Near_ask ["self", "house", "asking", "now"] := mk_at a41 i41 l41 c41 k41 (fun F => F.binds (ps := ["self", "house", "asking", "now"]) fun _ _ _ _ _ _ us hl => match us, hl with | [_, _, _, _], _ => rfl)
  have A42 : DefAt K mg "_law_value_in" s__law_value_in ["_law_heads", "_law_name"] := defAt X G a42 l42 c42 k42 (fun F => F.binds (ps := ["_law_heads", "_law_name"]) fun _ _ _ _ _ _ us hl => match us, hl with | [_, _], _ => rfl)
  have A43 : DefAt K mg "_law_got" s__law_got ["_law_state", "_law_key", "_law_heads"] := defAt X G a43 l43 c43 k43 (fun F => F.binds (ps := ["_law_state", "_law_key", "_law_heads"]) fun _ _ _ _ _ _ us hl => match us, hl with | [_, _, _], _ => rfl)
  have A44 : DefAt K mg "_law_changed" s__law_changed ["_law_state", "_law_key", "_law_asking"] := defAt X G a44 l44 c44 k44 (fun F => F.binds (ps := ["_law_state", "_law_key", "_law_asking"]) fun _ _ _ _ _ _ us hl => match us, hl with | [_, _, _], _ => rfl)
  have A45 : DefAt K mg "_law_answered" s__law_answered ["_law_state", "_law_asking"] := defAt X G a45 l45 c45 k45 (fun F => F.binds (ps := ["_law_state", "_law_asking"]) fun _ _ _ _ _ _ us hl => match us, hl with | [_, _], _ => rfl)
  have A46 : DefAt K mg "checked_heads" s_checked_heads ["heads"] := defAt X G a46 l46 c46 k46 (fun F => F.binds (ps := ["heads"]) fun _ _ _ _ _ _ us hl => match us, hl with | [_], _ => rfl)
  have A47 : DefAt K mg "look_head" s_look_head ["name", "text"] := defAt X G a47 l47 c47 k47 (fun F => F.binds (ps := ["name", "text"]) fun _ _ _ _ _ _ us hl => match us, hl with | [_, _], _ => rfl)
  have A48 : DefAt K mg "value_of" s_value_of ["heads", "name"] := defAt X G a48 l48 c48 k48 (fun F => F.binds (ps := ["heads", "name"]) fun _ _ _ _ _ _ us hl => match us, hl with | [_, _], _ => rfl)
  have A49 : MAt K aHouse "things" "House.things" s_House_things ["self"] := mk_at a49 i49 l49 c49 k49 (fun F => F.binds (ps := ["self"]) fun _ _ _ _ _ _ us hl => match us, hl with | [_], _ => rfl)
  have A50 : MAt K aHouse "changes" "House.changes" s_House_changes ["self"] := mk_at a50 i50 l50 c50 k50 (fun F => F.binds (ps := ["self"]) fun _ _ _ _ _ _ us hl => match us, hl with | [_], _ => rfl)
  refine ⟨PySem.W.fnOf "law" "law" (defArgs s_law) (defBody s_law) (defScope s_law) .none kV51 dc51 pm51 an51 cd51 ct51, fun s v => .of_eq rfl, fun base _ _ => ?_⟩
  have c__law_cell := ok__law_cell (P := PySem.Challenge.pw_askwire_k19_whole_near_as_far) (w := w) (mg := mg) (base := base) B A0
  have c_is_within := ok_is_within (P := PySem.Challenge.pw_askwire_k19_whole_near_as_far) (w := w) (mg := mg) (base := base) B A1
  have n_House := ok_House___init__ (P := PySem.Challenge.pw_askwire_k19_whole_near_as_far) (w := w) (mg := mg) (base := base) c_is_within x_BadNumber cl_House na_House__fresh na_House__held na_House__many na_House__numbers na_House__known na_House__ways A2
  have n_Near := ok_Near___init__ (P := PySem.Challenge.pw_askwire_k19_whole_near_as_far) (w := w) (mg := mg) (base := base) cl_Near na_Near__kept na_Near__last A3
  have c__law_mix := ok__law_mix (P := PySem.Challenge.pw_askwire_k19_whole_near_as_far) (w := w) (mg := mg) (base := base)  A4
  have c__law_seed := ok__law_seed (P := PySem.Challenge.pw_askwire_k19_whole_near_as_far) (w := w) (mg := mg) (base := base)  A5
  have c__law_place := ok__law_place (P := PySem.Challenge.pw_askwire_k19_whole_near_as_far) (w := w) (mg := mg) (base := base)  A6
  have c__law_signs := ok__law_signs (P := PySem.Challenge.pw_askwire_k19_whole_near_as_far) (w := w) (mg := mg) (base := base)  A7
  have c__law_quote := ok__law_quote (P := PySem.Challenge.pw_askwire_k19_whole_near_as_far) (w := w) (mg := mg) (base := base) B c__law_signs A8
  have c__law_path_text := ok__law_path_text (P := PySem.Challenge.pw_askwire_k19_whole_near_as_far) (w := w) (mg := mg) (base := base) c__law_quote B A9
  have c__law_pick := ok__law_pick (P := PySem.Challenge.pw_askwire_k19_whole_near_as_far) (w := w) (mg := mg) (base := base)  A10
  have c__law_text := ok__law_text (P := PySem.Challenge.pw_askwire_k19_whole_near_as_far) (w := w) (mg := mg) (base := base) c__law_signs c__law_pick B c__law_seed A11
  have c__law_deed := ok__law_deed (P := PySem.Challenge.pw_askwire_k19_whole_near_as_far) (w := w) (mg := mg) (base := base) c__law_place c__law_path_text B c__law_text c__law_seed A12
  have c_is_text := ok_is_text (P := PySem.Challenge.pw_askwire_k19_whole_near_as_far) (w := w) (mg := mg) (base := base) B g_SIGNS A13
  have c_is_path := ok_is_path (P := PySem.Challenge.pw_askwire_k19_whole_near_as_far) (w := w) (mg := mg) (base := base) B c_is_text A14
  have c_is_head_name := ok_is_head_name (P := PySem.Challenge.pw_askwire_k19_whole_near_as_far) (w := w) (mg := mg) (base := base) B g_OWN g_SMALL A15
  have c_is_row := ok_is_row (P := PySem.Challenge.pw_askwire_k19_whole_near_as_far) (w := w) (mg := mg) (base := base) c_is_text A16
  have c_is_head_value := ok_is_head_value (P := PySem.Challenge.pw_askwire_k19_whole_near_as_far) (w := w) (mg := mg) (base := base) c_is_row A17
  have c_are_heads := ok_are_heads (P := PySem.Challenge.pw_askwire_k19_whole_near_as_far) (w := w) (mg := mg) (base := base) B g_MOST c_is_head_name c_is_head_value A18
  have c_is_asking := ok_is_asking (P := PySem.Challenge.pw_askwire_k19_whole_near_as_far) (w := w) (mg := mg) (base := base) B g_WORDS c_is_path c_are_heads c_is_text g_MOST_BODY A19
  have c_checked_asking := ok_checked_asking (P := PySem.Challenge.pw_askwire_k19_whole_near_as_far) (w := w) (mg := mg) (base := base) c_is_asking x_BadAsking A20
  have c_sign_text := ok_sign_text (P := PySem.Challenge.pw_askwire_k19_whole_near_as_far) (w := w) (mg := mg) (base := base) g_PLAIN g_LINE B g_SIGNS A21
  have c_quote := ok_quote (P := PySem.Challenge.pw_askwire_k19_whole_near_as_far) (w := w) (mg := mg) (base := base) c_sign_text A22
  have c_text_of := ok_text_of (P := PySem.Challenge.pw_askwire_k19_whole_near_as_far) (w := w) (mg := mg) (base := base) c_quote A23
  have c_found_value := ok_found_value (P := PySem.Challenge.pw_askwire_k19_whole_near_as_far) (w := w) (mg := mg) (base := base)  A24
  have mc_House__mark := ok_House_mark (P := PySem.Challenge.pw_askwire_k19_whole_near_as_far) (w := w) (mg := mg) (base := base) cl_House na_House__held B A25
  have c_is_figures := ok_is_figures (P := PySem.Challenge.pw_askwire_k19_whole_near_as_far) (w := w) (mg := mg) (base := base) B g_FIGURES A26
  have c_part_of := ok_part_of (P := PySem.Challenge.pw_askwire_k19_whole_near_as_far) (w := w) (mg := mg) (base := base) c_is_figures B A27
  have mc_House__to_get := ok_House_to_get (P := PySem.Challenge.pw_askwire_k19_whole_near_as_far) (w := w) (mg := mg) (base := base) cl_House na_House__held mc_House__mark c_found_value B na_House__fresh c_part_of A28
  have mc_House__lay := ok_House_lay (P := PySem.Challenge.pw_askwire_k19_whole_near_as_far) (w := w) (mg := mg) (base := base) cl_House na_House__many na_House__held A29
  have mc_House__to_put := ok_House_to_put (P := PySem.Challenge.pw_askwire_k19_whole_near_as_far) (w := w) (mg := mg) (base := base) cl_House na_House__held mc_House__lay mc_House__mark A30
  have mc_House__to_drop := ok_House_to_drop (P := PySem.Challenge.pw_askwire_k19_whole_near_as_far) (w := w) (mg := mg) (base := base) cl_House na_House__held na_House__many A31
  have mc_House__to_add := ok_House_to_add (P := PySem.Challenge.pw_askwire_k19_whole_near_as_far) (w := w) (mg := mg) (base := base) B g_MOST_PARTS c_text_of cl_House na_House__numbers na_House__held mc_House__lay mc_House__mark A32
  have mc_House__done := ok_House_done (P := PySem.Challenge.pw_askwire_k19_whole_near_as_far) (w := w) (mg := mg) (base := base) c_text_of cl_House na_House__ways mc_House__to_get c_found_value mc_House__mark mc_House__to_put mc_House__to_drop mc_House__to_add A33
  have mc_House__ask := ok_House_ask (P := PySem.Challenge.pw_askwire_k19_whole_near_as_far) (w := w) (mg := mg) (base := base) c_checked_asking c_found_value cl_House na_House__known mc_House__done A34
  have mc_Near__is_fresh := ok_Near_is_fresh (P := PySem.Challenge.pw_askwire_k19_whole_near_as_far) (w := w) (mg := mg) (base := base) cl_Near na_Near__kept B c_found_value A35
  have c_put_head := ok_put_head (P := PySem.Challenge.pw_askwire_k19_whole_near_as_far) (w := w) (mg := mg) (base := base) B A36
  have mc_Near__aged := ok_Near_aged (P := PySem.Challenge.pw_askwire_k19_whole_near_as_far) (w := w) (mg := mg) (base := base) cl_Near na_Near__kept c_put_head B A37
  have mc_Near__forget := ok_Near_forget (P := PySem.Challenge.pw_askwire_k19_whole_near_as_far) (w := w) (mg := mg) (base := base) cl_Near na_Near__kept A38
  have c_is_kept := ok_is_kept (P := PySem.Challenge.pw_askwire_k19_whole_near_as_far) (w := w) (mg := mg) (base := base) c_found_value c_is_figures A39
  have mc_Near__far := ok_Near_far (P := PySem.Challenge.pw_askwire_k19_whole_near_as_far) (w := w) (mg := mg) (base := base) c_text_of cl_Near na_Near__kept B g_MOST c_found_value cl_House mc_House__ask c_put_head mc_Near__forget c_is_kept A40
  have mc_Near__ask := ok_Near_ask (P := PySem.Challenge.pw_askwire_k19_whole_near_as_far) (w := w) (mg := mg) (base := base) c_checked_asking c_is_within cl_Near na_Near__last x_BadNumber c_text_of cl_House mc_House__ask na_Near__kept mc_Near__is_fresh mc_Near__aged mc_Near__far mc_Near__forget A41
  have c__law_value_in := ok__law_value_in (P := PySem.Challenge.pw_askwire_k19_whole_near_as_far) (w := w) (mg := mg) (base := base)  A42
  have c__law_got := ok__law_got (P := PySem.Challenge.pw_askwire_k19_whole_near_as_far) (w := w) (mg := mg) (base := base) B c__law_value_in A43
  have c__law_changed := ok__law_changed (P := PySem.Challenge.pw_askwire_k19_whole_near_as_far) (w := w) (mg := mg) (base := base) B c__law_value_in c__law_path_text A44
  have c__law_answered := ok__law_answered (P := PySem.Challenge.pw_askwire_k19_whole_near_as_far) (w := w) (mg := mg) (base := base) c__law_value_in c__law_path_text c__law_got c__law_changed A45
  have c_checked_heads := ok_checked_heads (P := PySem.Challenge.pw_askwire_k19_whole_near_as_far) (w := w) (mg := mg) (base := base) c_are_heads x_BadHeads A46
  have c_look_head := ok_look_head (P := PySem.Challenge.pw_askwire_k19_whole_near_as_far) (w := w) (mg := mg) (base := base) c_is_head_name c_is_head_value x_BadHeads A47
  have c_value_of := ok_value_of (P := PySem.Challenge.pw_askwire_k19_whole_near_as_far) (w := w) (mg := mg) (base := base) c_checked_heads c_look_head c_found_value A48
  have mc_House__things := ok_House_things (P := PySem.Challenge.pw_askwire_k19_whole_near_as_far) (w := w) (mg := mg) (base := base) B cl_House na_House__held mc_House__mark A49
  have mc_House__changes := ok_House_changes (P := PySem.Challenge.pw_askwire_k19_whole_near_as_far) (w := w) (mg := mg) (base := base) cl_House na_House__many A50
  exact ok_law c__law_cell n_House n_Near B c__law_mix c__law_seed c__law_deed cl_Near mc_Near__ask cl_House mc_House__ask c__law_answered c_value_of mc_House__things mc_House__changes (fun_mk (st := s_law) l51 c51 k51)
end Aw
open PySem PySem.W PyProof.Rows
set_option maxHeartbeats 0 in
theorem PySem.Challenge.cw_askwire_k19_whole_near_as_far_holds : PySem.Challenge.rw_askwire_k19_whole_near_as_far.Holds := by
  w_on; o_law; k_head; (case hw => w_witness2)
  k_fill
  refine Q2.walkD (l := PySem.Challenge.rw_askwire_k19_whole_near_as_far) (k := 10) (x := "_law_script") (sp := Aw.sp_law) rfl rfl ⟨rfl, by decide, by decide⟩ (fun w h Y => PySem.W.kIn_of Y) ?NLs ?FFn ?SSp
  case FFn =>
    intro w mg fa h KX G hmg
    refine' Aw.all_mk KX G hmg ?zHouseg ?zHouse1 ?zHouse2 ?zHouse3 ?zHouse4 ?zHouse5 ?zHouse6 ?zNearg ?zNear1 ?zNear2 ?zNear3 ?zNear4 ?zNear5 ?zNear6 ?zHouse_fresh ?zHouse_held ?zHouse_many ?zHouse_numbers ?zHouse_known ?zHouse_ways ?zNear_kept ?zNear_last ?a0 ?l0 ?c0 ?k0 ?a1 ?l1 ?c1 ?k1 ?a2 ?i2 ?l2 ?c2 ?k2 ?a3 ?i3 ?l3 ?c3 ?k3 ?a4 ?l4 ?c4 ?k4 ?a5 ?l5 ?c5 ?k5 ?a6 ?l6 ?c6 ?k6 ?a7 ?l7 ?c7 ?k7 ?a8 ?l8 ?c8 ?k8 ?a9 ?l9 ?c9 ?k9 ?a10 ?l10 ?c10 ?k10 ?a11 ?l11 ?c11 ?k11 ?a12 ?l12 ?c12 ?k12 ?a13 ?l13 ?c13 ?k13 ?a14 ?l14 ?c14 ?k14 ?a15 ?l15 ?c15 ?k15 ?a16 ?l16 ?c16 ?k16 ?a17 ?l17 ?c17 ?k17 ?a18 ?l18 ?c18 ?k18 ?a19 ?l19 ?c19 ?k19 ?a20 ?l20 ?c20 ?k20 ?a21 ?l21 ?c21 ?k21 ?a22 ?l22 ?c22 ?k22 ?a23 ?l23 ?c23 ?k23 ?a24 ?l24 ?c24 ?k24 ?a25 ?i25 ?l25 ?c25 ?k25 ?a26 ?l26 ?c26 ?k26 ?a27 ?l27 ?c27 ?k27 ?a28 ?i28 ?l28 ?c28 ?k28 ?a29 ?i29 ?l29 ?c29 ?k29 ?a30 ?i30 ?l30 ?c30 ?k30 ?a31 ?i31 ?l31 ?c31 ?k31 ?a32 ?i32 ?l32 ?c32 ?k32 ?a33 ?i33 ?l33 ?c33 ?k33 ?a34 ?i34 ?l34 ?c34 ?k34 ?a35 ?i35 ?l35 ?c35 ?k35 ?a36 ?l36 ?c36 ?k36 ?a37 ?i37 ?l37 ?c37 ?k37 ?a38 ?i38 ?l38 ?c38 ?k38 ?a39 ?l39 ?c39 ?k39 ?a40 ?i40 ?l40 ?c40 ?k40 ?a41 ?i41 ?l41 ?c41 ?k41 ?a42 ?l42 ?c42 ?k42 ?a43 ?l43 ?c43 ?k43 ?a44 ?l44 ?c44 ?k44 ?a45 ?l45 ?c45 ?k45 ?a46 ?l46 ?c46 ?k46 ?a47 ?l47 ?c47 ?k47 ?a48 ?l48 ?c48 ?k48 ?a49 ?i49 ?l49 ?c49 ?k49 ?a50 ?i50 ?l50 ?c50 ?k50 ?a51 ?l51 ?c51 ?k51 ?eBadNumber ?ekBadNumber ?ebBadNumber ?etBadNumber ?emBadNumber ?eBadAsking ?ekBadAsking ?ebBadAsking ?etBadAsking ?emBadAsking ?eBadHeads ?ekBadHeads ?ebBadHeads ?etBadHeads ?emBadHeads ?vSIGNS ?wSIGNS ?vOWN ?lOWN ?wOWN ?yOWN ?vSMALL ?wSMALL ?vMOST ?vWORDS ?lWORDS ?wWORDS ?yWORDS ?vMOST_BODY ?vPLAIN ?wPLAIN ?vLINE ?wLINE ?vFIGURES ?wFIGURES ?vMOST_PARTS ?zisinstance ?zlen ?zmin ?zmax ?zsorted ?zstr ?zint ?zbool ?ztuple ?zlist ?zrange ?zset ?zdict ?zenumerate
    (case zHouseg => k_is)
    (case zHouse1 => k_is)
    (case zHouse2 => k_is)
    (case zHouse3 => k_is)
    (case zHouse4 => k_is)
    (case zHouse5 => k_is)
    (case zHouse6 => k_is)
    (case zNearg => k_is)
    (case zNear1 => k_is)
    (case zNear2 => k_is)
    (case zNear3 => k_is)
    (case zNear4 => k_is)
    (case zNear5 => k_is)
    (case zNear6 => k_is)
    (case zHouse_fresh => k_is)
    (case zHouse_held => k_is)
    (case zHouse_many => k_is)
    (case zHouse_numbers => k_is)
    (case zHouse_known => k_is)
    (case zHouse_ways => k_is)
    (case zNear_kept => k_is)
    (case zNear_last => k_is)
    (case a0 => k_is)
    (case l0 => k_is)
    (case c0 => k_is)
    (case k0 => k_is)
    (case a1 => k_is)
    (case l1 => k_is)
    (case c1 => k_is)
    (case k1 => k_is)
    (case a2 => k_is)
    (case i2 => k_is)
    (case l2 => k_is)
    (case c2 => k_is)
    (case k2 => k_is)
    (case a3 => k_is)
    (case i3 => k_is)
    (case l3 => k_is)
    (case c3 => k_is)
    (case k3 => k_is)
    (case a4 => k_is)
    (case l4 => k_is)
    (case c4 => k_is)
    (case k4 => k_is)
    (case a5 => k_is)
    (case l5 => k_is)
    (case c5 => k_is)
    (case k5 => k_is)
    (case a6 => k_is)
    (case l6 => k_is)
    (case c6 => k_is)
    (case k6 => k_is)
    (case a7 => k_is)
    (case l7 => k_is)
    (case c7 => k_is)
    (case k7 => k_is)
    (case a8 => k_is)
    (case l8 => k_is)
    (case c8 => k_is)
    (case k8 => k_is)
    (case a9 => k_is)
    (case l9 => k_is)
    (case c9 => k_is)
    (case k9 => k_is)
    (case a10 => k_is)
    (case l10 => k_is)
    (case c10 => k_is)
    (case k10 => k_is)
    (case a11 => k_is)
    (case l11 => k_is)
    (case c11 => k_is)
    (case k11 => k_is)
    (case a12 => k_is)
    (case l12 => k_is)
    (case c12 => k_is)
    (case k12 => k_is)
    (case a13 => k_is)
    (case l13 => k_is)
    (case c13 => k_is)
    (case k13 => k_is)
    (case a14 => k_is)
    (case l14 => k_is)
    (case c14 => k_is)
    (case k14 => k_is)
    (case a15 => k_is)
    (case l15 => k_is)
    (case c15 => k_is)
    (case k15 => k_is)
    (case a16 => k_is)
    (case l16 => k_is)
    (case c16 => k_is)
    (case k16 => k_is)
    (case a17 => k_is)
    (case l17 => k_is)
    (case c17 => k_is)
    (case k17 => k_is)
    (case a18 => k_is)
    (case l18 => k_is)
    (case c18 => k_is)
    (case k18 => k_is)
    (case a19 => k_is)
    (case l19 => k_is)
    (case c19 => k_is)
    (case k19 => k_is)
    (case a20 => k_is)
    (case l20 => k_is)
    (case c20 => k_is)
    (case k20 => k_is)
    (case a21 => k_is)
    (case l21 => k_is)
    (case c21 => k_is)
    (case k21 => k_is)
    (case a22 => k_is)
    (case l22 => k_is)
    (case c22 => k_is)
    (case k22 => k_is)
    (case a23 => k_is)
    (case l23 => k_is)
    (case c23 => k_is)
    (case k23 => k_is)
    (case a24 => k_is)
    (case l24 => k_is)
    (case c24 => k_is)
    (case k24 => k_is)
    (case a25 => k_is)
    (case i25 => k_is)
    (case l25 => k_is)
    (case c25 => k_is)
    (case k25 => k_is)
    (case a26 => k_is)
    (case l26 => k_is)
    (case c26 => k_is)
    (case k26 => k_is)
    (case a27 => k_is)
    (case l27 => k_is)
    (case c27 => k_is)
    (case k27 => k_is)
    (case a28 => k_is)
    (case i28 => k_is)
    (case l28 => k_is)
    (case c28 => k_is)
    (case k28 => k_is)
    (case a29 => k_is)
    (case i29 => k_is)
    (case l29 => k_is)
    (case c29 => k_is)
    (case k29 => k_is)
    (case a30 => k_is)
    (case i30 => k_is)
    (case l30 => k_is)
    (case c30 => k_is)
    (case k30 => k_is)
    (case a31 => k_is)
    (case i31 => k_is)
    (case l31 => k_is)
    (case c31 => k_is)
    (case k31 => k_is)
    (case a32 => k_is)
    (case i32 => k_is)
    (case l32 => k_is)
    (case c32 => k_is)
    (case k32 => k_is)
    (case a33 => k_is)
    (case i33 => k_is)
    (case l33 => k_is)
    (case c33 => k_is)
    (case k33 => k_is)
    (case a34 => k_is)
    (case i34 => k_is)
    (case l34 => k_is)
    (case c34 => k_is)
    (case k34 => k_is)
    (case a35 => k_is)
    (case i35 => k_is)
    (case l35 => k_is)
    (case c35 => k_is)
    (case k35 => k_is)
    (case a36 => k_is)
    (case l36 => k_is)
    (case c36 => k_is)
    (case k36 => k_is)
    (case a37 => k_is)
    (case i37 => k_is)
    (case l37 => k_is)
    (case c37 => k_is)
    (case k37 => k_is)
    (case a38 => k_is)
    (case i38 => k_is)
    (case l38 => k_is)
    (case c38 => k_is)
    (case k38 => k_is)
    (case a39 => k_is)
    (case l39 => k_is)
    (case c39 => k_is)
    (case k39 => k_is)
    (case a40 => k_is)
    (case i40 => k_is)
    (case l40 => k_is)
    (case c40 => k_is)
    (case k40 => k_is)
    (case a41 => k_is)
    (case i41 => k_is)
    (case l41 => k_is)
    (case c41 => k_is)
    (case k41 => k_is)
    (case a42 => k_is)
    (case l42 => k_is)
    (case c42 => k_is)
    (case k42 => k_is)
    (case a43 => k_is)
    (case l43 => k_is)
    (case c43 => k_is)
    (case k43 => k_is)
    (case a44 => k_is)
    (case l44 => k_is)
    (case c44 => k_is)
    (case k44 => k_is)
    (case a45 => k_is)
    (case l45 => k_is)
    (case c45 => k_is)
    (case k45 => k_is)
    (case a46 => k_is)
    (case l46 => k_is)
    (case c46 => k_is)
    (case k46 => k_is)
    (case a47 => k_is)
    (case l47 => k_is)
    (case c47 => k_is)
    (case k47 => k_is)
    (case a48 => k_is)
    (case l48 => k_is)
    (case c48 => k_is)
    (case k48 => k_is)
    (case a49 => k_is)
    (case i49 => k_is)
    (case l49 => k_is)
    (case c49 => k_is)
    (case k49 => k_is)
    (case a50 => k_is)
    (case i50 => k_is)
    (case l50 => k_is)
    (case c50 => k_is)
    (case k50 => k_is)
    (case a51 => k_is)
    (case l51 => k_is)
    (case c51 => k_is)
    (case k51 => k_is)
    (case eBadNumber => k_is)
    (case ekBadNumber => k_is)
    (case ebBadNumber => k_is)
    (case etBadNumber => k_is)
    (case emBadNumber => k_exc)
    (case eBadAsking => k_is)
    (case ekBadAsking => k_is)
    (case ebBadAsking => k_is)
    (case etBadAsking => k_is)
    (case emBadAsking => k_exc)
    (case eBadHeads => k_is)
    (case ekBadHeads => k_is)
    (case ebBadHeads => k_is)
    (case etBadHeads => k_is)
    (case emBadHeads => k_exc)
    (case vSIGNS => k_is)
    (case wSIGNS => decide +kernel)
    (case vOWN => k_is)
    (case lOWN => k_is)
    (case wOWN => decide +kernel)
    (case yOWN => decide +kernel)
    (case vSMALL => k_is)
    (case wSMALL => decide +kernel)
    (case vMOST => k_is)
    (case vWORDS => k_is)
    (case lWORDS => k_is)
    (case wWORDS => decide +kernel)
    (case yWORDS => decide +kernel)
    (case vMOST_BODY => k_is)
    (case vPLAIN => k_is)
    (case wPLAIN => decide +kernel)
    (case vLINE => k_is)
    (case wLINE => decide +kernel)
    (case vFIGURES => k_is)
    (case wFIGURES => decide +kernel)
    (case vMOST_PARTS => k_is)
    (case zisinstance => k_is)
    (case zlen => k_is)
    (case zmin => k_is)
    (case zmax => k_is)
    (case zsorted => k_is)
    (case zstr => k_is)
    (case zint => k_is)
    (case zbool => k_is)
    (case ztuple => k_is)
    (case zlist => k_is)
    (case zrange => k_is)
    (case zset => k_is)
    (case zdict => k_is)
    (case zenumerate => k_is)
  case NLs =>
    intro w
    exact Eq.refl true
  case SSp =>
    exact fun a ns ω h1 h2 => ⟨a, ns, rfl, h1, h2, rfl⟩
