import PyProof.Rows.All
import Wide.All
import OpenK.AllK
import Wide.FinOn
import PySem.Challenge.RW_answernow_k38_whole_ready_rows_by_parts
import HandS.ForMost
import HandS.Deep
import HandS.TupAny
import HandS.TupMul
import HandS.Wide
import HandS.Strs
import HandS.Style
import HandS.SortInts
import HandS.IsInst
import KE.DataMinMax
import KE.KTupSum
import KE.KSortedM
import HandS.Conv
import HandS.Rev
import HandS.Zip
import KE.KDictWalk
import KE.KDictDisplayH
import KE.GoesEnum
import HandS.More
set_option Elab.async false
set_option linter.all false
set_option maxRecDepth 100000
set_option maxHeartbeats 1000000
/-! Dn: denotations. Each construct of the text gets a total Lean function over plain data; one soundness theorem each over the hand layer. -/
namespace Dn
open PySem PySem.Spec PyProof.Rows L2

/-! ### data -/
inductive D where
  | non | bl (b : Bool) | int (i : Int) | str (x : Str) | tup (l : List D) | fl (l : List D) | sc (l : List D) | ref (n : Nat)
instance : Inhabited D := ⟨.non⟩
inductive O where
  | lst (l : List D) | dK (l : List (D × D)) | dT (l : List (D × D)) | lkK (l : List (D × D)) | lkT (l : List (D × D))
abbrev HH := List O
abbrev DE := List (Option D)

section
variable (K : PySem.W.Frag) (N : Addr → Prop) (H : Hp) (m : List Addr)
/-- a list that is read, not changed: not one of the owned -/
def SqF (a : Addr) (vs : List V) : Prop := H a = some (.lst vs) ∧ a ∉ m ∧ ¬ N a
/-- a list that nobody can change: the script, one of the top -/
def SqS (a : Addr) (vs : List V) : Prop := (∃ o, H a = some (.frz o (.lst vs))) ∨
  ∃ (o : Obj) (its : Array Value) (n : Nat), K.lookup a = some o ∧ o.cls = .type "list" ∧ o.dict = none ∧ o.data = .seq its n ∧ its.size ≤ sizeLine ∧ Vals vs its.toList
mutual
def RV : D → V → Prop
  | .non, v => v = .non
  | .bl b, v => v = .bl b
  | .int i, v => v = .int i
  | .str x, v => v = .str x
  | .ref n, v => ∃ a, m[n]? = some a ∧ v = .ref a
  | .fl l, v => ∃ a vs, v = .ref a ∧ SqF N H m a vs ∧ RVs l vs
  | .sc l, v => ∃ a vs, v = .ref a ∧ SqS K H a vs ∧ RVs l vs
  | .tup l, v => ∃ a vs, v = .ref a ∧ H a = some (.tup vs) ∧ RVs l vs
def RVs : List D → List V → Prop
  | [], vs => vs = []
  | d :: r, vs => ∃ v ws, vs = v :: ws ∧ RV d v ∧ RVs r ws
end
def RVo (d : Option D) (v : Option V) : Prop := ∀ x, d = some x → ∃ y, v = some y ∧ RV K N H m x y
def keyD : Key → D
  | .inl i => .int i
  | .inr x => .str x
def tkeyD (k : List Key) : D := .tup (k.map keyD)
def PK (p : D × D) (w : Key × V) : Prop := p.1 = keyD w.1 ∧ RV K N H m p.2 w.2
def PT (p : D × D) (w : List Key × V) : Prop := p.1 = tkeyD w.1 ∧ RV K N H m p.2 w.2
def RO (a : Addr) : O → Prop
  | .lst l => ∃ vs, H a = some (.lst vs) ∧ RVs K N H m l vs
  | .dK l => ∃ ws, H a = some (.dK ws) ∧ Paired (PK K N H m) l ws
  | .dT l => ∃ ws, H a = some (.dT ws) ∧ Paired (PT K N H m) l ws
  | .lkK l => ∃ o ws, H a = some (.frz o (.dK ws)) ∧ Paired (PK K N H m) l ws
  | .lkT l => ∃ o ws, H a = some (.frz o (.dT ws)) ∧ Paired (PT K N H m) l ws
structure RH (h : HH) : Prop where
  len : m.length = h.length
  nd : m.Nodup
  hid : ∀ a, N a → ∃ o, H a = some o
  at_ : ∀ (n : Nat) (o : O) (a : Addr), h[n]? = some o → m[n]? = some a → RO K N H m a o
structure RE (σ : L2.St) (env : DE) : Prop where
  len : env.length = σ.length
  at_ : ∀ (i : Nat) (d : D), env[i]? = some (some d) → ∃ v, σ[i]? = some (some v) ∧ RV K N H m d v
structure G (σ : L2.St) (env : DE) (h : HH) : Prop where
  re : RE K N H m σ env
  rh : RH K N H m h
end
/-- behind a piece of the run -/
structure Post (K : PySem.W.Frag) (N : Addr → Prop) (H : Hp) (m : List Addr) (H' : Hp) (m' : List Addr) (h' : HH) : Prop where
  pre : ∃ e, m' = m ++ e
  frame : ∀ a o, H a = some o → a ∉ m → H' a = some o
  fresh : ∀ a, a ∈ m' → a ∉ m → H a = none
  dom : ∀ a o, H a = some o → ∃ o', H' a = some o'
  rh : RH K N H' m' h'
  frz : ∀ a o u, H a = some (.frz o u) → H' a = some (.frz o u)

section
variable {K : PySem.W.Frag} {N : Addr → Prop} {H H' H'' : Hp} {m m' m'' : List Addr} {h h' h'' : HH} {σ : L2.St} {env : DE}
theorem RO.some {a : Addr} {o : O} (r : RO K N H m a o) : ∃ u, H a = some u ∧ (∀ xs, u ≠ .tup xs) ∧ (∀ ob xs, u ≠ .frz ob (.tup xs)) ∧ ∀ ob xs, u ≠ .frz ob (.lst xs) := by
  cases o with
  | lst l => obtain ⟨vs, e, _⟩ := r; exact ⟨_, e, (fun _ z => by cases z), (fun _ _ z => by cases z), fun _ _ z => by cases z⟩
  | dK l => obtain ⟨vs, e, _⟩ := r; exact ⟨_, e, (fun _ z => by cases z), (fun _ _ z => by cases z), fun _ _ z => by cases z⟩
  | dT l => obtain ⟨vs, e, _⟩ := r; exact ⟨_, e, (fun _ z => by cases z), (fun _ _ z => by cases z), fun _ _ z => by cases z⟩
  | lkK l => obtain ⟨ob, vs, e, _⟩ := r; exact ⟨_, e, (fun _ z => by cases z), (fun _ _ z => by cases z), fun _ _ z => by cases z⟩
  | lkT l => obtain ⟨ob, vs, e, _⟩ := r; exact ⟨_, e, (fun _ z => by cases z), (fun _ _ z => by cases z), fun _ _ z => by cases z⟩
theorem RH.obj (r : RH K N H m h) {a : Addr} (ha : a ∈ m) : ∃ (n : Nat) (o : O), h[n]? = some o ∧ m[n]? = some a ∧ RO K N H m a o := by
  obtain ⟨n, hn, e⟩ := List.getElem_of_mem ha
  have hl : n < h.length := by rw [← r.len]; exact hn
  have e1 : m[n]? = some a := by rw [List.getElem?_eq_getElem hn, e]
  exact ⟨n, h[n], List.getElem?_eq_getElem hl, e1, r.at_ n _ a (List.getElem?_eq_getElem hl) e1⟩
theorem RH.notin (r : RH K N H m h) {a : Addr} (ha : H a = none) : a ∉ m := fun z => by
  obtain ⟨n, o, _, _, ro⟩ := r.obj z
  obtain ⟨u, e, _⟩ := ro.some
  rw [ha] at e; cases e
theorem RH.notup (r : RH K N H m h) {a : Addr} {xs : List V} (ha : Rd H a (.tup xs)) : a ∉ m := fun z => by
  obtain ⟨n, o, _, _, ro⟩ := r.obj z
  obtain ⟨u, e, h1, h2, _⟩ := ro.some
  rcases ha with ha | ⟨ob, ha⟩
  · rw [ha] at e; cases e; exact h1 _ rfl
  · rw [ha] at e; cases e; exact h2 _ _ rfl
theorem RH.nofrz (r : RH K N H m h) {a : Addr} {ob : Obj} {xs : List V} (ha : H a = some (.frz ob (.lst xs))) : a ∉ m := fun z => by
  obtain ⟨n, o, _, _, ro⟩ := r.obj z
  obtain ⟨u, e, _, _, h3⟩ := ro.some
  rw [ha] at e; cases e; exact h3 _ _ rfl
theorem SqT.mono (r : RH K N H m h) (p : Post K N H m H' m' h') {a : Addr} {vs : List V} (q : SqT K H a vs) : SqT K H' a vs := by
  rcases q with q | q
  · have hn := r.notup q
    rcases q with q | ⟨ob, q⟩
    · exact .inl (.inl (p.frame _ _ q hn))
    · exact .inl (.inr ⟨ob, p.frame _ _ q hn⟩)
  · exact .inr q
theorem SqF.mono (p : Post K N H m H' m' h') {a : Addr} {vs : List V} (q : SqF N H m a vs) : SqF N H' m' a vs := by
  obtain ⟨q, hn, hN⟩ := q
  refine ⟨p.frame _ _ q hn, fun z => ?_, hN⟩
  have e := p.fresh a z hn
  rw [e] at q; cases q
theorem SqS.mono (r : RH K N H m h) (p : Post K N H m H' m' h') {a : Addr} {vs : List V} (q : SqS K H a vs) : SqS K H' a vs := by
  rcases q with ⟨ob, q⟩ | q
  · exact .inl ⟨ob, p.frame _ _ q (r.nofrz q)⟩
  · exact .inr q
theorem SqF.seq {a : Addr} {vs : List V} (q : SqF N H m a vs) : SqL K H a vs := .inl (.inl q.1)
theorem SqS.seq {a : Addr} {vs : List V} (q : SqS K H a vs) : SqL K H a vs := by
  rcases q with ⟨ob, q⟩ | q
  · exact .inl (.inr ⟨ob, q⟩)
  · exact .inr q
mutual
theorem RV.mono (r : RH K N H m h) (p : Post K N H m H' m' h') : ∀ (d : D) (v : V), RV K N H m d v → RV K N H' m' d v
  | .non, _, q => q
  | .bl _, _, q => q
  | .int _, _, q => q
  | .str _, _, q => q
  | .ref n, _, ⟨a, e, q⟩ => by
    obtain ⟨x, hx⟩ := p.pre
    refine ⟨a, ?_, q⟩
    rw [hx, List.getElem?_append_left (List.getElem?_eq_some_iff.mp e).1]
    exact e
  | .fl l, _, ⟨a, vs, e, q, z⟩ => ⟨a, vs, e, SqF.mono p q, RVs.mono r p l vs z⟩
  | .sc l, _, ⟨a, vs, e, q, z⟩ => ⟨a, vs, e, SqS.mono r p q, RVs.mono r p l vs z⟩
  | .tup l, _, ⟨a, vs, e, q, z⟩ => ⟨a, vs, e, p.frame _ _ q (r.notup (.inl q)), RVs.mono r p l vs z⟩
theorem RVs.mono (r : RH K N H m h) (p : Post K N H m H' m' h') : ∀ (l : List D) (vs : List V), RVs K N H m l vs → RVs K N H' m' l vs
  | [], _, q => q
  | d :: l, _, ⟨v, ws, e, q, z⟩ => ⟨v, ws, e, RV.mono r p d v q, RVs.mono r p l ws z⟩
end
theorem RE.mono (r : RH K N H m h) (p : Post K N H m H' m' h') (q : RE K N H m σ env) : RE K N H' m' σ env :=
  ⟨q.len, fun i d e => let ⟨v, e1, z⟩ := q.at_ i d e; ⟨v, e1, RV.mono r p d v z⟩⟩
theorem Post.refl (r : RH K N H m h) : Post K N H m H m h := ⟨⟨[], by simp⟩, fun _ _ e _ => e, fun a z n => absurd z n, fun _ o e => ⟨o, e⟩, r, fun _ _ _ e => e⟩
theorem Post.trans {N' : Addr → Prop} (p : Post K N H m H' m' h') (q : Post K N' H' m' H'' m'' h'') : Post K N' H m H'' m'' h'' := by
  obtain ⟨e1, h1⟩ := p.pre
  obtain ⟨e2, h2⟩ := q.pre
  refine ⟨⟨e1 ++ e2, by rw [h2, h1, List.append_assoc]⟩, fun a o e hn => ?_, fun a z hn => ?_, fun a o e => ?_, q.rh, fun a o u e => q.frz a o u (p.frz a o u e)⟩
  · refine q.frame a o (p.frame a o e hn) fun z => ?_
    have := p.fresh a z hn
    rw [e] at this; cases this
  · by_cases hm : a ∈ m'
    · exact p.fresh a hm hn
    · have e := q.fresh a z hm
      cases hH : H a with
      | none => rfl
      | some o =>
        obtain ⟨o', e'⟩ := p.dom a o hH
        rw [e] at e'; cases e'
  · obtain ⟨o1, e1⟩ := p.dom a o e
    exact q.dom a o1 e1
theorem G.mono (g : G K N H m σ env h) (p : Post K N H m H' m' h') : G K N H' m' σ env h' := ⟨RE.mono g.rh p g.re, p.rh⟩

/-! #### lists of data -/
theorem RVs.length : ∀ {l : List D} {vs : List V}, RVs K N H m l vs → l.length = vs.length
  | [], _, q => by rw [show _ = ([] : List V) from q]; rfl
  | d :: l, _, ⟨v, ws, e, _, z⟩ => by rw [e]; simp only [List.length_cons]; rw [RVs.length z]
theorem RVs.get : ∀ {l : List D} {vs : List V} {i : Nat} {d : D}, RVs K N H m l vs → l[i]? = some d → ∃ v, vs[i]? = some v ∧ RV K N H m d v
  | [], _, _, _, _, e => by simp at e
  | d :: l, _, 0, _, ⟨v, ws, e1, r, _⟩, e => by
    subst e1
    simp at e; subst e
    exact ⟨v, by simp, r⟩
  | d :: l, _, i + 1, _, ⟨v, ws, e1, _, z⟩, e => by
    subst e1
    obtain ⟨u, e2, r⟩ := RVs.get (i := i) z (by simpa using e)
    exact ⟨u, by simpa using e2, r⟩
theorem RVs.getV : ∀ {l : List D} {vs : List V} {i : Nat} {v : V}, RVs K N H m l vs → vs[i]? = some v → ∃ d, l[i]? = some d ∧ RV K N H m d v := fun {l vs i v} r e => by
  have hl := r.length
  have hi := (List.getElem?_eq_some_iff.mp e).1
  have h2 : i < l.length := by omega
  obtain ⟨u, e1, q⟩ := r.get (List.getElem?_eq_getElem h2)
  rw [e] at e1; cases e1
  exact ⟨_, List.getElem?_eq_getElem h2, q⟩
theorem RVs.append : ∀ {l l2 : List D} {vs ws : List V}, RVs K N H m l vs → RVs K N H m l2 ws → RVs K N H m (l ++ l2) (vs ++ ws)
  | [], _, _, _, q, q2 => by rw [show _ = [] from q]; exact q2
  | d :: l, _, _, _, ⟨v, ws, e, r, z⟩, q2 => ⟨v, _, by rw [e]; rfl, r, RVs.append z q2⟩
theorem RVs.one {d : D} {v : V} (r : RV K N H m d v) : RVs K N H m [d] [v] := ⟨v, [], rfl, r, rfl⟩
theorem RVs.set : ∀ {l : List D} {vs : List V} (i : Nat) {d : D} {v : V}, RVs K N H m l vs → RV K N H m d v → RVs K N H m (l.set i d) (vs.set i v)
  | [], _, _, _, _, q, _ => by rw [show _ = [] from q]; exact rfl
  | _ :: l, _, 0, _, v, ⟨_, ws, e, _, z⟩, r => by subst e; exact ⟨v, ws, rfl, r, z⟩
  | _ :: l, _, i + 1, _, v, ⟨u, ws, e, q, z⟩, r => by subst e; exact ⟨u, ws.set i v, rfl, q, RVs.set i z r⟩
theorem RVs.take : ∀ {l : List D} {vs : List V} (n : Nat), RVs K N H m l vs → RVs K N H m (l.take n) (vs.take n)
  | _, _, 0, _ => rfl
  | [], _, _ + 1, q => by rw [show _ = [] from q]; exact rfl
  | _ :: l, _, n + 1, ⟨v, ws, e, r, z⟩ => by subst e; exact ⟨v, ws.take n, rfl, r, RVs.take n z⟩
theorem RVs.drop : ∀ {l : List D} {vs : List V} (n : Nat), RVs K N H m l vs → RVs K N H m (l.drop n) (vs.drop n)
  | _, _, 0, q => q
  | [], _, _ + 1, q => by rw [show _ = [] from q]; exact rfl
  | _ :: l, _, n + 1, ⟨v, ws, e, _, z⟩ => by subst e; exact RVs.drop n z
theorem RVs.reverse : ∀ {l : List D} {vs : List V}, RVs K N H m l vs → RVs K N H m l.reverse vs.reverse
  | [], _, q => by rw [show _ = [] from q]; exact rfl
  | d :: l, _, ⟨v, ws, e, r, z⟩ => by
    subst e
    rw [List.reverse_cons, List.reverse_cons]
    exact RVs.append (RVs.reverse z) (RVs.one r)
theorem RVs.eraseIdx : ∀ {l : List D} {vs : List V} (i : Nat), RVs K N H m l vs → RVs K N H m (l.eraseIdx i) (vs.eraseIdx i)
  | [], _, _, q => by rw [show _ = [] from q]; exact rfl
  | _ :: l, _, 0, ⟨_, ws, e, _, z⟩ => by subst e; exact z
  | _ :: l, _, i + 1, ⟨v, ws, e, r, z⟩ => by subst e; exact ⟨v, ws.eraseIdx i, rfl, r, RVs.eraseIdx i z⟩
theorem RVs.ints : ∀ {l : List D} {vs : List V} {ns : List Int}, RVs K N H m l vs → l = ns.map D.int → vs = ns.map V.int
  | [], _, [], q, _ => by rw [show _ = [] from q]; rfl
  | [], _, _ :: _, _, e => by simp at e
  | _ :: _, _, [], _, e => by simp at e
  | d :: l, _, n :: ns, ⟨v, ws, e1, r, z⟩, e => by
    subst e1
    simp only [List.map_cons, List.cons.injEq] at e
    obtain ⟨e2, e3⟩ := e
    subst e2
    rw [show v = .int n from r, RVs.ints z e3]; rfl
end

/-! ### weakening -/
theorem PEw {X : Cx} {e : Expr} {t t' : TE} (h : PE X e t) (w : ∀ σ H Q, t' σ H Q → t σ H Q) : PE X e t' := ⟨fun pins s σ H Q I q => h.run pins s σ H Q I (w σ H Q q)⟩
theorem PTw {X : Cx} {e : Expr} {t t' : TT} (h : L2.PT X e t) (w : ∀ σ H Q, t' σ H Q → t σ H Q) : L2.PT X e t' := ⟨fun pins s σ H Q I q => h.run pins s σ H Q I (w σ H Q q)⟩
theorem PWw {X : Cx} {e : Expr} {t t' : TT} (h : PW X e t) (w : ∀ σ H Q, t' σ H Q → t σ H Q) : PW X e t' := ⟨fun wh pins s σ H Q I q => h.run wh pins s σ H Q I (w σ H Q q)⟩
theorem PAw {X : Cx} {es : List Expr} {t t' : TA} (h : PA X es t) (w : ∀ σ H Q, t' σ H Q → t σ H Q) : PA X es t' := ⟨fun pos pins s σ H Q I q => h.run pos pins s σ H Q I (w σ H Q q)⟩
theorem PSw {X : Cx} {st : Stmt} {t t' : TS} (h : PS X st t) (w : ∀ D σ H, t' D σ H → t D σ H) : PS X st t' := ⟨fun pins s σ H D I q => h.run pins s σ H D I (w D σ H q)⟩
theorem PSsw {X : Cx} {st : List Stmt} {t t' : TS} (h : PSs X st t) (w : ∀ D σ H, t' D σ H → t D σ H) : PSs X st t' := ⟨fun pins s σ H D I q => h.run pins s σ H D I (w D σ H q)⟩
theorem PGw {X : Cx} {e : Expr} {t t' : TG} (h : PG X e t) (w : ∀ v σ H Q, t' v σ H Q → t v σ H Q) : PG X e t' := ⟨fun pins s σ H v u Q I r q => h.run pins s σ H v u Q I r (w v σ H Q q)⟩

/-! ### readings out of denotations -/
abbrev Den := DE → HH → Option (D × HH)
abbrev LDen := DE → HH → Option (List D × HH)
abbrev BDen := DE → HH → Option (Bool × HH)
def tE (K : PySem.W.Frag) (f : Den) : TE := fun σ H Q => ∃ N env m h d h', G K N H m σ env h ∧ f env h = some (d, h') ∧ ∀ H' m' v, Post K N H m H' m' h' → RV K N H' m' d v → Q v H'
def tA (K : PySem.W.Frag) (f : LDen) : TA := fun σ H Q => ∃ N env m h ds h', G K N H m σ env h ∧ f env h = some (ds, h') ∧ ∀ H' m' vs, Post K N H m H' m' h' → RVs K N H' m' ds vs → Q vs H'
def tB (K : PySem.W.Frag) (f : BDen) : TT := fun σ H Q => ∃ N env m h b h', G K N H m σ env h ∧ f env h = some (b, h') ∧ ∀ H' m', Post K N H m H' m' h' → Q b H'
def Nw (N : Addr → Prop) (a : Addr) : Addr → Prop := fun b => N b ∨ b = a
/-- a list made anew, at an address that is nobody's -/
def tL (K : PySem.W.Frag) (f : LDen) : TE := fun σ H Q => ∃ N env m h ds h', G K N H m σ env h ∧ f env h = some (ds, h') ∧
  ∀ H' m' a vs, H a = none → a ∉ m' → H' a = some (.lst vs) → Post K (Nw N a) H m H' m' h' → RVs K (Nw N a) H' m' ds vs → Q (.ref a) H'
abbrev XE (X : Cx) (e : Expr) (f : Den) : Prop := PE X e (tE X.K f)
abbrev XL (X : Cx) (e : Expr) (f : LDen) : Prop := PE X e (tL X.K f)
abbrev XA (X : Cx) (es : List Expr) (f : LDen) : Prop := PA X es (tA X.K f)
abbrev XB (X : Cx) (e : Expr) (f : BDen) : Prop := L2.PT X e (tB X.K f)

/-! ### names, constants -/
def dVar (i : Nat) : Den := fun env h => match env[i]? with
  | some (some d) => some (d, h)
  | _ => none
def dC (d : D) : Den := fun _ h => some (d, h)
section
variable {X : Cx} {pos : Pos}
theorem xe_var {i : Nat} {x : Str} (p : PE X (.Name x pos) (tVar i)) : XE X (.Name x pos) (dVar i) := PEw p fun σ H Q ⟨N, env, m, h, d, h', g, e, q⟩ => by
  unfold dVar at e
  split at e
  · rename_i d' hd
    cases e
    obtain ⟨v, e1, r⟩ := g.re.at_ i _ hd
    exact ⟨v, e1, q H m v (Post.refl g.rh) r⟩
  · cases e
theorem xe_c {e : Expr} {v : V} {d : D} (p : PE X e (tC v)) (r : ∀ N H m, RV X.K N H m d v) : XE X e (dC d) := PEw p fun σ H Q ⟨N, env, m, h, d', h', g, e, q⟩ => by
  cases e
  exact q H m v (Post.refl g.rh) (r N H m)
theorem xe_int {i j} : XE X (.Constant (.int i) j pos) (dC (.int i)) := xe_c pe_int fun _ _ _ => rfl
theorem xe_bl {b j} : XE X (.Constant (.bool b) j pos) (dC (.bl b)) := xe_c pe_bl fun _ _ _ => rfl
theorem xe_non {j} : XE X (.Constant .none j pos) (dC .non) := xe_c pe_non fun _ _ _ => rfl
theorem xe_str {x j} : XE X (.Constant (.str x) j pos) (dC (.str x)) := xe_c pe_str fun _ _ _ => rfl

/-! ### arguments -/
def dNil : LDen := fun _ h => some ([], h)
def dCons (f : Den) (r : LDen) : LDen := fun env h => match f env h with
  | some (d, h1) => (match r env h1 with
    | some (ds, h2) => some (d :: ds, h2)
    | none => none)
  | none => none
theorem xa_nil : XA X [] dNil := PAw pa_nil fun σ H Q ⟨N, env, m, h, ds, h', g, e, q⟩ => by
  cases e
  exact q H m [] (Post.refl g.rh) rfl
theorem xa_cons {e : Expr} {es : List Expr} {f : Den} {r : LDen} (ha : XE X e f) (hr : XA X es r) (hs : starEach (e :: es) X.env = (false, eval e X.env) :: starEach es X.env := by rfl) : XA X (e :: es) (dCons f r) :=
  PAw (pa_cons ha hr hs) fun σ H Q ⟨N, env, m, h, ds, h', g, e, q⟩ => by
    unfold dCons at e
    split at e
    · rename_i d h1 e1
      split at e
      · rename_i ds' h2 e2
        cases e
        refine ⟨N, env, m, h, d, h1, g, e1, fun H1 m1 v p1 r1 => ?_⟩
        refine ⟨N, env, m1, h1, ds', _, g.mono p1, e2, fun H2 m2 vs p2 r2 => ?_⟩
        exact q H2 m2 (v :: vs) (p1.trans p2) ⟨v, vs, rfl, RV.mono p1.rh p2 d v r1, r2⟩
      · cases e
    · cases e

/-! ### operations by values -/
abbrev Prim := List D → HH → Option (D × HH)
def PrimR (K : PySem.W.Frag) (r : List V → Hp → VK → Prop) (p : Prim) : Prop := ∀ N ds vs H m h d h' Q, RH K N H m h → RVs K N H m ds vs → p ds h = some (d, h') → (∀ H' m' v, Post K N H m H' m' h' → RV K N H' m' d v → Q v H') → r vs H Q
def dApp (p : Prim) (a : LDen) : Den := fun env h => match a env h with
  | some (ds, h1) => p ds h1
  | none => none
theorem app_ok {r : List V → Hp → VK → Prop} {p : Prim} {f : LDen} {K : PySem.W.Frag} (pr : PrimR K r p) {σ H Q} (q : tE K (dApp p f) σ H Q) : tA K f σ H fun vs H1 => r vs H1 Q := by
  obtain ⟨N, env, m, h, d, h', g, e, q⟩ := q
  unfold dApp at e
  split at e
  · rename_i ds h1 e1
    refine ⟨N, env, m, h, ds, h1, g, e1, fun H1 m1 vs p1 r1 => ?_⟩
    exact pr N ds vs H1 m1 h1 d h' Q p1.rh r1 e fun H2 m2 v p2 r2 => q H2 m2 v (p1.trans p2) r2
  · cases e
/-- two operands -/
def dApp2 (p : Prim) (a b : Den) : Den := dApp p (dCons a (dCons b dNil))
def R2l (r : R2) : List V → Hp → VK → Prop := fun vs H Q => ∃ x y, vs = [x, y] ∧ r x y H Q
theorem app2_ok {r : R2} {p : Prim} {f g : Den} {K : PySem.W.Frag} (pr : PrimR K (R2l r) p) {σ H Q} (q : tE K (dApp2 p f g) σ H Q) : tE K f σ H fun x H1 => tE K g σ H1 fun y H2 => r x y H2 Q := by
  have q' := app_ok pr q
  obtain ⟨N, env, m, h, ds, h', gg, e, q'⟩ := q'
  unfold dCons at e
  split at e
  · rename_i d h1 e1
    unfold dNil at e
    split at e
    · rename_i ds' h2 e2
      split at e2
      · rename_i d2 h3 e3
        simp only [Option.some.injEq, Prod.mk.injEq] at e2 e
        obtain ⟨ea, eb⟩ := e2
        obtain ⟨ec, ed⟩ := e
        subst ea eb ec ed
        refine ⟨N, env, m, h, d, h1, gg, e1, fun H1 m1 x p1 r1 => ?_⟩
        refine ⟨N, env, m1, h1, d2, _, gg.mono p1, e3, fun H2 m2 y p2 r2 => ?_⟩
        obtain ⟨x', y', ee, z⟩ := q' H2 m2 [x, y] (p1.trans p2) ⟨x, [y], rfl, RV.mono p1.rh p2 d x r1, y, [], rfl, r2, rfl⟩
        simp only [List.cons.injEq, and_true] at ee
        obtain ⟨ea, eb⟩ := ee
        subst ea eb
        exact z
      · cases e2
    · cases e
  · cases e
theorem xe_op {op : Operator} {r : R2} {p : Prim} {a b : Expr} {f g : Den} (ho : OpR X (binaryOp op) r) (pr : PrimR X.K (R2l r) p) (ha : XE X a f) (hb : XE X b g) : XE X (.BinOp a op b pos) (dApp2 p f g) :=
  PEw (pe_op ho ha hb) fun σ H Q q => app2_ok pr q
theorem xe_cmp {op : CmpOp} {r : R2} {p : Prim} {a b : Expr} {f g : Den} (ho : OpR X (compareOp op) r) (pr : PrimR X.K (R2l r) p) (ha : XE X a f) (hb : XE X b g) (hm : behindInMarks op b = false) : XE X (.Compare a [op] [b] pos) (dApp2 p f g) :=
  PEw (pe_cmpR ho ha hb hm) fun σ H Q q => app2_ok pr q
/-- a value that is a bool, as a test -/
def dTest (f : Den) : BDen := fun env h => match f env h with
  | some (.bl b, h1) => some (b, h1)
  | _ => none
theorem test_ok {f : Den} {K : PySem.W.Frag} {σ H Q} (q : Dn.tB K (dTest f) σ H Q) : tE K f σ H fun x H1 => ∃ k, x = .bl k ∧ Q k H1 := by
  obtain ⟨N, env, m, h, b, h', g, e, q⟩ := q
  unfold dTest at e
  split at e
  · rename_i b' h1 e1
    cases e
    refine ⟨N, env, m, h, _, _, g, e1, fun H1 m1 v p1 r1 => ⟨b, r1, q H1 m1 p1⟩⟩
  · cases e
theorem xb_cmp {op : CmpOp} {r : R2} {p : Prim} {a b : Expr} {f g : Den} (ho : OpR X (compareOp op) r) (pr : PrimR X.K (R2l r) p) (ha : XE X a f) (hb : XE X b g) (hm : behindInMarks op b = false) : XB X (.Compare a [op] [b] pos) (dTest (dApp2 p f g)) :=
  PTw (pt_cmpR ho ha hb hm) fun σ H Q q => by
    obtain ⟨N, env, m, h, d, h', g, e, q⟩ := test_ok q
    exact app2_ok pr ⟨N, env, m, h, d, h', g, e, q⟩
theorem xb_val {e : Expr} {f : Den} (h : XE X e f) (he : ∀ whole, isTrue e X.env whole = (do let v ← whole; standAt e.pos; holding [v] (truthy v)) := by intro _; rfl) : XB X e (dTest f) :=
  PTw (pt_val h he) fun σ H Q q => test_ok q
theorem xe_un {op : UnaryOp} {r : V → Hp → VK → Prop} {p : Prim} {a : Expr} {f : Den} (ho : UnR X (unaryOp op) r) (pr : PrimR X.K (fun vs H Q => ∃ x, vs = [x] ∧ r x H Q) p) (ha : XE X a f) : XE X (.UnaryOp op a pos) (dApp p (dCons f dNil)) :=
  PEw (pe_un ho ha) fun σ H Q q => by
    obtain ⟨N, env, m, h, ds, h', gg, e, q'⟩ := app_ok pr q
    unfold dCons dNil at e
    split at e
    · rename_i d h1 e1
      cases e
      refine ⟨N, env, m, h, d, _, gg, e1, fun H1 m1 x p1 r1 => ?_⟩
      obtain ⟨x', e, z⟩ := q' H1 m1 [x] p1 ⟨x, [], rfl, r1, rfl⟩
      cases e
      exact z
    · cases e

/-! ### tests -/
def dNot (f : BDen) : BDen := fun env h => match f env h with
  | some (b, h1) => some (!b, h1)
  | none => none
def dAnd (f g : BDen) : BDen := fun env h => match f env h with
  | some (true, h1) => g env h1
  | some (false, h1) => some (false, h1)
  | none => none
def dOr (f g : BDen) : BDen := fun env h => match f env h with
  | some (true, h1) => some (true, h1)
  | some (false, h1) => g env h1
  | none => none
abbrev XW (X : Cx) (e : Expr) (f : BDen) : Prop := PW X e (Dn.tB X.K f)
theorem xb_not {a : Expr} {f : BDen} (ha : XB X a f) : XB X (.UnaryOp .Not a pos) (dNot f) := PTw (pt_not ha) fun σ H Q ⟨N, env, m, h, b, h', g, e, q⟩ => by
  unfold dNot at e
  split at e
  · rename_i b' h1 e1
    cases e
    exact ⟨N, env, m, h, b', _, g, e1, fun H1 m1 p1 => q H1 m1 p1⟩
  · cases e
theorem xw_and1 {a : Expr} {f : BDen} (ha : XB X a f) : XW X (.BoolOp .And [a] pos) f := pw_and1 ha
theorem xw_or1 {a : Expr} {f : BDen} (ha : XB X a f) : XW X (.BoolOp .Or [a] pos) f := pw_or1 ha
theorem xw_and {a b : Expr} {rest : List Expr} {f g : BDen} (ha : XB X a f) (hb : XW X (.BoolOp .And (b :: rest) pos) g) : XW X (.BoolOp .And (a :: b :: rest) pos) (dAnd f g) :=
  PWw (pw_and ha hb) fun σ H Q ⟨N, env, m, h, b, h', gg, e, q⟩ => by
    unfold dAnd at e
    split at e
    · rename_i h1 e1
      exact ⟨N, env, m, h, true, h1, gg, e1, fun H1 m1 p1 => iteT ⟨N, env, m1, h1, b, h', gg.mono p1, e, fun H2 m2 p2 => q H2 m2 (p1.trans p2)⟩⟩
    · rename_i h1 e1
      cases e
      exact ⟨N, env, m, h, false, _, gg, e1, fun H1 m1 p1 => iteF (q H1 m1 p1)⟩
    · cases e
theorem xw_or {a b : Expr} {rest : List Expr} {f g : BDen} (ha : XB X a f) (hb : XW X (.BoolOp .Or (b :: rest) pos) g) : XW X (.BoolOp .Or (a :: b :: rest) pos) (dOr f g) :=
  PWw (pw_or ha hb) fun σ H Q ⟨N, env, m, h, b, h', gg, e, q⟩ => by
    unfold dOr at e
    split at e
    · rename_i h1 e1
      cases e
      exact ⟨N, env, m, h, true, _, gg, e1, fun H1 m1 p1 => iteT (q H1 m1 p1)⟩
    · rename_i h1 e1
      exact ⟨N, env, m, h, false, h1, gg, e1, fun H1 m1 p1 => iteF ⟨N, env, m1, h1, b, h', gg.mono p1, e, fun H2 m2 p2 => q H2 m2 (p1.trans p2)⟩⟩
    · cases e
theorem xb_w {e : Expr} {f : BDen} (h : XW X e f) : XB X e f := h.pt
/-- .. as values, each a bool -/
def dBv (f : BDen) : Den := fun env h => match f env h with
  | some (b, h1) => some (.bl b, h1)
  | none => none
/-- a and b as a value: a a bool, b anything -/
def dAndV (f : Den) (g : Den) : Den := fun env h => match f env h with
  | some (.bl true, h1) => g env h1
  | some (.bl false, h1) => some (.bl false, h1)
  | _ => none
def dOrV (f : Den) (g : Den) : Den := fun env h => match f env h with
  | some (.bl true, h1) => some (.bl true, h1)
  | some (.bl false, h1) => g env h1
  | _ => none
theorem xe_one {op} {a : Expr} {f : Den} (h : XE X a f) : XE X (.BoolOp op [a] pos) f := pe_one h
theorem xe_and {a b : Expr} {rest : List Expr} {f g : Den} (ha : XE X a f) (hb : XE X (.BoolOp .And (b :: rest) pos) g) : XE X (.BoolOp .And (a :: b :: rest) pos) (dAndV f g) :=
  PEw (pe_and ha hb) fun σ H Q ⟨N, env, m, h, d, h', gg, e, q⟩ => by
    unfold dAndV at e
    split at e
    · rename_i h1 e1
      exact ⟨N, env, m, h, _, h1, gg, e1, fun H1 m1 v p1 r1 => ⟨true, r1, iteT ⟨N, env, m1, h1, d, h', gg.mono p1, e, fun H2 m2 v p2 r2 => q H2 m2 v (p1.trans p2) r2⟩⟩⟩
    · rename_i h1 e1
      cases e
      exact ⟨N, env, m, h, _, _, gg, e1, fun H1 m1 v p1 r1 => ⟨false, r1, iteF (q H1 m1 _ p1 rfl)⟩⟩
    · cases e
theorem xe_or {a b : Expr} {rest : List Expr} {f g : Den} (ha : XE X a f) (hb : XE X (.BoolOp .Or (b :: rest) pos) g) : XE X (.BoolOp .Or (a :: b :: rest) pos) (dOrV f g) :=
  PEw (pe_or ha hb) fun σ H Q ⟨N, env, m, h, d, h', gg, e, q⟩ => by
    unfold dOrV at e
    split at e
    · rename_i h1 e1
      cases e
      exact ⟨N, env, m, h, _, _, gg, e1, fun H1 m1 v p1 r1 => ⟨true, r1, iteT (q H1 m1 _ p1 rfl)⟩⟩
    · rename_i h1 e1
      exact ⟨N, env, m, h, _, h1, gg, e1, fun H1 m1 v p1 r1 => ⟨false, r1, iteF ⟨N, env, m1, h1, d, h', gg.mono p1, e, fun H2 m2 v p2 r2 => q H2 m2 v (p1.trans p2) r2⟩⟩⟩
    · cases e
def dNotV (f : Den) : Den := fun env h => match f env h with
  | some (.bl b, h1) => some (.bl (!b), h1)
  | _ => none
theorem xe_not {a : Expr} {f : Den} (ha : XE X a f) : XE X (.UnaryOp .Not a pos) (dNotV f) := PEw (pe_not ha) fun σ H Q ⟨N, env, m, h, d, h', g, e, q⟩ => by
  unfold dNotV at e
  split at e
  · rename_i b' h1 e1
    cases e
    exact ⟨N, env, m, h, _, _, g, e1, fun H1 m1 v p1 r1 => ⟨b', r1, q H1 m1 _ p1 rfl⟩⟩
  · cases e
def dIf (c : BDen) (f g : Den) : Den := fun env h => match c env h with
  | some (true, h1) => f env h1
  | some (false, h1) => g env h1
  | none => none
theorem xe_if {c a b : Expr} {fc : BDen} {f g : Den} (hc : XB X c fc) (ha : XE X a f) (hb : XE X b g) : XE X (.IfExp c a b pos) (dIf fc f g) := PEw (pe_ifExp hc ha hb) fun σ H Q ⟨N, env, m, h, d, h', gg, e, q⟩ => by
  unfold dIf at e
  split at e
  · rename_i h1 e1
    exact ⟨N, env, m, h, _, h1, gg, e1, fun H1 m1 p1 => iteT ⟨N, env, m1, h1, d, h', gg.mono p1, e, fun H2 m2 v p2 r2 => q H2 m2 v (p1.trans p2) r2⟩⟩
  · rename_i h1 e1
    exact ⟨N, env, m, h, _, h1, gg, e1, fun H1 m1 p1 => iteF ⟨N, env, m1, h1, d, h', gg.mono p1, e, fun H2 m2 v p2 r2 => q H2 m2 v (p1.trans p2) r2⟩⟩
  · cases e
end
end Dn

set_option Elab.async false
set_option linter.all false
set_option maxRecDepth 100000
set_option maxHeartbeats 1000000
/-! Dn: tuples, lists made, statements, loops, defs and calls. -/
namespace Dn
open PySem PySem.Spec PyProof.Rows L2

/-! ### new objects -/
section
variable {K : PySem.W.Frag} {N N' : Addr → Prop} {H H' : Hp} {m m' : List Addr} {h : HH}
theorem RV.move2 (pre : ∃ e, m' = m ++ e) (fr : ∀ b vs, H b = some (.lst vs) → b ∉ m → ¬ N b → H' b = some (.lst vs) ∧ b ∉ m' ∧ ¬ N' b) (ft : ∀ b xs, H b = some (.tup xs) → H' b = some (.tup xs)) (fs : ∀ b ob xs, H b = some (.frz ob (.lst xs)) → H' b = some (.frz ob (.lst xs))) :
    ∀ (d : D) v, RV K N H m d v → RV K N' H' m' d v := by
  have ss : ∀ a vs, SqS K H a vs → SqS K H' a vs := fun a vs q => by
    rcases q with ⟨ob, q⟩ | q
    · exact .inl ⟨ob, fs _ _ _ q⟩
    · exact .inr q
  have rf : ∀ n v, RV K N H m (.ref n) v → RV K N' H' m' (.ref n) v := fun n v ⟨a, e, q⟩ => by
    obtain ⟨x, hx⟩ := pre
    refine ⟨a, ?_, q⟩
    rw [hx, List.getElem?_append_left (List.getElem?_eq_some_iff.mp e).1]
    exact e
  intro d
  exact D.rec (motive_1 := fun d => ∀ v, RV K N H m d v → RV K N' H' m' d v) (motive_2 := fun l => ∀ vs, RVs K N H m l vs → RVs K N' H' m' l vs)
      (fun v q => q) (fun b v q => q) (fun i v q => q) (fun x v q => q)
      (fun l ih v ⟨a, vs, e, q, z⟩ => ⟨a, vs, e, ft a vs q, ih vs z⟩)
      (fun l ih v ⟨a, vs, e, q, z⟩ => ⟨a, vs, e, fr a vs q.1 q.2.1 q.2.2, ih vs z⟩)
      (fun l ih v ⟨a, vs, e, q, z⟩ => ⟨a, vs, e, ss a vs q, ih vs z⟩)
      (fun n v q => rf n v q) (fun vs q => q) (fun d l ih1 ih2 vs ⟨v, ws, e, q, z⟩ => ⟨v, ws, e, ih1 v q, ih2 ws z⟩) d
theorem RV.move (r : RH K N H m h) (pre : ∃ e, m' = m ++ e) (frame : ∀ a o, H a = some o → a ∉ m → H' a = some o) (hfl : ∀ b o, H b = some o → b ∉ m → ¬ N b → b ∉ m' ∧ ¬ N' b) :
    ∀ (d : D) v, RV K N H m d v → RV K N' H' m' d v :=
  RV.move2 pre (fun b vs e n z => ⟨frame b _ e n, hfl b _ e n z⟩) (fun b xs q => frame _ _ q (r.notup (.inl q))) fun b ob xs q => frame _ _ q (r.nofrz q)
theorem RVs.map (hr : ∀ (d : D) v, RV K N H m d v → RV K N' H' m' d v) : ∀ (l : List D) vs, RVs K N H m l vs → RVs K N' H' m' l vs
  | [], _, q => q
  | d :: l, _, ⟨v, ws, e, q, z⟩ => ⟨v, ws, e, hr d v q, RVs.map hr l ws z⟩
theorem ro_map (hr : ∀ (d : D) v, RV K N H m d v → RV K N' H' m' d v) {a : Addr} (e : ∀ o, H a = some o → H' a = some o) : ∀ (o : O), RO K N H m a o → RO K N' H' m' a o
  | .lst l, ⟨vs, e1, z⟩ => ⟨vs, e _ e1, RVs.map hr l vs z⟩
  | .dK l, ⟨ws, e1, z⟩ => ⟨ws, e _ e1, Paired.mapP z fun x y w => ⟨w.1, hr _ _ w.2⟩⟩
  | .dT l, ⟨ws, e1, z⟩ => ⟨ws, e _ e1, Paired.mapP z fun x y w => ⟨w.1, hr _ _ w.2⟩⟩
  | .lkK l, ⟨ob, ws, e1, z⟩ => ⟨ob, ws, e _ e1, Paired.mapP z fun x y w => ⟨w.1, hr _ _ w.2⟩⟩
  | .lkT l, ⟨ob, ws, e1, z⟩ => ⟨ob, ws, e _ e1, Paired.mapP z fun x y w => ⟨w.1, hr _ _ w.2⟩⟩
theorem RE.map (hr : ∀ (d : D) v, RV K N H m d v → RV K N' H' m' d v) {σ : L2.St} {env : DE} (q : RE K N H m σ env) : RE K N' H' m' σ env :=
  ⟨q.len, fun i d e => let ⟨v, e1, z⟩ := q.at_ i d e; ⟨v, e1, hr d v z⟩⟩
/-- all that is tracked stays: the same owned ones -/
theorem RH.same (r : RH K N H m h) (keep : ∀ a o, H a = some o → H' a = some o) (hN : ∀ b o, H b = some o → b ∉ m → ¬ N b → ¬ N' b) (hid : ∀ a, N' a → ∃ o, H' a = some o) : RH K N' H' m h :=
  ⟨r.len, r.nd, hid, fun n o a e1 e2 => ro_map (RV.move r ⟨[], by simp⟩ (fun a o e _ => keep a o e) fun b o e n1 n2 => ⟨n1, hN b o e n1 n2⟩) (keep a) o (r.at_ n o a e1 e2)⟩
/-- an unowned object is laid -/
theorem Post.laid (r : RH K N H m h) {p : Addr} {o : HO} (hp : H p = none) : Post K N H m (upd H p o) m h := by
  have keep : ∀ a u, H a = some u → upd H p o a = some u := fun a u e => by rw [upd_ne (ne_of_none e hp)]; exact e
  exact ⟨⟨[], by simp⟩, fun a u e _ => keep a u e, fun a z n => absurd z n, fun a u e => ⟨u, keep a u e⟩, r.same keep (fun _ _ _ _ z => z) fun a z => let ⟨u, e⟩ := r.hid a z; ⟨u, keep a u e⟩, fun a o' u e => keep a _ e⟩
/-- the hidden one is no more hidden -/
theorem Post.show (p : Post K (Nw N a) H m H' m' h') : Post K N H m H' m' h' :=
  ⟨p.pre, p.frame, p.fresh, p.dom, p.rh.same (fun _ _ e => e) (fun b o e n z y => z (.inl y)) (fun a z => p.rh.hid a (.inl z)), p.frz⟩
theorem RVs.show {a : Addr} (rh : RH K (Nw N a) H m h) {l : List D} {vs : List V} (q : RVs K (Nw N a) H m l vs) : RVs K N H m l vs :=
  RVs.map (RV.move rh ⟨[], by simp⟩ (fun _ _ e _ => e) fun b o e n z => ⟨n, fun y => z (.inl y)⟩) l vs q
/-- a new list that is nobody's becomes owned -/
theorem Post.own {h' : HH} {a : Addr} {l : List D} {vs : List V} (hn : H a = none) (hm : a ∉ m') (ha : H' a = some (.lst vs)) (p : Post K (Nw N a) H m H' m' h') (q : RVs K (Nw N a) H' m' l vs) :
    Post K N H m H' (m' ++ [a]) (h' ++ [.lst l]) := by
  obtain ⟨e, he⟩ := p.pre
  have mv := RV.move (N' := N) (H' := H') (m' := m' ++ [a]) p.rh ⟨[a], rfl⟩ (fun _ _ e _ => e) fun b o e n z => ⟨fun y => by
    rcases List.mem_append.mp y with y | y
    · exact n y
    · exact z (.inr (List.mem_singleton.mp y)), fun y => z (.inl y)⟩
  refine ⟨⟨e ++ [a], by rw [he, List.append_assoc]⟩, p.frame, fun b z nb => ?_, p.dom, ⟨?_, ?_, fun b z => p.rh.hid b (.inl z), fun n o b e1 e2 => ?_⟩, p.frz⟩
  · rcases List.mem_append.mp z with z | z
    · exact p.fresh b z nb
    · rw [List.mem_singleton.mp z]; exact hn
  · simp [p.rh.len]
  · rw [List.nodup_append]
    refine ⟨p.rh.nd, by simp, fun x hx y hy e => ?_⟩
    rw [List.mem_singleton.mp hy] at e
    exact hm (e ▸ hx)
  · by_cases hl : n < h'.length
    · rw [List.getElem?_append_left hl] at e1
      rw [List.getElem?_append_left (by rw [p.rh.len]; exact hl)] at e2
      exact ro_map mv (fun _ e => e) o (p.rh.at_ n o b e1 e2)
    · have hn' : n = h'.length := by
        have := (List.getElem?_eq_some_iff.mp e1).1
        simp at this; omega
      subst hn'
      rw [List.getElem?_append_right (Nat.le_refl _)] at e1
      rw [List.getElem?_append_right (by rw [p.rh.len]; exact Nat.le_refl _), p.rh.len] at e2
      simp at e1 e2
      subst e1 e2
      exact ⟨vs, ha, RVs.map mv l vs q⟩
end

def dOwn (f : LDen) : Den := fun env h => match f env h with
  | some (ds, h1) => some (.ref h1.length, h1 ++ [.lst ds])
  | none => none
def dFl (f : LDen) : Den := fun env h => match f env h with
  | some (ds, h1) => some (.fl ds, h1)
  | none => none
section
variable {X : Cx} {pos : Pos}
theorem own_ok {K : PySem.W.Frag} {f : LDen} {σ : L2.St} {H : Hp} {Q : VK} (q : tE K (dOwn f) σ H Q) : tL K f σ H Q := by
  obtain ⟨N, env, m, h, d, h', g, e, q⟩ := q
  unfold dOwn at e
  split at e
  · rename_i ds h1 e1
    cases e
    refine ⟨N, env, m, h, ds, h1, g, e1, fun H1 m1 a vs hn hm ha p1 r1 => ?_⟩
    refine q H1 (m1 ++ [a]) (.ref a) (Post.own hn hm ha p1 r1) ⟨a, ?_, rfl⟩
    rw [← p1.rh.len]
    simp
  · cases e
theorem xl_own {e : Expr} {f : LDen} (hf : XL X e f) : XE X e (dOwn f) := PEw hf fun σ H Q q => own_ok q
theorem fl_ok {K : PySem.W.Frag} {f : LDen} {σ : L2.St} {H : Hp} {Q : VK} (q : tE K (dFl f) σ H Q) : tL K f σ H Q := by
  obtain ⟨N, env, m, h, d, h', g, e, q⟩ := q
  unfold dFl at e
  split at e
  · rename_i ds h1 e1
    cases e
    refine ⟨N, env, m, h, ds, _, g, e1, fun H1 m1 a vs hn hm ha p1 r1 => ?_⟩
    refine q H1 m1 (.ref a) p1.show ⟨a, vs, rfl, ⟨ha, hm, fun z => ?_⟩, RVs.show p1.rh r1⟩
    obtain ⟨o, e⟩ := g.rh.hid a z
    rw [hn] at e; cases e
  · cases e
theorem xl_fl {e : Expr} {f : LDen} (hf : XL X e f) : XE X e (dFl f) := PEw hf fun σ H Q q => fl_ok q
/-- a tuple, a list written -/
def dTup (f : LDen) : Den := fun env h => match f env h with
  | some (ds, h1) => if ds.length ≤ 1000000 then some (.tup ds, h1) else none
  | none => none
def dLst (f : LDen) : LDen := fun env h => match f env h with
  | some (ds, h1) => if ds.length ≤ 1000000 then some (ds, h1) else none
  | none => none
theorem line_of {n : Nat} (h : n ≤ 1000000) : n < sizeLine := Nat.lt_of_le_of_lt h (by decide)
theorem xe_tup {es : List Expr} {f : LDen} {x1} (ha : XA X es f) : XE X (.Tuple es x1 pos) (dTup f) := PEw (pe_tup ha) fun σ H Q ⟨N, env, m, h, d, h', g, e, q⟩ => by
  unfold dTup at e
  split at e
  · rename_i ds h1 e1
    split at e
    · rename_i hl
      cases e
      refine ⟨N, env, m, h, ds, _, g, e1, fun H1 m1 vs p1 r1 => ⟨by rw [← r1.length]; exact Nat.le_of_lt (line_of hl), fun p hp => ?_⟩⟩
      have pl := Post.laid (o := .tup vs) p1.rh hp
      exact q _ m1 _ (p1.trans pl) ⟨p, vs, rfl, upd_same, RVs.mono p1.rh pl _ _ r1⟩
    · cases e
  · cases e
theorem Post.hide {K : PySem.W.Frag} {N : Addr → Prop} {H H' : Hp} {m m' : List Addr} {h' : HH} {a : Addr} {o : HO} (p : Post K N H m H' m' h') (hn : H' a = none) : Post K (Nw N a) H m (upd H' a o) m' h' := by
  have keep : ∀ b u, H' b = some u → upd H' a o b = some u := fun b u e => by rw [upd_ne (ne_of_none e hn)]; exact e
  refine ⟨p.pre, fun b u e n => keep b u (p.frame b u e n), p.fresh, fun b u e => ?_, p.rh.same keep (fun b u e n z y => ?_) (fun b z => ?_), fun b o' u e => keep b _ (p.frz b o' u e)⟩
  · obtain ⟨u', e'⟩ := p.dom b u e
    exact ⟨u', keep b u' e'⟩
  · rcases y with y | y
    · exact z y
    · subst y; rw [hn] at e; cases e
  · rcases z with z | z
    · obtain ⟨u, e⟩ := p.rh.hid b z
      exact ⟨u, keep b u e⟩
    · subst z; exact ⟨o, upd_same⟩
theorem RVs.hide {K : PySem.W.Frag} {N : Addr → Prop} {H' : Hp} {m' : List Addr} {h' : HH} {a : Addr} {o : HO} {l : List D} {vs : List V} (rh : RH K N H' m' h') (hn : H' a = none) (q : RVs K N H' m' l vs) : RVs K (Nw N a) (upd H' a o) m' l vs :=
  RVs.map (RV.move rh ⟨[], by simp⟩ (fun b u e _ => by rw [upd_ne (ne_of_none e hn)]; exact e) fun b u e n z => ⟨n, fun y => by
    rcases y with y | y
    · exact z y
    · subst y; rw [hn] at e; cases e⟩) l vs q
/-- nothing that was tracked is gone: a fresh place was fresh ahead -/
theorem Post.was {K : PySem.W.Frag} {N : Addr → Prop} {H H' : Hp} {m m' : List Addr} {h' : HH} {a : Addr} (p : Post K N H m H' m' h') (hn : H' a = none) : H a = none := by
  cases e : H a with
  | none => rfl
  | some o => obtain ⟨o', e'⟩ := p.dom a o e; rw [hn] at e'; cases e'
theorem xl_lst {es : List Expr} {f : LDen} (ha : XA X es f) : XL X (.List es pos) (dLst f) := PEw (pe_lst ha) fun σ H Q ⟨N, env, m, h, d, h', g, e, q⟩ => by
  unfold dLst at e
  split at e
  · rename_i ds h1 e1
    split at e
    · rename_i hl
      cases e
      refine ⟨N, env, m, h, _, _, g, e1, fun H1 m1 vs p1 r1 => ⟨by rw [← r1.length]; exact Nat.le_of_lt (line_of hl), fun p hp => ?_⟩⟩
      exact q _ m1 p vs (p1.was hp) (p1.rh.notin hp) upd_same (p1.hide hp) (RVs.hide p1.rh hp r1)
    · cases e
  · cases e
/-- by values: a new list, a new tuple out of an operation -/
abbrev LPrim := List D → HH → Option (List D)
def LPrimR (K : PySem.W.Frag) (r : List V → Hp → VK → Prop) (p : LPrim) : Prop := ∀ N ds vs H m h l Q, RH K N H m h → RVs K N H m ds vs → p ds h = some l → (∀ a ws, H a = none → RVs K N H m l ws → Q (.ref a) (upd H a (.lst ws))) → r vs H Q
def dLApp (p : LPrim) (a : LDen) : LDen := fun env h => match a env h with
  | some (ds, h1) => (match p ds h1 with
    | some l => some (l, h1)
    | none => none)
  | none => none
theorem lapp_ok {r : List V → Hp → VK → Prop} {p : LPrim} {f : LDen} {K : PySem.W.Frag} (pr : LPrimR K r p) {σ H Q} (q : tL K (dLApp p f) σ H Q) : tA K f σ H fun vs H1 => r vs H1 Q := by
  obtain ⟨N, env, m, h, l, h', g, e, q⟩ := q
  unfold dLApp at e
  split at e
  · rename_i ds h1 e1
    split at e
    · rename_i l' e2
      cases e
      refine ⟨N, env, m, h, ds, _, g, e1, fun H1 m1 vs p1 r1 => ?_⟩
      refine pr N ds vs H1 m1 _ l Q p1.rh r1 e2 fun a ws hn rw_ => ?_
      exact q _ m1 a ws (p1.was hn) (p1.rh.notin hn) upd_same (p1.hide hn) (RVs.hide p1.rh hn rw_)
    · cases e
  · cases e

/-! ### targets -/
abbrev GDen := D → DE → HH → Option (DE × HH)
def tG (K : PySem.W.Frag) (f : GDen) : TG := fun v σ H Q => ∃ N env m h d env' h', G K N H m σ env h ∧ RV K N H m d v ∧ f d env h = some (env', h') ∧ ∀ σ' H' m', Post K N H m H' m' h' → RE K N H' m' σ' env' → Q σ' H'
abbrev XG (X : Cx) (e : Expr) (f : GDen) : Prop := PG X e (tG X.K f)
def gSet (i : Nat) : GDen := fun d env h => some (env.set i (some d), h)
theorem RE.set {K : PySem.W.Frag} {N : Addr → Prop} {H : Hp} {m : List Addr} {σ : L2.St} {env : DE} {i : Nat} {d : D} {v : V} (q : RE K N H m σ env) (r : RV K N H m d v) : RE K N H m (σ.set i (some v)) (env.set i (some d)) := by
  refine ⟨by simp [q.len], fun j x e => ?_⟩
  by_cases hj : i = j
  · subst hj
    have hl : i < env.length := by have := (List.getElem?_eq_some_iff.mp e).1; simpa using this
    rw [List.getElem?_set_self hl] at e
    cases e
    exact ⟨v, by rw [List.getElem?_set_self (by rw [← q.len]; exact hl)], r⟩
  · rw [List.getElem?_set_ne hj] at e
    rw [List.getElem?_set_ne hj]
    exact q.at_ j x e
theorem xg_name {i : Nat} {x : Str} (hN : X.N.Nodup) (hi : X.N[i]? = some x) (hx : Loc X.env.scope x) (hf : X.fn x = true ∨ X.env.scope.names.lookup x = some .local := by first | exact .inl rfl | exact .inr rfl | assumption) : XG X (.Name x pos) (gSet i) :=
  PGw (pg_name hN hi hx hf) fun v σ H Q ⟨N, env, m, h, d, env', h', g, r, e, q⟩ => by
    cases e
    exact q _ H m (Post.refl g.rh) (RE.set g.re r)
abbrev GsDen := List D → DE → HH → Option (DE × HH)
def tGs (K : PySem.W.Frag) (f : GsDen) : TGs := fun vs σ H Q => ∃ N env m h ds env' h', G K N H m σ env h ∧ RVs K N H m ds vs ∧ f ds env h = some (env', h') ∧ ∀ σ' H' m', Post K N H m H' m' h' → RE K N H' m' σ' env' → Q σ' H'
abbrev XGs (X : Cx) (es : List Expr) (f : GsDen) : Prop := PGs X es (tGs X.K f)
def gsNil : GsDen := fun ds env h => match ds with
  | [] => some (env, h)
  | _ => none
def gsCons (f : GDen) (r : GsDen) : GsDen := fun ds env h => match ds with
  | d :: l => (match f d env h with
    | some (env1, h1) => r l env1 h1
    | none => none)
  | [] => none
theorem xgs_nil : XGs X [] gsNil := ⟨fun pins s σ H vs us Q I r ⟨N, env, m, h, ds, env', h', g, rv, e, q⟩ => by
  unfold gsNil at e
  split at e
  · cases e
    exact pgs_nil.run pins s σ H vs us Q I r ⟨rv, q _ H m (Post.refl g.rh) g.re⟩
  · cases e⟩
theorem xgs_cons {e : Expr} {es : List Expr} {f : GDen} {r : GsDen} (h1 : XG X e f) (h2 : XGs X es r) (hs : (assignEach (e :: es) X.env).map (·.2) = assign e X.env :: (assignEach es X.env).map (·.2) := by rfl) : XGs X (e :: es) (gsCons f r) :=
  ⟨fun pins s σ H vs us Q I rr ⟨N, env, m, h, ds, env', h', g, rv, e, q⟩ => by
    refine (pgs_cons h1 h2 hs).run pins s σ H vs us Q I rr ?_
    unfold gsCons at e
    split at e
    · rename_i d l
      obtain ⟨v, ws, ev, r1, r2⟩ := rv
      split at e
      · rename_i env1 h1' e1
        refine ⟨v, ws, ev, N, env, m, h, d, env1, h1', g, r1, e1, fun σ1 H1 m1 p1 re1 => ?_⟩
        exact ⟨N, env1, m1, h1', l, env', h', ⟨re1, p1.rh⟩, RVs.mono g.rh p1 _ _ r2, e, fun σ2 H2 m2 p2 re2 => q σ2 H2 m2 (p1.trans p2) re2⟩
      · cases e
    · cases e⟩
def gTupD (n : Nat) (f : GsDen) : GDen := fun d env h => match d with
  | .tup l => if l.length = n then f l env h else none
  | _ => none
theorem xg_tup {es : List Expr} {k : Nat} {f : GsDen} {n : Nat} (hc : X.calm = true) (hg : XGs X es f)
    (hn : (assignEach es X.env).length = n := by rfl) (hst : (assignEach es X.env).findIdx? (·.1) = none := by rfl) : XG X (.Tuple es k pos) (gTupD n f) :=
  PGw (pg_tup hc hg hn hst) fun v σ H Q ⟨N, env, m, h, d, env', h', g, r, e, q⟩ => by
    unfold gTupD at e
    split at e
    · rename_i l
      split at e
      · rename_i hl
        obtain ⟨a, vs, e1, sq, rv⟩ := r
        exact ⟨a, vs, e1, SqT.of sq, by rw [← rv.length]; exact hl, N, env, m, h, l, env', h', g, rv, e, q⟩
      · cases e
    · cases e

/-! ### statements -/
inductive Fl where
  | nx | ret (d : D) | brk | ct
abbrev SDen := DE → HH → Option (Fl × DE × HH)
def Out (K : PySem.W.Frag) (N : Addr → Prop) (D : Ends) (σ : L2.St) (H : Hp) (m : List Addr) : Fl → Prop
  | .nx => D.nx σ H
  | .ret d => ∀ v, RV K N H m d v → D.rt v H
  | .brk => D.bk σ H
  | .ct => D.ct σ H
def tS (K : PySem.W.Frag) (f : SDen) : TS := fun D σ H => ∃ N env m h fl env' h', G K N H m σ env h ∧ f env h = some (fl, env', h') ∧ ∀ σ' H' m', Post K N H m H' m' h' → RE K N H' m' σ' env' → Out K N D σ' H' m' fl
abbrev XS (X : Cx) (st : Stmt) (f : SDen) : Prop := PS X st (tS X.K f)
abbrev XSs (X : Cx) (st : List Stmt) (f : SDen) : Prop := PSs X st (tS X.K f)
def sNil : SDen := fun env h => some (.nx, env, h)
def sSeq (f g : SDen) : SDen := fun env h => match f env h with
  | some (.nx, env1, h1) => g env1 h1
  | r => r
theorem xss_nil : XSs X [] sNil := PSsw pss_nil fun D σ H ⟨N, env, m, h, fl, env', h', g, e, q⟩ => by
  cases e
  exact q σ H m (Post.refl g.rh) g.re
theorem xss_cons {st : Stmt} {rest : List Stmt} {f g : SDen} (h1 : XS X st f) (h2 : XSs X rest g) : XSs X (st :: rest) (sSeq f g) :=
  PSsw (pss_cons h1 h2) fun D σ H ⟨N, env, m, h, fl, env', h', gg, e, q⟩ => by
    unfold sSeq at e
    split at e
    · rename_i env1 h1' e1
      exact ⟨N, env, m, h, .nx, env1, h1', gg, e1, fun σ1 H1 m1 p1 re1 => ⟨N, env1, m1, h1', fl, env', h', ⟨re1, p1.rh⟩, e, fun σ2 H2 m2 p2 re2 => q σ2 H2 m2 (p1.trans p2) re2⟩⟩
    · rename_i hne
      refine ⟨N, env, m, h, fl, env', h', gg, e, fun σ1 H1 m1 p1 re1 => ?_⟩
      have o := q σ1 H1 m1 p1 re1
      cases fl with
      | nx => exact absurd e (hne _ _)
      | ret d => exact o
      | brk => exact o
      | ct => exact o
theorem xss_one {st : Stmt} {f : SDen} (h1 : XS X st f) : XSs X [st] f := pss_one h1
def sBrk : SDen := fun env h => some (.brk, env, h)
def sCt : SDen := fun env h => some (.ct, env, h)
theorem xs_pass : XS X (.Pass pos) sNil := PSw ps_pass fun D σ H ⟨N, env, m, h, fl, env', h', g, e, q⟩ => by
  cases e
  exact q σ H m (Post.refl g.rh) g.re
theorem xs_break : XS X (.Break pos) sBrk := PSw ps_break fun D σ H ⟨N, env, m, h, fl, env', h', g, e, q⟩ => by
  cases e
  exact q σ H m (Post.refl g.rh) g.re
theorem xs_continue : XS X (.Continue pos) sCt := PSw ps_continue fun D σ H ⟨N, env, m, h, fl, env', h', g, e, q⟩ => by
  cases e
  exact q σ H m (Post.refl g.rh) g.re
def sExpr (f : Den) : SDen := fun env h => match f env h with
  | some (_, h1) => some (.nx, env, h1)
  | none => none
theorem xs_expr {e : Expr} {f : Den} (he : XE X e f) (hs : swapsWith e none pos.line X.env = pure false := by rfl) : XS X (.Expr e pos) (sExpr f) := PSw (ps_expr he hs) fun D σ H ⟨N, env, m, h, fl, env', h', g, e, q⟩ => by
  unfold sExpr at e
  split at e
  · rename_i d h1 e1
    cases e
    exact ⟨N, env, m, h, d, _, g, e1, fun H1 m1 v p1 r1 => q σ H1 m1 p1 (g.mono p1).re⟩
  · cases e
def sRet (f : Den) : SDen := fun env h => match f env h with
  | some (d, h1) => some (.ret d, env, h1)
  | none => none
theorem xs_ret {e : Expr} {f : Den} (he : XE X e f) : XS X (.Return (some e) pos) (sRet f) := PSw (ps_ret he) fun D σ H ⟨N, env, m, h, fl, env', h', g, e, q⟩ => by
  unfold sRet at e
  split at e
  · rename_i d h1 e1
    cases e
    exact ⟨N, env, m, h, d, _, g, e1, fun H1 m1 v p1 r1 => q σ H1 m1 p1 (g.mono p1).re v r1⟩
  · cases e
def sRetN : SDen := fun env h => some (.ret .non, env, h)
theorem xs_retN : XS X (.Return none pos) sRetN := PSw ps_retN fun D σ H ⟨N, env, m, h, fl, env', h', g, e, q⟩ => by
  cases e
  exact q σ H m (Post.refl g.rh) g.re .non rfl
def sIf (c : BDen) (f g : SDen) : SDen := fun env h => match c env h with
  | some (true, h1) => f env h1
  | some (false, h1) => g env h1
  | none => none
theorem xs_if {c : Expr} {a b : List Stmt} {fc : BDen} {f g : SDen} (hc : XB X c fc) (ha : XSs X a f) (hb : XSs X b g) : XS X (.If c a b pos) (sIf fc f g) := PSw (ps_if hc ha hb) fun D σ H ⟨N, env, m, h, fl, env', h', gg, e, q⟩ => by
  unfold sIf at e
  split at e
  · rename_i h1 e1
    exact ⟨N, env, m, h, true, h1, gg, e1, fun H1 m1 p1 => iteT ⟨N, env, m1, h1, fl, env', h', gg.mono p1, e, fun σ2 H2 m2 p2 re2 => q σ2 H2 m2 (p1.trans p2) re2⟩⟩
  · rename_i h1 e1
    exact ⟨N, env, m, h, false, h1, gg, e1, fun H1 m1 p1 => iteF ⟨N, env, m1, h1, fl, env', h', gg.mono p1, e, fun σ2 H2 m2 p2 re2 => q σ2 H2 m2 (p1.trans p2) re2⟩⟩
  · cases e
/-- target = value -/
def sAsg (f : Den) (g : GDen) : SDen := fun env h => match f env h with
  | some (d, h1) => (match g d env h1 with
    | some (env2, h2) => some (.nx, env2, h2)
    | none => none)
  | none => none
theorem asg_ok {K : PySem.W.Frag} {f : Den} {gd : GDen} {D : Ends} {σ : L2.St} {H : Hp} (q : tS K (sAsg f gd) D σ H) : tAsg (tE K f) (tG K gd) D σ H := by
  obtain ⟨N, env, m, h, fl, env', h', g, e, q⟩ := q
  unfold sAsg at e
  split at e
  · rename_i d h1 e1
    split at e
    · rename_i env2 h2 e2
      cases e
      exact ⟨N, env, m, h, d, h1, g, e1, fun H1 m1 v p1 r1 => ⟨N, env, m1, h1, d, _, _, g.mono p1, r1, e2, fun σ2 H2 m2 p2 re2 => q σ2 H2 m2 (p1.trans p2) re2⟩⟩
    · cases e
  · cases e
theorem xs_asg {tg e : Expr} {f : Den} {g : GDen} (he : XE X e f) (hg : XG X tg g) (hs : swapsWithSole [tg] e pos.line X.env = pure false := by rfl) (hw : swappedStores [tg] e X.env = pure none := by rfl)
    (h1 : (assignEach [tg] X.env).map (·.2) = [assign tg X.env] := by rfl) : XS X (.Assign [tg] e pos) (sAsg f g) := PSw (ps_asg he hg hs hw h1) fun D σ H q => asg_ok q
theorem xs_set {i : Nat} {x : Str} {e : Expr} {f : Den} {pos' : Pos} (hN : X.N.Nodup) (hi : X.N[i]? = some x) (hx : Loc X.env.scope x) (he : XE X e f) (hs : swapsWith e (some (.Name x pos')) pos.line X.env = pure false := by rfl) (hf : X.fn x = true ∨ X.env.scope.names.lookup x = some .local := by first | exact .inl rfl | exact .inr rfl | assumption) :
    XS X (.Assign [.Name x pos'] e pos) (sAsg f (gSet i)) := PSw (ps_set hN hi hx he hs hf) fun D σ H q => by
  obtain ⟨N, env, m, h, d, h1, g, e1, q⟩ := asg_ok q
  refine ⟨N, env, m, h, d, h1, g, e1, fun H1 m1 v p1 r1 => ?_⟩
  obtain ⟨N2, env2, m2, h2, d2, env3, h3, g2, r2, e2, q2⟩ := q H1 m1 v p1 r1
  cases e2
  exact q2 _ H1 m2 (Post.refl g2.rh) (RE.set g2.re r2)
/-- a, b = x, y : two local names -/
def sPar (i j : Nat) (a b : Den) : SDen := fun env h => match a env h with
  | some (d, h1) => (match b env h1 with
    | some (d2, h2) => some (.nx, (env.set i (some d)).set j (some d2), h2)
    | none => none)
  | none => none
theorem xs_par {i j : Nat} {x y : Str} {a b : Expr} {f g : Den} {px py pt : Pos} {kt k2 pt2} (hc : X.calm = true) (hN : X.N.Nodup) (hi : X.N[i]? = some x) (hj : X.N[j]? = some y) (hij : i ≠ j)
    (hx : X.env.scope.names.lookup x = some .local) (hy : X.env.scope.names.lookup y = some .local) (ha : XE X a f) (hb : XE X b g)
    (hw : swappedStores [.Tuple [.Name x px, .Name y py] kt pt] (.Tuple [a, b] k2 pt2) X.env = pure (some [x, y]))
    (s1 : starEach [a, b] X.env = (false, eval a X.env) :: starEach [b] X.env := by rfl) (s2 : starEach [b] X.env = (false, eval b X.env) :: starEach [] X.env := by rfl)
    (hs : swapsWithSole [.Tuple [.Name x px, .Name y py] kt pt] (.Tuple [a, b] k2 pt2) pos.line X.env = pure false := by rfl) :
    XS X (.Assign [.Tuple [.Name x px, .Name y py] kt pt] (.Tuple [a, b] k2 pt2) pos) (sPar i j f g) :=
  PSw (ps_par hc hN hi hj hij hx hy (pa_cons ha (pa_cons hb pa_nil s2) s1) hw hs) fun D σ H ⟨N, env, m, h, fl, env', h', gg, e, q⟩ => by
    unfold sPar at e
    split at e
    · rename_i d h1 e1
      split at e
      · rename_i d2 h2 e2
        cases e
        refine ⟨N, env, m, h, d, h1, gg, e1, fun H1 m1 v p1 r1 => ⟨N, env, m1, h1, d2, _, gg.mono p1, e2, fun H2 m2 w p2 r2 => ⟨v, w, rfl, ?_⟩⟩⟩
        have g2 := (gg.mono p1).mono p2
        exact q _ H2 m2 (p1.trans p2) (RE.set (RE.set g2.re (RV.mono p1.rh p2 _ _ r1)) r2)
      · cases e
    · cases e
/-- name op= e -/
def sAug (i : Nat) (p : Prim) (f : Den) : SDen := fun env h => match env[i]? with
  | some (some d) => (match f env h with
    | some (d2, h1) => (match p [d, d2] h1 with
      | some (d3, h2) => some (.nx, env.set i (some d3), h2)
      | none => none)
    | none => none)
  | _ => none
theorem xs_aug {i : Nat} {x : Str} {e : Expr} {f : Den} {op : Operator} {ti : TIp} {p : Prim} {pos' : Pos} (hN : X.N.Nodup) (hi : X.N[i]? = some x) (hx : Loc X.env.scope x) (ho : PIp X op ti) (pr : PrimR X.K (R2l ti) p) (he : XE X e f) (hf : X.fn x = true ∨ X.env.scope.names.lookup x = some .local := by first | exact .inl rfl | exact .inr rfl | assumption) :
    XS X (.AugAssign (.Name x pos') op e pos) (sAug i p f) := PSw (ps_aug hN hi hx he ho hf) fun D σ H ⟨N, env, m, h, fl, env', h', g, e, q⟩ => by
  unfold sAug at e
  split at e
  · rename_i d hd
    split at e
    · rename_i d2 h1 e1
      split at e
      · rename_i d3 h2 e2
        cases e
        obtain ⟨v, ev, rv⟩ := g.re.at_ i d hd
        refine ⟨v, ev, N, env, m, h, d2, h1, g, e1, fun H1 m1 w p1 r1 => ?_⟩
        have z := pr N [d, d2] [v, w] H1 m1 h1 d3 _ (fun z H2 => D.nx (σ.set i (some z)) H2) p1.rh ⟨v, [w], rfl, RV.mono g.rh p1 _ _ rv, w, [], rfl, r1, rfl⟩ e2 fun H2 m2 u p2 r2 => q _ H2 m2 (p1.trans p2) (RE.set ((g.mono p1).mono p2).re r2)
        obtain ⟨x', y', ee, z⟩ := z
        simp only [List.cons.injEq, and_true] at ee
        obtain ⟨ea, eb⟩ := ee
        subst ea eb
        exact z
      · cases e
    · cases e
  · cases e
end
end Dn

set_option Elab.async false
set_option linter.all false
set_option maxRecDepth 100000
set_option maxHeartbeats 1000000
/-! Dn: what is walked; for, while, comprehensions. -/
namespace Dn
open PySem PySem.Spec PyProof.Rows L2

mutual
def D.beq : D → D → Bool
  | .non, .non => true
  | .bl a, .bl b => a == b
  | .int a, .int b => a == b
  | .str a, .str b => decide (a = b)
  | .tup a, .tup b => D.beqs a b
  | .fl a, .fl b => D.beqs a b
  | .sc a, .sc b => D.beqs a b
  | .ref a, .ref b => a == b
  | _, _ => false
def D.beqs : List D → List D → Bool
  | [], [] => true
  | a :: as, b :: bs => D.beq a b && D.beqs as bs
  | _, _ => false
end
mutual
theorem D.beq_eq : ∀ (a b : D), D.beq a b = true → a = b
  | .non, b, h => by cases b <;> first | rfl | (simp [D.beq] at h)
  | .bl a, b, h => by cases b <;> simp [D.beq] at h <;> rw [h]
  | .int a, b, h => by cases b <;> simp [D.beq] at h <;> rw [h]
  | .str a, b, h => by cases b <;> simp [D.beq] at h <;> rw [h]
  | .tup a, b, h => by
    cases b <;> simp only [D.beq, Bool.false_eq_true] at h
    rw [D.beqs_eq _ _ h]
  | .fl a, b, h => by
    cases b <;> simp only [D.beq, Bool.false_eq_true] at h
    rw [D.beqs_eq _ _ h]
  | .sc a, b, h => by
    cases b <;> simp only [D.beq, Bool.false_eq_true] at h
    rw [D.beqs_eq _ _ h]
  | .ref a, b, h => by cases b <;> simp [D.beq] at h <;> rw [h]
theorem D.beqs_eq : ∀ (a b : List D), D.beqs a b = true → a = b
  | [], b, h => by cases b <;> first | rfl | (simp [D.beqs] at h)
  | a :: as, b, h => by
    cases b with
    | nil => simp [D.beqs] at h
    | cons b bs =>
      simp only [D.beqs, Bool.and_eq_true] at h
      rw [D.beq_eq _ _ h.1, D.beqs_eq _ _ h.2]
end
mutual
theorem D.beq_refl : ∀ (a : D), D.beq a a = true
  | .non => rfl
  | .bl a => by simp [D.beq]
  | .int a => by simp [D.beq]
  | .str a => by simp [D.beq]
  | .tup a => by simp only [D.beq]; exact D.beqs_refl a
  | .fl a => by simp only [D.beq]; exact D.beqs_refl a
  | .sc a => by simp only [D.beq]; exact D.beqs_refl a
  | .ref a => by simp [D.beq]
theorem D.beqs_refl : ∀ (a : List D), D.beqs a a = true
  | [] => rfl
  | a :: as => by simp only [D.beqs, D.beq_refl a, D.beqs_refl as]; rfl
end

/-! ### what is walked -/
abbrev Gds := List (Nat × List D)
abbrev Src := List D × Gds
abbrev IDen := DE → HH → Option (Src × HH)
/-- an owned list must still be as it was -/
def okG1 (n : Nat) (l : List D) (h : HH) : Bool := match h[n]? with
  | some (.lst l') => D.beqs l' l
  | _ => false
def okG (gd : Gds) (h : HH) : Bool := gd.all fun p => okG1 p.1 p.2 h
structure Ext (N : Addr → Prop) (H0 : Hp) (m0 : List Addr) (N' : Addr → Prop) (H : Hp) (m : List Addr) : Prop where
  pre : ∃ e, m = m0 ++ e
  frame : ∀ a o, H0 a = some o → a ∉ m0 → H a = some o
  fresh : ∀ a, a ∈ m → a ∉ m0 → H0 a = none
  hid : ∀ a, N' a → N a ∨ H0 a = none
  frz : ∀ a o u, H0 a = some (.frz o u) → H a = some (.frz o u)
theorem Ext.rv {K : PySem.W.Frag} {N N' : Addr → Prop} {H0 H : Hp} {m0 m : List Addr} {h0 : HH} (e : Ext N H0 m0 N' H m) (r : RH K N H0 m0 h0) (d : D) (v : V) (q : RV K N H0 m0 d v) : RV K N' H m d v :=
  RV.move r e.pre e.frame (fun b o eb n z => by
    refine ⟨fun y => ?_, fun y => ?_⟩
    · have := e.fresh b y n
      rw [eb] at this; cases this
    · rcases e.hid b y with y | y
      · exact z y
      · rw [eb] at y; cases y) d v q
def Walk (K : PySem.W.Frag) (N : Addr → Prop) (J : It) (items : List D) (gd : Gds) (H0 : Hp) (m0 : List Addr) : Prop :=
  ∀ N' H m h, Ext N H0 m0 N' H m → RH K N' H m h → okG gd h = true → ∀ i,
    (∀ d, items[i]? = some d → J.go i H ∧ ∀ x H', J.yld i H x H' → Post K N' H m H' m h ∧ RV K N' H' m d x) ∧ (items.length ≤ i → J.stop i H)
def tI (K : PySem.W.Frag) (f : IDen) : TI := fun σ H R => ∃ N env m h items gd h', G K N H m σ env h ∧ f env h = some ((items, gd), h') ∧ ∀ H' m' J, Post K N H m H' m' h' → Walk K N J items gd H' m' → R J H'
abbrev XI (X : Cx) (tg iter : Expr) (f : IDen) : Prop := PI X tg iter (tI X.K f)
theorem PIw {X : Cx} {tg e : Expr} {t t' : TI} (h : PI X tg e t) (w : ∀ σ H R, t' σ H R → t σ H R) : PI X tg e t' := ⟨fun pins s σ H R I q => h.run pins s σ H R I (w σ H R q)⟩
theorem PI.or {X : Cx} {tg e : Expr} {t t' : TI} (h : PI X tg e t) (h' : PI X tg e t') : PI X tg e (fun σ H R => t σ H R ∨ t' σ H R) := ⟨fun pins s σ H R I q => by
  rcases q with q | q
  · exact h.run pins s σ H R I q
  · exact h'.run pins s σ H R I q⟩

/-! ### data told out: for reckoning -/
section
variable {α : Type}
def frcN (n : Nat) (k : Nat → α) : α := match n with
  | 0 => k 0
  | m + 1 => k (m + 1)
theorem frcN_eq (n : Nat) (k : Nat → α) : frcN n k = k n := by cases n <;> rfl
def frcI (i : Int) (k : Int → α) : α := match i with
  | .ofNat n => frcN n fun n => k (.ofNat n)
  | .negSucc n => frcN n fun n => k (.negSucc n)
theorem frcI_eq (i : Int) (k : Int → α) : frcI i k = k i := by
  cases i with
  | ofNat n => exact frcN_eq n fun n => k (.ofNat n)
  | negSucc n => exact frcN_eq n fun n => k (.negSucc n)
mutual
def frcD : D → (D → α) → α
  | .non, k => k .non
  | .bl true, k => k (.bl true)
  | .bl false, k => k (.bl false)
  | .int i, k => frcI i fun i => k (.int i)
  | .str x, k => k (.str x)
  | .tup l, k => frcDs l fun l => k (.tup l)
  | .fl l, k => frcDs l fun l => k (.fl l)
  | .sc l, k => frcDs l fun l => k (.sc l)
  | .ref n, k => frcN n fun n => k (.ref n)
def frcDs : List D → (List D → α) → α
  | [], k => k []
  | d :: r, k => frcD d fun d => frcDs r fun r => k (d :: r)
end
mutual
theorem frcD_eq : ∀ (d : D) (k : D → α), frcD d k = k d
  | .non, _ => rfl
  | .bl true, _ => rfl
  | .bl false, _ => rfl
  | .int i, k => frcI_eq i fun i => k (.int i)
  | .str x, _ => rfl
  | .tup l, k => frcDs_eq l fun l => k (.tup l)
  | .fl l, k => frcDs_eq l fun l => k (.fl l)
  | .sc l, k => frcDs_eq l fun l => k (.sc l)
  | .ref n, k => frcN_eq n fun n => k (.ref n)
theorem frcDs_eq : ∀ (l : List D) (k : List D → α), frcDs l k = k l
  | [], _ => rfl
  | d :: r, k => by
    unfold frcDs
    rw [frcD_eq d, frcDs_eq r]
end
def frcPs : List (D × D) → (List (D × D) → α) → α
  | [], k => k []
  | (a, b) :: r, k => frcD a fun a => frcD b fun b => frcPs r fun r => k ((a, b) :: r)
theorem frcPs_eq : ∀ (l : List (D × D)) (k : List (D × D) → α), frcPs l k = k l
  | [], _ => rfl
  | (a, b) :: r, k => by
    unfold frcPs
    rw [frcD_eq a, frcD_eq b, frcPs_eq r]
def frcH : HH → (HH → α) → α
  | [], k => k []
  | .lst l :: r, k => frcDs l fun l => frcH r fun r => k (.lst l :: r)
  | .dK l :: r, k => frcPs l fun l => frcH r fun r => k (.dK l :: r)
  | .dT l :: r, k => frcPs l fun l => frcH r fun r => k (.dT l :: r)
  | .lkK l :: r, k => frcPs l fun l => frcH r fun r => k (.lkK l :: r)
  | .lkT l :: r, k => frcPs l fun l => frcH r fun r => k (.lkT l :: r)
theorem frcH_eq : ∀ (h : HH) (k : HH → α), frcH h k = k h
  | [], _ => rfl
  | .lst l :: r, k => by unfold frcH; rw [frcDs_eq, frcH_eq r]
  | .dK l :: r, k => by unfold frcH; rw [frcPs_eq, frcH_eq r]
  | .dT l :: r, k => by unfold frcH; rw [frcPs_eq, frcH_eq r]
  | .lkK l :: r, k => by unfold frcH; rw [frcPs_eq, frcH_eq r]
  | .lkT l :: r, k => by unfold frcH; rw [frcPs_eq, frcH_eq r]
def frcE : DE → (DE → α) → α
  | [], k => k []
  | none :: r, k => frcE r fun r => k (none :: r)
  | some d :: r, k => frcD d fun d => frcE r fun r => k (some d :: r)
theorem frcE_eq : ∀ (e : DE) (k : DE → α), frcE e k = k e
  | [], _ => rfl
  | none :: r, k => by unfold frcE; rw [frcE_eq r]
  | some d :: r, k => by unfold frcE; rw [frcD_eq, frcE_eq r]
/-- a list's places alone -/
def frcL {β : Type} : List β → (List β → α) → α
  | [], k => k []
  | d :: r, k => frcL r fun r => k (d :: r)
theorem frcL_eq {β : Type} : ∀ (l : List β) (k : List β → α), frcL l k = k l
  | [], _ => rfl
  | d :: r, k => frcL_eq r fun r => k (d :: r)
def frcS (e : DE) (h : HH) (k : DE → HH → α) : α := frcE e fun e => frcH h fun h => k e h
theorem frcS_eq (e : DE) (h : HH) (k : DE → HH → α) : frcS e h k = k e h := by
  unfold frcS
  rw [frcE_eq, frcH_eq]
end
/-! ### for -/
def forGo (g : GDen) (body : SDen) (gd : Gds) : List D → SDen
  | [] => fun env h => if okG gd h = true then some (.nx, env, h) else none
  | d :: r => fun env h => if okG gd h = true then (match g d env h with
      | some (env1, h1) => (match body env1 h1 with
        | some (.nx, env2, h2) => frcE env2 fun env2 => forGo g body gd r env2 h2
        | some (.ct, env2, h2) => frcE env2 fun env2 => forGo g body gd r env2 h2
        | some (.brk, env2, h2) => some (.nx, env2, h2)
        | some (.ret d, env2, h2) => some (.ret d, env2, h2)
        | none => none)
      | none => none) else none
def sFor (src : IDen) (g : GDen) (body : SDen) : SDen := fun env h => match src env h with
  | some ((items, gd), h1) => forGo g body gd items env h1
  | none => none
section
variable {X : Cx} {pos : Pos}
theorem xs_for {tg iter : Expr} {body : List Stmt} {src : IDen} {g : GDen} {fb : SDen} (hp : PassesOwn (model X.prog X.w) X.A X.env X.xe) (hc : X.calm = true) (hi : XI X tg iter src) (hg : XG X tg g) (hb : XSs X body fb)
    (hs : ∀ x, foldedSetIterable iter X.env x = pure x := by intro _; rfl) : XS X (.For tg iter body [] pos) (sFor src g fb) :=
  PSw (ps_for hp hc hi hg hb hs) fun D σ H ⟨N, env, m, h, fl, env', h', gg, e, q⟩ => by
    unfold sFor at e
    split at e
    · rename_i items gd h1 e1
      refine ⟨N, env, m, h, items, gd, h1, gg, e1, fun H1 m1 J p1 wk => ?_⟩
      refine ⟨fun i k σ H => k = items.length - i ∧ i ≤ items.length ∧ ∃ m2 env2 h2, Post X.K N H1 m1 H m2 h2 ∧ RE X.K N H m2 σ env2 ∧ forGo g fb gd (items.drop i) env2 h2 = some (fl, env', h'),
        ⟨_, rfl, Nat.zero_le _, m1, env, h1, Post.refl p1.rh, (gg.mono p1).re, by simpa using e⟩, ?_⟩
      rintro i k σ2 H2 ⟨rfl, hi2, m2, env2, h2, p2, re2, e2⟩
      have ext : Ext N H1 m1 N H2 m2 := ⟨p2.pre, p2.frame, p2.fresh, fun a z => .inl z, p2.frz⟩
      by_cases hl : i < items.length
      · rw [List.drop_eq_getElem_cons hl] at e2
        unfold forGo at e2
        split at e2
        · rename_i hok
          obtain ⟨w1, _⟩ := wk N H2 m2 h2 ext p2.rh hok i
          obtain ⟨go, yl⟩ := w1 items[i] (List.getElem?_eq_getElem hl)
          refine .inr ⟨go, fun σ' H' => (items.length - (i + 1) = items.length - (i + 1) ∧ i + 1 ≤ items.length ∧ ∃ m2 env2 h2, Post X.K N H1 m1 H' m2 h2 ∧ RE X.K N H' m2 σ' env2 ∧ forGo g fb gd (items.drop (i + 1)) env2 h2 = some (fl, env', h')), fun σ' H' z => ⟨_, by omega, z⟩, fun x H' y => ?_⟩
          obtain ⟨p3, r3⟩ := yl x H' y
          split at e2
          · rename_i env3 h3 e3
            refine ⟨N, env2, m2, h2, items[i], env3, h3, ⟨RE.mono p2.rh p3 re2, p3.rh⟩, r3, e3, fun σ4 H4 m4 p4 re4 => ?_⟩
            have p24 := (p2.trans p3).trans p4
            split at e2
            · rename_i env5 h5 e5
              rw [frcE_eq] at e2
              exact ⟨N, env3, m4, h3, _, env5, h5, ⟨re4, p4.rh⟩, e5, fun σ6 H6 m6 p6 re6 => ⟨rfl, hl, m6, env5, h5, p24.trans p6, re6, e2⟩⟩
            · rename_i env5 h5 e5
              rw [frcE_eq] at e2
              exact ⟨N, env3, m4, h3, _, env5, h5, ⟨re4, p4.rh⟩, e5, fun σ6 H6 m6 p6 re6 => ⟨rfl, hl, m6, env5, h5, p24.trans p6, re6, e2⟩⟩
            · rename_i env5 h5 e5
              cases e2
              exact ⟨N, env3, m4, h3, _, _, _, ⟨re4, p4.rh⟩, e5, fun σ6 H6 m6 p6 re6 => q σ6 H6 m6 (p1.trans (p24.trans p6)) re6⟩
            · rename_i d5 env5 h5 e5
              cases e2
              exact ⟨N, env3, m4, h3, _, _, _, ⟨re4, p4.rh⟩, e5, fun σ6 H6 m6 p6 re6 => q σ6 H6 m6 (p1.trans (p24.trans p6)) re6⟩
            · cases e2
          · cases e2
        · cases e2
      · have hi3 : i = items.length := by omega
        subst hi3
        rw [List.drop_length] at e2
        unfold forGo at e2
        split at e2
        · rename_i hok
          cases e2
          exact .inl ⟨(wk N H2 m2 _ ext p2.rh hok items.length).2 (Nat.le_refl _), q σ2 H2 m2 (p1.trans p2) re2⟩
        · cases e2
    · cases e
/-! ### while -/
def whileGo (c : BDen) (body : SDen) : Nat → SDen
  | 0 => fun _ _ => none
  | n + 1 => fun env h => match c env h with
    | some (true, h1) => (match body env h1 with
      | some (.nx, env2, h2) => frcE env2 fun env2 => whileGo c body n env2 h2
      | some (.ct, env2, h2) => frcE env2 fun env2 => whileGo c body n env2 h2
      | some (.brk, env2, h2) => some (.nx, env2, h2)
      | some (.ret d, env2, h2) => some (.ret d, env2, h2)
      | none => none)
    | some (false, h1) => some (.nx, env, h1)
    | none => none
theorem xs_while {c : Expr} {body : List Stmt} {fc : BDen} {fb : SDen} (n : Nat) (hp : PassesOwn (model X.prog X.w) X.A X.env X.xe) (hc : XB X c fc) (hb : XSs X body fb) : XS X (.While c body [] pos) (whileGo fc fb n) :=
  PSw (ps_while hp hc hb) fun D σ H ⟨N, env, m, h, fl, env', h', gg, e, q⟩ => by
    refine ⟨fun k σ2 H2 => ∃ m2 env2 h2, Post X.K N H m H2 m2 h2 ∧ RE X.K N H2 m2 σ2 env2 ∧ whileGo fc fb k env2 h2 = some (fl, env', h'), ⟨n, m, env, h, Post.refl gg.rh, gg.re, e⟩, ?_⟩
    rintro k σ2 H2 ⟨m2, env2, h2, p2, re2, e2⟩
    cases k with
    | zero => cases e2
    | succ k =>
      unfold whileGo at e2
      split at e2
      · rename_i h3 e3
        refine ⟨N, env2, m2, h2, true, h3, ⟨re2, p2.rh⟩, e3, fun H3 m3 p3 => iteT ?_⟩
        refine ⟨fun σ' H' => ∃ m2 env2 h2, Post X.K N H m H' m2 h2 ∧ RE X.K N H' m2 σ' env2 ∧ whileGo fc fb k env2 h2 = some (fl, env', h'), fun σ' H' z => ⟨k, Nat.lt_succ_self k, z⟩, ?_⟩
        have p23 := p2.trans p3
        have re3 := RE.mono p2.rh p3 re2
        split at e2
        · rename_i env5 h5 e5
          rw [frcE_eq] at e2
          exact ⟨N, env2, m3, h3, _, env5, h5, ⟨re3, p3.rh⟩, e5, fun σ6 H6 m6 p6 re6 => ⟨m6, env5, h5, p23.trans p6, re6, e2⟩⟩
        · rename_i env5 h5 e5
          rw [frcE_eq] at e2
          exact ⟨N, env2, m3, h3, _, env5, h5, ⟨re3, p3.rh⟩, e5, fun σ6 H6 m6 p6 re6 => ⟨m6, env5, h5, p23.trans p6, re6, e2⟩⟩
        · rename_i env5 h5 e5
          cases e2
          exact ⟨N, env2, m3, h3, _, _, _, ⟨re3, p3.rh⟩, e5, fun σ6 H6 m6 p6 re6 => q σ6 H6 m6 (p23.trans p6) re6⟩
        · rename_i d5 env5 h5 e5
          cases e2
          exact ⟨N, env2, m3, h3, _, _, _, ⟨re3, p3.rh⟩, e5, fun σ6 H6 m6 p6 re6 => q σ6 H6 m6 (p23.trans p6) re6⟩
        · cases e2
      · rename_i h3 e3
        cases e2
        exact ⟨N, _, m2, h2, false, _, ⟨re2, p2.rh⟩, e3, fun H3 m3 p3 => iteF (q σ2 H3 m3 (p2.trans p3) (RE.mono p2.rh p3 re2))⟩
      · cases e2

/-! ### comprehensions -/
def wipeD (env : DE) : List Nat → DE
  | [] => env
  | v :: vs => (wipeD env vs).set v none
theorem RE.wipe {K : PySem.W.Frag} {N : Addr → Prop} {H : Hp} {m : List Addr} {σ : L2.St} {env : DE} (q : RE K N H m σ env) : ∀ vs, RE K N H m (wipe σ vs) (wipeD env vs)
  | [] => q
  | v :: vs => by
    have ih := RE.wipe q vs
    unfold L2.wipe wipeD
    refine ⟨by simp [ih.len], fun j x e => ?_⟩
    by_cases hj : v = j
    · subst hj
      by_cases hl : v < (wipeD env vs).length
      · rw [List.getElem?_set_self hl] at e; cases e
      · rw [List.getElem?_eq_none (by simp; omega)] at e; cases e
    · rw [List.getElem?_set_ne hj] at e
      rw [List.getElem?_set_ne hj]
      exact ih.at_ j x e
def compGo (g : GDen) (tt : BDen) (te : Den) (gd : Gds) (env : DE) : List D → List D → HH → Option (List D × HH)
  | [], acc, h => if okG gd h = true then some (acc, h) else none
  | d :: r, acc, h => if okG gd h = true then (match g d env h with
      | some (env1, h1) => (match tt env1 h1 with
        | some (true, h2) => (match te env1 h2 with
          | some (y, h3) => if acc.length < 1000000 then frcD y fun y => compGo g tt te gd env r (acc ++ [y]) h3 else none
          | none => none)
        | some (false, h2) => compGo g tt te gd env r acc h2
        | none => none)
      | none => none) else none
def dComp (vs : List Nat) (src : IDen) (g : GDen) (tt : BDen) (te : Den) : LDen := fun env h => match src env h with
  | some ((items, gd), h1) => compGo g tt te gd (wipeD env vs) items [] h1
  | none => none
def bYes : BDen := fun _ h => some (true, h)
theorem xts_nil {X : Cx} : PTs X [] (Dn.tB X.K bYes) := ⟨fun pins s σ H Q I ⟨N, env, m, h, b, h', g, e, q⟩ => by
  cases e
  exact pts_nil.run pins s σ H Q I (q H m (Post.refl g.rh))⟩
theorem xts_one {X : Cx} {c : Expr} {f : BDen} (h : XB X c f) : PTs X [c] (Dn.tB X.K f) := pts_one h
/-- the target of a comprehension: what it stores lies in the places vs -/
def TgOk (K : PySem.W.Frag) (vs : List Nat) (g : TG) (f : GDen) : Prop := ∀ N H m h σ env d v env' h' Q, G K N H m σ env h → RV K N H m d v → f d env h = some (env', h') → (∀ σ', wipe σ' vs = wipe σ vs → RE K N H m σ' env' → h' = h → Q σ' H) → g v σ H Q
theorem wipe_set {σ : L2.St} {i : Nat} {v : Option V} : ∀ {vs : List Nat}, i ∈ vs → wipe (σ.set i v) vs = wipe σ vs
  | [], h => by simp at h
  | w :: vs, h => by
    unfold L2.wipe
    by_cases hi : i ∈ vs
    · rw [wipe_set hi]
    · have : i = w := by simpa [hi] using h
      subst this
      have e : ∀ vs : List Nat, i ∉ vs → wipe (σ.set i v) vs = (wipe σ vs).set i v := by
        intro vs
        induction vs with
        | nil => intro _; rfl
        | cons a r ih =>
          intro hn
          unfold L2.wipe
          rw [ih (by simp at hn; exact hn.2), List.set_comm _ _ (by simp at hn; exact hn.1)]
      rw [e vs hi, List.set_set]
theorem tgok_name {K : PySem.W.Frag} {vs : List Nat} {i : Nat} (hi : i ∈ vs) : TgOk K vs (gName i) (gSet i) := fun N H m h σ env d v env' h' Q g r e q => by
  cases e
  exact q _ (wipe_set hi) (RE.set g.re r) rfl
def TgsOk (K : PySem.W.Frag) (vs : List Nat) (g : TGs) (f : GsDen) : Prop := ∀ N H m h σ env ds ws env' h' Q, G K N H m σ env h → RVs K N H m ds ws → f ds env h = some (env', h') → (∀ σ', wipe σ' vs = wipe σ vs → RE K N H m σ' env' → h' = h → Q σ' H) → g ws σ H Q
theorem tgsok_nil {K : PySem.W.Frag} {vs : List Nat} : TgsOk K vs gNil gsNil := fun N H m h σ env ds ws env' h' Q g r e q => by
  unfold gsNil at e
  split at e
  · cases e
    exact ⟨r, q σ rfl g.re rfl⟩
  · cases e
theorem tgsok_cons {K : PySem.W.Frag} {vs : List Nat} {g : TG} {f : GDen} {gs : TGs} {fs : GsDen} (h1 : TgOk K vs g f) (h2 : TgsOk K vs gs fs) : TgsOk K vs (gCons g gs) (gsCons f fs) := fun N H m h σ env ds ws env' h' Q gg r e q => by
  unfold gsCons at e
  split at e
  · rename_i d l
    obtain ⟨v, us, ev, r1, r2⟩ := r
    split at e
    · rename_i env1 h1' e1
      refine ⟨v, us, ev, h1 N H m h σ env d v env1 h1' _ gg r1 e1 fun σ1 w1 re1 eh => ?_⟩
      subst eh
      exact h2 N H m _ σ1 env1 l us env' h' Q ⟨re1, gg.rh⟩ r2 e fun σ2 w2 re2 eh => q σ2 (w2.trans w1) re2 eh
    · cases e
  · cases e
theorem tgok_tup {K : PySem.W.Frag} {vs : List Nat} {gs : TGs} {fs : GsDen} {n : Nat} (h : TgsOk K vs gs fs) : TgOk K vs (gTup K n gs) (gTupD n fs) := fun N H m hh σ env d v env' h' Q g r e q => by
  unfold gTupD at e
  split at e
  · rename_i l
    split at e
    · rename_i hl
      obtain ⟨a, us, e1, sq, rv⟩ := r
      exact ⟨a, us, e1, SqT.of sq, by rw [← rv.length]; exact hl, h N H m hh σ env l us env' h' Q g rv e q⟩
    · cases e
  · cases e
theorem wipe_wipe (σ : L2.St) (vs : List Nat) : wipe (wipe σ vs) vs = wipe σ vs := by
  have : ∀ us : List Nat, (∀ u ∈ us, u ∈ vs) → wipe (wipe σ us) vs = wipe σ vs := by
    intro us
    induction us with
    | nil => intro _; rfl
    | cons u r ih =>
      intro hu
      show wipe ((wipe σ r).set u none) vs = _
      rw [wipe_set (hu u (by simp)), ih fun x hx => hu x (by simp [hx])]
  exact this vs fun _ h => h
theorem lc_ok {K : PySem.W.Frag} {src : IDen} {g : TG} {gd : GDen} {tt : BDen} {te : Den} {vs : List Nat} {σ : L2.St} {H : Hp} {Q : VK} (hgo : TgOk K vs g gd) (q : tL K (dComp vs src gd tt te) σ H Q) : tLc (tI K src) g (Dn.tB K tt) (tE K te) vs σ H Q := by
    obtain ⟨N, env, m, h, ds, h', gg, e, q⟩ := q
    unfold dComp at e
    split at e
    · rename_i items gd' h1 e1
      refine ⟨N, env, m, h, items, gd', h1, gg, e1, fun H1 m1 J p1 wk D hD => ?_⟩
      have g1 := gg.mono p1
      have reW : RE K N H1 m1 (wipe σ vs) (wipeD env vs) := RE.wipe g1.re vs
      have DN1 : D ∉ m1 := p1.rh.notin hD
      have hide0 := (Post.refl p1.rh).hide (o := .lst []) hD
      refine ⟨fun i k H => k = items.length - i ∧ i ≤ items.length ∧ ∃ m2 h2 acc vacc, Post K (Nw N D) H1 m1 H m2 h2 ∧ D ∉ m2 ∧ H D = some (.lst vacc) ∧ RVs K (Nw N D) H m2 acc vacc ∧ RE K (Nw N D) H m2 (wipe σ vs) (wipeD env vs) ∧
          compGo gd tt te gd' (wipeD env vs) (items.drop i) acc h2 = some (ds, h'),
        ⟨_, rfl, Nat.zero_le _, m1, h1, [], [], hide0, DN1, upd_same, rfl, ?_, by simpa using e⟩, ?_⟩
      · exact RE.map (RV.move p1.rh ⟨[], by simp⟩ (fun b u e _ => by rw [upd_ne (ne_of_none e hD)]; exact e) fun b u e n z => ⟨n, fun y => by
          rcases y with y | y
          · exact z y
          · subst y; rw [hD] at e; cases e⟩) reW
      · rintro i k H2 ⟨rfl, hi2, m2, h2, acc, vacc, p2, DN2, HD2, ra2, re2, e2⟩
        have ext : Ext N H1 m1 (Nw N D) H2 m2 := ⟨p2.pre, p2.frame, p2.fresh, fun a z => by
          rcases z with z | z
          · exact .inl z
          · subst z; exact .inr hD, p2.frz⟩
        by_cases hl : i < items.length
        · rw [List.drop_eq_getElem_cons hl] at e2
          unfold compGo at e2
          split at e2
          · rename_i hok
            obtain ⟨w1, _⟩ := wk (Nw N D) H2 m2 h2 ext p2.rh hok i
            obtain ⟨go, yl⟩ := w1 items[i] (List.getElem?_eq_getElem hl)
            refine .inr ⟨go, fun H' => (items.length - (i + 1) = items.length - (i + 1) ∧ i + 1 ≤ items.length ∧ ∃ m2 h2 acc vacc, Post K (Nw N D) H1 m1 H' m2 h2 ∧ D ∉ m2 ∧ H' D = some (.lst vacc) ∧ RVs K (Nw N D) H' m2 acc vacc ∧ RE K (Nw N D) H' m2 (wipe σ vs) (wipeD env vs) ∧
              compGo gd tt te gd' (wipeD env vs) (items.drop (i + 1)) acc h2 = some (ds, h')), fun H' z => ⟨_, by omega, z⟩, fun x H3 y => ?_⟩
            obtain ⟨p3, r3⟩ := yl x H3 y
            have re3 := RE.mono p2.rh p3 re2
            split at e2
            · rename_i env3 h3 e3
              refine hgo (Nw N D) H3 m2 h2 (wipe σ vs) (wipeD env vs) _ x env3 h3 _ ⟨re3, p3.rh⟩ r3 e3 fun σ4 w4 re4 eh => ?_
              subst eh
              refine ⟨by rw [w4, wipe_wipe], ?_⟩
              have keepD : ∀ {H5 m5 h5}, Post K (Nw N D) H3 m2 H5 m5 h5 → D ∉ m5 ∧ H5 D = some (.lst vacc) := fun {H5 m5 h5} p5 => by
                have HD3 := p3.frame D _ HD2 DN2
                refine ⟨fun z => ?_, p5.frame D _ HD3 DN2⟩
                have := p5.fresh D z DN2
                rw [HD3] at this; cases this
              split at e2
              · rename_i h5 e5
                refine ⟨Nw N D, env3, m2, h3, true, h5, ⟨re4, p3.rh⟩, e5, fun H5 m5 p5 => iteT ?_⟩
                split at e2
                · rename_i y7 h7 e7
                  split at e2
                  · rename_i hlen
                    rw [frcD_eq] at e2
                    refine ⟨Nw N D, env3, m5, h5, y7, h7, ⟨RE.mono p3.rh p5 re4, p5.rh⟩, e7, fun H7 m7 v7 p7 r7 => ?_⟩
                    obtain ⟨DN7, HD7⟩ := keepD (p5.trans p7)
                    have pA := ((p2.trans p3).trans p5).trans p7
                    have raA := RVs.mono p2.rh ((p3.trans p5).trans p7) _ _ ra2
                    refine ⟨vacc, HD7, by rw [← raA.length]; exact line_of (Nat.le_of_lt hlen), rfl, hl, m7, h7, acc ++ [y7], vacc ++ [v7], ?_, DN7, upd_same, ?_, ?_, e2⟩
                    all_goals
                      have mv : ∀ (d : Dn.D) v, RV K (Nw N D) H7 m7 d v → RV K (Nw N D) (upd H7 D (.lst (vacc ++ [v7]))) m7 d v := RV.move2 ⟨[], by simp⟩ (fun b o eb n z => by
                        have hb : b ≠ D := fun y => z (.inr y)
                        exact ⟨by rw [upd_ne hb]; exact eb, n, z⟩) (fun b xs q => by
                        have hb : b ≠ D := fun y => by
                          subst y
                          rw [HD7] at q; cases q
                        rw [upd_ne hb]; exact q) fun b ob xs q => by
                        have hb : b ≠ D := fun y => by
                          subst y
                          rw [HD7] at q; cases q
                        rw [upd_ne hb]; exact q
                    · refine ⟨pA.pre, fun a o ea n => ?_, pA.fresh, fun a o ea => ?_, ⟨pA.rh.len, pA.rh.nd, fun a z => ?_, fun n o a e1 e2 => ?_⟩, fun a o u ea => by rw [upd_ne (fun y => by subst y; rw [hD] at ea; cases ea)]; exact pA.frz a o u ea⟩
                      · have hb : a ≠ D := fun y => by subst y; rw [hD] at ea; cases ea
                        rw [upd_ne hb]; exact pA.frame a o ea n
                      · have hb : a ≠ D := fun y => by subst y; rw [hD] at ea; cases ea
                        rw [upd_ne hb]; exact pA.dom a o ea
                      · by_cases hb : a = D
                        · subst hb; exact ⟨_, upd_same⟩
                        · rw [upd_ne hb]; exact pA.rh.hid a z
                      · have hb : a ≠ D := fun y => DN7 (y ▸ (List.mem_of_getElem? e2))
                        exact ro_map mv (fun o' z => by rw [upd_ne hb]; exact z) o (pA.rh.at_ n o a e1 e2)
                    · exact RVs.append (RVs.map mv _ _ raA) (RVs.one (mv _ _ r7))
                    · exact RE.map mv (RE.mono p2.rh ((p3.trans p5).trans p7) re2)
                  · cases e2
                · cases e2
              · rename_i h5 e5
                refine ⟨Nw N D, env3, m2, h3, false, h5, ⟨re4, p3.rh⟩, e5, fun H5 m5 p5 => iteF ?_⟩
                obtain ⟨DN5, HD5⟩ := keepD p5
                exact ⟨rfl, hl, m5, h5, acc, vacc, (p2.trans p3).trans p5, DN5, HD5, RVs.mono p2.rh (p3.trans p5) _ _ ra2, RE.mono p2.rh (p3.trans p5) re2, e2⟩
              · cases e2
            · cases e2
          · cases e2
        · have hi3 : i = items.length := by omega
          subst hi3
          rw [List.drop_length] at e2
          unfold compGo at e2
          split at e2
          · rename_i hok
            cases e2
            exact .inl ⟨(wk (Nw N D) H2 m2 _ ext p2.rh hok items.length).2 (Nat.le_refl _), q H2 m2 D vacc (p1.was hD) DN2 HD2 (p1.trans p2) ra2⟩
          · cases e2
    · cases e
theorem xl_comp {elt tg iter : Expr} {ifs : List Expr} {scope : Scope} {own : List (Str × Nat)} {src : IDen} {g : TG} {gd : GDen} {tt : BDen} {te : Den} (hc : X.calm = true) (hN : X.N.Nodup) (hi : XI X tg iter src) (ok : BlkOk X.N X.env.scope scope own)
    (hg : ∀ (s : Shared) (H : Hp) (C : Addr) (cl : List (Str × Addr)) (fp : List Addr), PG (X.blk s H scope (compEnvC scope cl C X.env) fp) tg g) (hgo : TgOk X.K (own.map (·.2)) g gd)
    (ht : ∀ (s : Shared) (H : Hp) (C : Addr) (cl : List (Str × Addr)) (fp : List Addr), PTs (X.blk s H scope (compEnvC scope cl C X.env) fp) ifs (Dn.tB X.K tt))
    (he : ∀ (s : Shared) (H : Hp) (C : Addr) (cl : List (Str × Addr)) (fp : List Addr), PE (X.blk s H scope (compEnvC scope cl C X.env) fp) elt (tE X.K te)) (hs : ∀ x, foldedSetIterable iter X.env x = pure x := by intro _; rfl) :
    XL X (.ListComp elt [⟨tg, iter, ifs, 0⟩] scope pos) (dComp (own.map (·.2)) src gd tt te) :=
  PEw (pe_lc hc hN hi ok hg ht he hs) fun σ H Q q => lc_ok hgo q
theorem xs_lcAsg {i : Nat} {y : Str} {py : Pos} {elt tg iter : Expr} {ifs : List Expr} {scope : Scope} {own : List (Str × Nat)} {spos : Pos} {src : IDen} {g : TG} {gd : GDen} {tt : BDen} {te f : Den} (hf : ∀ {σ H Q}, tE X.K f σ H Q → tL X.K (dComp (own.map (·.2)) src gd tt te) σ H Q)
    (hc : X.calm = true) (hN : X.N.Nodup) (hy : X.N[i]? = some y) (hyl : X.env.scope.names.lookup y = some .local)
    (hsw : swapsWith (.ListComp elt [⟨tg, iter, ifs, 0⟩] scope pos) (some (.Name y py)) spos.line X.env = pure true) (hi : XI X tg iter src) (ok : BlkOk X.N X.env.scope scope own)
    (hg : ∀ (s : Shared) (H : Hp) (C : Addr) (cl : List (Str × Addr)) (fp : List Addr), PG (X.blk s H scope (compEnvC scope cl C X.env) fp) tg g) (hgo : TgOk X.K (own.map (·.2)) g gd)
    (ht : ∀ (s : Shared) (H : Hp) (C : Addr) (cl : List (Str × Addr)) (fp : List Addr), PTs (X.blk s H scope (compEnvC scope cl C X.env) fp) ifs (Dn.tB X.K tt))
    (he : ∀ (s : Shared) (H : Hp) (C : Addr) (cl : List (Str × Addr)) (fp : List Addr), PE (X.blk s H scope (compEnvC scope cl C X.env) fp) elt (tE X.K te)) (hs : ∀ x, foldedSetIterable iter X.env x = pure x := by intro _; rfl) :
    XS X (.Assign [.Name y py] (.ListComp elt [⟨tg, iter, ifs, 0⟩] scope pos) spos) (sAsg f (gSet i)) :=
  PSw (ps_setLc hc hN hy hyl hsw hi ok hg ht he hs) fun D σ H q => lc_ok hgo (hf (by
    obtain ⟨N, env, m, h, d, h1, g, e1, q⟩ := asg_ok q
    refine ⟨N, env, m, h, d, h1, g, e1, fun H1 m1 v p1 r1 => ?_⟩
    obtain ⟨N2, env2, m2, h2, d2, env3, h3, g2, r2, e2, q2⟩ := q H1 m1 v p1 r1
    cases e2
    exact q2 _ H1 m2 (Post.refl g2.rh) (RE.set g2.re r2)))
end
end Dn

set_option Elab.async false
set_option linter.all false
set_option maxRecDepth 100000
set_option maxHeartbeats 1000000
/-! Dn: defs, calls by place and by names, calls that touch nothing. -/
namespace Dn
open PySem PySem.Spec PyProof.Rows L2

abbrev FDen := List D → HH → Option (D × HH)
/-- a def: n parameters, w names in all -/
def runFn (n w : Nat) (body : SDen) : FDen := fun ds h => if ds.length = n then (match body (ds.map some ++ List.replicate (w - ds.length) none) h with
  | some (.ret d, _, h1) => some (d, h1)
  | some (.nx, _, h1) => some (.non, h1)
  | _ => none) else none
/-- the promise -/
def spD (K : PySem.W.Frag) (n : Nat) (F : FDen) : Sp := fun vs H Q _ => vs.length = n ∧ ∃ N m h ds d h', RH K N H m h ∧ RVs K N H m ds vs ∧ F ds h = some (d, h') ∧ ∀ H' m' v, Post K N H m H' m' h' → RV K N H' m' d v → Q v H'
theorem RE.start {K : PySem.W.Frag} {N : Addr → Prop} {H : Hp} {m : List Addr} {ds : List D} {vs : List V} {Nm : List Str} (r : RVs K N H m ds vs) : RE K N H m (L2.start Nm vs) (ds.map some ++ List.replicate (Nm.length - ds.length) none) := by
  have hl := r.length
  unfold L2.start
  refine ⟨by simp [hl], fun i d e => ?_⟩
  by_cases hi : i < ds.length
  · rw [List.getElem?_append_left (by simpa using hi), List.getElem?_map] at e
    cases e1 : ds[i]? with
    | none => rw [e1] at e; cases e
    | some d' =>
      rw [e1] at e
      cases e
      obtain ⟨v, e2, rv⟩ := r.get e1
      refine ⟨v, ?_, rv⟩
      rw [List.getElem?_append_left (by simp; omega), List.getElem?_map, e2]
      rfl
  · rw [List.getElem?_append_right (by simp; omega)] at e
    have := List.mem_of_getElem? e
    simp at this
section
variable {P : Program} {w : World} {K : PySem.W.Frag} {mg : Str → Option Value} {base : Heap}
theorem fn_den {x qual : Str} {st : Stmt} {f : Addr} {fd : FuncData} {Nm ps : List Str} {k n wd : Nat} {body : SDen} (F : Fun K x qual st f fd) (S : FnScope Nm ps (defScope st)) (hn : ps.length = n) (hw : Nm.length = wd)
    (hb : ∀ (cdv : Value) (A : Around) (outer : List Env) (s : Shared) (H : Hp) (E : XK), Room k (A.deeper (envOfC qual (defScope st) s.heap.objs.size f cdv)) →
      XSs (cxOf CX0 P w K mg base Nm qual (defScope st) f cdv A outer s H E).nox (defBody st) body) : FnOk P w K mg base CX0 (k + 1) f fd ps (spD K n (runFn n wd body)) := by
  subst hn hw
  refine F.ok S (fun vs H Q E h => h.1) (fun cdv A outer s H vs Q E hr h => ?_)
  obtain ⟨hl, N, m, h0, ds, d, h', rh, rv, e, q⟩ := h
  refine ⟨_, hb cdv A outer s H E hr, ?_⟩
  unfold runFn at e
  split at e
  · rename_i hds
    split at e
    · rename_i d' env' h1 e1
      cases e
      exact ⟨N, _, m, h0, _, _, _, ⟨RE.start rv, rh⟩, e1, fun σ' H' m' p re v r => q H' m' v p r⟩
    · rename_i env' h1 e1
      cases e
      exact ⟨N, _, m, h0, _, _, _, ⟨RE.start rv, rh⟩, e1, fun σ' H' m' p re => q H' m' .non p rfl⟩
    · cases e
  · cases e
/-- a def that is never called that deep -/
theorem fn_zero {f : Addr} {fd : FuncData} {ps : List Str} {k n : Nat} : FnOk P w K mg base CX0 k f fd ps (spD K n (fun _ _ => none)) := by
  refine ⟨fun vs H Q E h => ?_, fun A outer s H args us vs Q E hr e0 hb r h => ?_⟩
  · obtain ⟨_, N, m, h0, ds, d, h', rh, rv, e, q⟩ := h
    cases e
  · obtain ⟨_, N, m, h0, ds, d, h', rh, rv, e, q⟩ := h
    cases e
end
/-- a def's own promise as the callers take it -/
def LenD (n : Nat) (F : FDen) : Prop := ∀ ds h r, F ds h = some r → ds.length = n
theorem lenD_run {n w : Nat} {body : SDen} : LenD n (runFn n w body) := fun ds h r e => by
  unfold runFn at e
  split at e
  · assumption
  · cases e
theorem lenD_none {n : Nat} : LenD n (fun _ _ => none) := fun ds h r e => by cases e

/-! ### calls that touch nothing -/
mutual
def plain : D → Bool
  | .ref _ => false
  | .fl _ => false
  | .sc _ => false
  | .tup l => plains l
  | _ => true
def plains : List D → Bool
  | [] => true
  | d :: l => plain d && plains l
end
def dPure (F : FDen) : FDen := fun ds h => if plains ds = true then (match F ds [] with
  | some (d, _) => if plain d = true then some (d, h) else none
  | none => none) else none
mutual
theorem RV.plain {K : PySem.W.Frag} {N N' : Addr → Prop} {H : Hp} {m m' : List Addr} : ∀ (d : D) (v : V), plain d = true → RV K N H m d v → RV K N' H m' d v
  | .non, _, _, q => q
  | .bl _, _, _, q => q
  | .int _, _, _, q => q
  | .str _, _, _, q => q
  | .ref n, _, h, _ => by simp [Dn.plain] at h
  | .fl l, _, h, _ => by simp [Dn.plain] at h
  | .sc l, _, h, _ => by simp [Dn.plain] at h
  | .tup l, _, h, ⟨a, vs, e, q, z⟩ => ⟨a, vs, e, q, RVs.plain l vs (by simpa [Dn.plain] using h) z⟩
theorem RVs.plain {K : PySem.W.Frag} {N N' : Addr → Prop} {H : Hp} {m m' : List Addr} : ∀ (l : List D) (vs : List V), plains l = true → RVs K N H m l vs → RVs K N' H m' l vs
  | [], _, _, q => q
  | d :: l, _, h, ⟨v, ws, e, q, z⟩ => by
    simp only [Dn.plains, Bool.and_eq_true] at h
    exact ⟨v, ws, e, RV.plain d v h.1 q, RVs.plain l ws h.2 z⟩
end
theorem lenD_pure {n : Nat} {F : FDen} (h : LenD n F) : LenD n (dPure F) := fun ds hh r e => by
  unfold dPure at e
  split at e
  · split at e
    · rename_i d _ e1
      exact h ds [] _ e1
    · cases e
  · cases e
/-- the same promise, the caller's own heap untouched -/
theorem sp_pure {K : PySem.W.Frag} {n : Nat} {F : FDen} {vs : List V} {H : Hp} {Q : VK} {E : XK} (h : spD K n (dPure F) vs H Q E) : spD K n F vs H Q E := by
  obtain ⟨hl, N, m, h0, ds, d, h', rh, rv, e, q⟩ := h
  unfold dPure at e
  split at e
  · rename_i hp
    split at e
    · rename_i d1 h1 e1
      split at e
      · rename_i hd
        cases e
        refine ⟨hl, fun a => N a ∨ a ∈ m, [], [], ds, _, h1, ⟨rfl, List.nodup_nil, fun a z => ?_, fun n o a e1 e2 => by simp at e1⟩, RVs.plain ds vs hp rv, e1, fun H' m' v p r => ?_⟩
        · rcases z with z | z
          · exact rh.hid a z
          · obtain ⟨_, o, _, _, ro⟩ := rh.obj z
            obtain ⟨u, e, _⟩ := ro.some
            exact ⟨u, e⟩
        · have keep : ∀ a o, H a = some o → H' a = some o := fun a o e => p.frame a o e (by simp)
          refine q H' m v ⟨⟨[], by simp⟩, fun a o e _ => keep a o e, fun a z n => absurd z n, fun a o e => ⟨o, keep a o e⟩, rh.same keep (fun _ _ _ _ z => z) fun a z => let ⟨u, e⟩ := rh.hid a z; ⟨u, keep a u e⟩, fun a o u e => keep a _ e⟩ (RV.plain _ v hd r)
      · cases e
    · cases e
  · cases e
theorem fn_pure {P : Program} {w : World} {K : PySem.W.Frag} {mg : Str → Option Value} {base : Heap} {k n : Nat} {f : Addr} {fd : FuncData} {ps : List Str} {F : FDen} (h : FnOk P w K mg base CX0 k f fd ps (spD K n F)) : FnOk P w K mg base CX0 k f fd ps (spD K n (dPure F)) :=
  h.imp fun vs H Q E q => sp_pure q

section
variable {X : Cx} {pos : Pos}
theorem prim_sp {K : PySem.W.Frag} {n : Nat} {F : FDen} (hl : LenD n F) : PrimR K (fun vs H Q => spD K n F vs H Q E0) F := fun N ds vs H m h d h' Q rh rv e q =>
  ⟨by rw [← rv.length]; exact hl ds h _ e, N, m, h, ds, d, h', rh, rv, e, q⟩
/-- f(e, ..) -/
theorem xe_callF {k n : Nat} {f : Addr} {fd : FuncData} {ps : List Str} {x : Str} {p : Pos} {e : Expr} {es : List Expr} {F : FDen} {fs : LDen} (Fk : FnOk X.prog X.w X.K X.mg X.base CX0 k f fd ps (spD X.K n F)) (hl : LenD n F) (hr : Room k X.A) (hg : Gl X x) (hm : X.mg x = some (.ref f))
    (hk : PySem.W.keepIn X.K (.ref f) = true) (hb : Binds X.K fd ps []) (ha : XA X (e :: es) fs) (hdb : (x == ("__debug__" : Str)) = false := by decide)
    (he : starEach (e :: es) X.env = (false, eval e X.env) :: starEach es X.env := by rfl) (hpl : (backTo pos (starEach es X.env)).any (·.1) = false := by rfl) :
    XE X (.Call (.Name x p) (e :: es) [] pos) (dApp F fs) :=
  PEw (pe_call (E := E0) Fk hr hg hm hk hb .nil (by exact pass0) ha hdb he hpl) fun σ H Q q => by
    have h := app_ok (prim_sp (K := X.K) hl) q
    show tA X.K fs σ H fun vs H1 => spD X.K n F (vs ++ []) H1 Q E0
    simp only [List.append_nil]
    exact h
/-- f() -/
theorem xe_callF0 {k : Nat} {f : Addr} {fd : FuncData} {ps : List Str} {x : Str} {p : Pos} {F : FDen} (Fk : FnOk X.prog X.w X.K X.mg X.base CX0 k f fd ps (spD X.K 0 F)) (hl : LenD 0 F) (hr : Room k X.A) (hg : Gl X x) (hm : X.mg x = some (.ref f))
    (hk : PySem.W.keepIn X.K (.ref f) = true) (hb : Binds X.K fd ps []) (hdb : (x == ("__debug__" : Str)) = false := by decide) :
    XE X (.Call (.Name x p) [] [] pos) (dApp F dNil) :=
  PEw (pe_call0 (E := E0) Fk hr hg hm hk hb .nil (by exact pass0) hdb) fun σ H Q q => by
    obtain ⟨N, env, m, h, ds, h', g, e, q'⟩ := app_ok (prim_sp (K := X.K) hl) q
    cases e
    exact q' H m [] (Post.refl g.rh) rfl
/-! ### by names -/
def gK {α : Type} (p q : Nat) (us ws : List α) : List α := if us.length = p ∧ ws.length = q then us ++ ws else []
theorem gK_eq {α : Type} {p q : Nat} {us ws : List α} (h1 : p = us.length) (h2 : q = ws.length) : gK p q us ws = us ++ ws := if_pos ⟨h1.symm, h2.symm⟩
theorem kb_mk {K : PySem.W.Frag} {x qual : Str} {st : Stmt} {f : Addr} {fd : FuncData} {ps ks : List Str} {p q : Nat} (F : Fun K x qual st f fd) (h0 : ps ≠ [])
    (h : ∀ (kV doc pm : Value) (an : Option Addr) (cdv ct : Value) (us ws : List Value), us.length = p → ws.length = q → bindArgs (PySem.W.fnOf x qual (defArgs st) (defBody st) (defScope st) .none kV doc pm an cdv ct) ⟨us, ks.zip ws⟩ = pure (ps.zip (us ++ ws))) : KBinds K fd ps ks (gK p q) (gK p q) := by
  obtain ⟨oc, od, kV, doc, pm, an, cdv, ct, osl, rfl, lk, hcd⟩ := F.ex
  refine ⟨fun s us ws _ hl => ?_, fun {vs us zs ws} r1 r2 => ?_⟩
  · unfold gK at hl ⊢
    split at hl
    · rename_i hh
      rw [if_pos hh]
      exact .of_eq (h kV doc pm an cdv ct us ws hh.1 hh.2)
    · exact absurd (List.eq_nil_of_length_eq_zero hl.symm) h0
  · unfold gK
    rw [r1.length, r2.length]
    split
    · exact r1.append r2
    · exact .nil
def dApnd (a b : LDen) : LDen := fun env h => match a env h with
  | some (ds, h1) => (match b env h1 with
    | some (es, h2) => some (ds ++ es, h2)
    | none => none)
  | none => none
abbrev XK' (X : Cx) (kws : List Keyword) (f : LDen) : Prop := L2.PK X kws (tA X.K f)
theorem PKw {X : Cx} {es : List Keyword} {t t' : TA} (h : L2.PK X es t) (w : ∀ σ H Q, t' σ H Q → t σ H Q) : L2.PK X es t' := ⟨fun pos pins s σ H Q I q => h.run pos pins s σ H Q I (w σ H Q q)⟩
theorem xk_nil : XK' X [] dNil := PKw pk_nil fun σ H Q ⟨N, env, m, h, ds, h', g, e, q⟩ => by
  cases e
  exact q H m [] (Post.refl g.rh) rfl
theorem cons_ok {K : PySem.W.Frag} {f : Den} {r : LDen} {σ H Q} (q : tA K (dCons f r) σ H Q) : tCons (tE K f) (tA K r) σ H Q := by
  obtain ⟨N, env, m, h, ds, h', g, e, q⟩ := q
  unfold dCons at e
  split at e
  · rename_i d h1 e1
    split at e
    · rename_i ds' h2 e2
      cases e
      refine ⟨N, env, m, h, d, h1, g, e1, fun H1 m1 v p1 r1 => ?_⟩
      refine ⟨N, env, m1, h1, ds', _, g.mono p1, e2, fun H2 m2 vs p2 r2 => ?_⟩
      exact q H2 m2 (v :: vs) (p1.trans p2) ⟨v, vs, rfl, RV.mono p1.rh p2 d v r1, r2⟩
    · cases e
  · cases e
theorem xk_cons {e : Expr} {nm : Option Str} {kpos : Pos} {kws : List Keyword} {f : Den} {r : LDen} (ha : XE X e f) (hr : XK' X kws r) : XK' X (⟨nm, e, kpos⟩ :: kws) (dCons f r) := PKw (pk_cons ha hr) fun σ H Q q => cons_ok q
theorem apnd_ok {K : PySem.W.Frag} {a b : LDen} {σ H} {Q : List V → Hp → Prop} {p q : Nat} (hp : ∀ env h ds h', a env h = some (ds, h') → ds.length = p) (hq : ∀ env h ds h', b env h = some (ds, h') → ds.length = q) (z : tA K (dApnd a b) σ H Q) : tA K a σ H fun vs H1 => tA K b σ H1 fun zs H2 => Q (gK p q vs zs) H2 := by
  obtain ⟨N, env, m, h, ds, h', g, e, z⟩ := z
  unfold dApnd at e
  split at e
  · rename_i d1 h1 e1
    split at e
    · rename_i d2 h2 e2
      cases e
      refine ⟨N, env, m, h, d1, h1, g, e1, fun H1 m1 vs p1 r1 => ⟨N, env, m1, h1, d2, _, g.mono p1, e2, fun H2 m2 zs p2 r2 => ?_⟩⟩
      have l1 := r1.length
      have l2 := r2.length
      rw [hp _ _ _ _ e1] at l1
      rw [hq _ _ _ _ e2] at l2
      show Q (gK p q vs zs) H2
      rw [gK_eq l1 l2]
      exact z H2 m2 (vs ++ zs) (p1.trans p2) (RVs.append (RVs.mono p1.rh p2 _ _ r1) r2)
    · cases e
  · cases e
def LLen (n : Nat) (a : LDen) : Prop := ∀ env h ds h', a env h = some (ds, h') → ds.length = n
theorem llen_nil : LLen 0 dNil := fun env h ds h' e => by cases e; rfl
theorem llen_cons {n : Nat} {f : Den} {r : LDen} (hr : LLen n r) : LLen (n + 1) (dCons f r) := fun env h ds h' e => by
  unfold dCons at e
  split at e
  · split at e
    · rename_i ds' h2 e2
      cases e
      simp [hr _ _ _ _ e2]
    · cases e
  · cases e
theorem xe_callK {k n p q : Nat} {f : Addr} {fd : FuncData} {ps ks : List Str} {x : Str} {pp : Pos} {e : Expr} {es : List Expr} {kws : List Keyword} {F : FDen} {fs gs : LDen} (Fk : FnOk X.prog X.w X.K X.mg X.base CX0 k f fd ps (spD X.K n F)) (hl : LenD n F) (hr : Room k X.A) (hg : Gl X x) (hm : X.mg x = some (.ref f))
    (hk : PySem.W.keepIn X.K (.ref f) = true) (hb : KBinds X.K fd ps ks (gK p q) (gK p q)) (ha : XA X (e :: es) fs) (hkw : XK' X kws gs) (lf : LLen p fs) (lg : LLen q gs) (hall : (backToKw pos (keywordEach kws X.env)).all (·.1.isSome) = true := by rfl) (hks : (backToKw pos (keywordEach kws X.env)).filterMap (·.1) = ks := by rfl)
    (hdb : (x == ("__debug__" : Str)) = false := by decide) (he : starEach (e :: es) X.env = (false, eval e X.env) :: starEach es X.env := by rfl)
    (hpl : ((backTo pos (starEach (e :: es) X.env)).any (·.1) || (backToKw pos (keywordEach kws X.env)).any (·.1.isNone)) = false := by rfl) :
    XE X (.Call (.Name x pp) (e :: es) kws pos) (dApp F (dApnd fs gs)) :=
  PEw (pe_callK (E := E0) Fk hr hg hm hk hb (by exact pass0) ha hkw hall hks hdb he hpl) fun σ H Q z => apnd_ok (Q := fun vs H1 => spD X.K n F vs H1 Q E0) lf lg (app_ok (prim_sp (K := X.K) hl) z)
theorem pe_callK0 {CX : CXT} {k : Nat} {f : Addr} {fd : FuncData} {ps ks : List Str} {sp : Sp} {E : L2.XK} {x : Str} {p : Pos} {kws : List Keyword} {tk : TA} {g : List Value → List Value → List Value} {gV : List V → List V → List V} (F : FnOk X.prog X.w X.K X.mg X.base CX k f fd ps sp) (hr : Room k X.A) (hg : Gl X x) (hm : X.mg x = some (.ref f)) (hk : PySem.W.keepIn X.K (.ref f) = true) (hb : KBinds X.K fd ps ks g gV) (hx : Passes CX X E)
    (hkw : L2.PK X kws tk) (hall : (backToKw pos (keywordEach kws X.env)).all (·.1.isSome) = true := by rfl) (hks : (backToKw pos (keywordEach kws X.env)).filterMap (·.1) = ks := by rfl)
    (hdb : (x == ("__debug__" : Str)) = false := by decide)
    (hpl : ((backTo pos (starEach [] X.env)).any (·.1) || (backToKw pos (keywordEach kws X.env)).any (·.1.isNone)) = false := by rfl) :
    PE X (.Call (.Name x p) [] kws pos) (tCallK sp gV E tNil tk) := by
  refine ⟨fun pins s σ H Q I h => ?_⟩
  refine wpAny_Call_Name_kw (ld_glob I hg hm ?_ hdb)
  refine PySem.W.callWith_KW0 (h₀ := X.base) I.ok.mod.kin hk hall ?_ hpl
  refine thn (hkw.run pos pins s σ H _ I h) fun ws s2 ⟨zs, H2, I2, rz, q2⟩ => ⟨I2.kIn, ?_⟩
  rw [hks]
  exact run_fnk (us := []) F hr hb hx I2 .nil rz q2
theorem xe_callK0 {k n q : Nat} {f : Addr} {fd : FuncData} {ps ks : List Str} {x : Str} {pp : Pos} {kws : List Keyword} {F : FDen} {gs : LDen} (Fk : FnOk X.prog X.w X.K X.mg X.base CX0 k f fd ps (spD X.K n F)) (hl : LenD n F) (hr : Room k X.A) (hg : Gl X x) (hm : X.mg x = some (.ref f))
    (hk : PySem.W.keepIn X.K (.ref f) = true) (hb : KBinds X.K fd ps ks (gK 0 q) (gK 0 q)) (hkw : XK' X kws gs) (lg : LLen q gs) (hall : (backToKw pos (keywordEach kws X.env)).all (·.1.isSome) = true := by rfl) (hks : (backToKw pos (keywordEach kws X.env)).filterMap (·.1) = ks := by rfl)
    (hdb : (x == ("__debug__" : Str)) = false := by decide)
    (hpl : ((backTo pos (starEach [] X.env)).any (·.1) || (backToKw pos (keywordEach kws X.env)).any (·.1.isNone)) = false := by rfl) :
    XE X (.Call (.Name x pp) [] kws pos) (dApp F gs) :=
  PEw (pe_callK0 (E := E0) Fk hr hg hm hk hb (by exact pass0) hkw hall hks hdb hpl) fun σ H Q z => by
    obtain ⟨N, env, m, h, ds, h', g, e, z'⟩ := app_ok (prim_sp (K := X.K) hl) z
    show tA X.K gs σ H fun zs H2 => spD X.K n F (gK 0 q [] zs) H2 Q E0
    refine ⟨N, env, m, h, ds, h', g, e, fun H1 m1 zs p1 r1 => ?_⟩
    have l2 := r1.length
    rw [lg _ _ _ _ e] at l2
    show spD X.K n F (gK 0 q [] zs) H1 Q E0
    rw [gK_eq (us := []) (show 0 = ([] : List V).length from rfl) l2]
    exact z' H1 m1 zs p1 r1
end
end Dn

set_option Elab.async false
set_option linter.all false
set_option maxRecDepth 100000
set_option maxHeartbeats 1000000
/-! Dn: operations by values. -/
namespace Dn
open PySem PySem.Spec PyProof.Rows L2

section
variable {K : PySem.W.Frag} {N : Addr → Prop} {H : Hp} {m : List Addr} {h : HH}
theorem rvs0 {vs : List V} (r : RVs K N H m [] vs) : vs = [] := r
theorem rvs1 {a : D} {vs : List V} (r : RVs K N H m [a] vs) : ∃ x, vs = [x] ∧ RV K N H m a x := by
  obtain ⟨x, ws, e, r1, r2⟩ := r
  have r2 : ws = [] := r2
  subst r2
  exact ⟨x, e, r1⟩
theorem rvs2 {a b : D} {vs : List V} (r : RVs K N H m [a, b] vs) : ∃ x y, vs = [x, y] ∧ RV K N H m a x ∧ RV K N H m b y := by
  obtain ⟨x, ws, e, r1, r2⟩ := r
  obtain ⟨y, e2, r3⟩ := rvs1 r2
  subst e2
  exact ⟨x, y, e, r1, r3⟩
theorem rvs3 {a b c : D} {vs : List V} (r : RVs K N H m [a, b, c] vs) : ∃ x y z, vs = [x, y, z] ∧ RV K N H m a x ∧ RV K N H m b y ∧ RV K N H m c z := by
  obtain ⟨x, ws, e, r1, r2⟩ := r
  obtain ⟨y, z, e2, r3⟩ := rvs2 r2
  subst e2
  exact ⟨x, y, z, e, r1, r3⟩
/-- what is a list here: made, owned, of the top -/
def listOf (d : D) (h : HH) : Option (List D) := match d with
  | .fl l => some l
  | .sc l => some l
  | .ref n => (match h[n]? with
    | some (.lst l) => some l
    | _ => none)
  | _ => none
/-- .. that the heap has -/
def listIn (d : D) (h : HH) : Option (List D) := match d with
  | .fl l => some l
  | .ref n => (match h[n]? with
    | some (.lst l) => some l
    | _ => none)
  | _ => none
theorem RH.ref_lst (rh : RH K N H m h) {n : Nat} {l : List D} {v : V} (r : RV K N H m (.ref n) v) (e : h[n]? = some (.lst l)) : ∃ a vs, v = .ref a ∧ m[n]? = some a ∧ H a = some (.lst vs) ∧ RVs K N H m l vs := by
  obtain ⟨a, e1, e2⟩ := r
  obtain ⟨vs, e3, r⟩ := rh.at_ n _ a e e1
  exact ⟨a, vs, e2, e1, e3, r⟩
theorem listIn_ok (rh : RH K N H m h) {d : D} {v : V} {l : List D} (r : RV K N H m d v) (e : listIn d h = some l) : ∃ a vs, v = .ref a ∧ H a = some (.lst vs) ∧ RVs K N H m l vs := by
  unfold listIn at e
  split at e
  · cases e
    obtain ⟨a, vs, e1, q, z⟩ := r
    exact ⟨a, vs, e1, q.1, z⟩
  · split at e
    · rename_i e1
      cases e
      obtain ⟨a, vs, e2, _, e3, z⟩ := rh.ref_lst r e1
      exact ⟨a, vs, e2, e3, z⟩
    · cases e
  · cases e
theorem listOf_ok (rh : RH K N H m h) {d : D} {v : V} {l : List D} (r : RV K N H m d v) (e : listOf d h = some l) : ∃ a vs, v = .ref a ∧ SqL K H a vs ∧ RVs K N H m l vs := by
  unfold listOf at e
  split at e
  · cases e
    obtain ⟨a, vs, e1, q, z⟩ := r
    exact ⟨a, vs, e1, q.seq, z⟩
  · cases e
    obtain ⟨a, vs, e1, q, z⟩ := r
    exact ⟨a, vs, e1, q.seq, z⟩
  · split at e
    · rename_i e1
      cases e
      obtain ⟨a, vs, e2, _, e3, z⟩ := rh.ref_lst r e1
      exact ⟨a, vs, e2, .inl (.inl e3), z⟩
    · cases e
  · cases e
def seqOf (d : D) (h : HH) : Option (List D) := match d with
  | .tup l => some l
  | d => listOf d h
theorem seqOf_ok (rh : RH K N H m h) {d : D} {v : V} {l : List D} (r : RV K N H m d v) (e : seqOf d h = some l) : ∃ a vs, v = .ref a ∧ (SqL K H a vs ∨ SqT K H a vs) ∧ RVs K N H m l vs := by
  unfold seqOf at e
  split at e
  · cases e
    obtain ⟨a, vs, e1, q, z⟩ := r
    exact ⟨a, vs, e1, .inr (SqT.of q), z⟩
  · obtain ⟨a, vs, e1, q, z⟩ := listOf_ok rh r e
    exact ⟨a, vs, e1, .inl q, z⟩
end

/-! ### numbers -/
def mulOk (i j : Int) : Bool := (decide (-(2 ^ 64) < i) && decide (i < 2 ^ 64)) || (decide (-(2 ^ 64) < j) && decide (j < 2 ^ 64)) || decide (i.natAbs.log2 + j.natAbs.log2 < 1000000)
theorem mulOk_ok {i j : Int} (h : mulOk i j = true) : IntMulOk i j := by
  unfold mulOk at h
  simp only [Bool.or_eq_true, Bool.and_eq_true, decide_eq_true_eq] at h
  rcases h with (h | h) | h
  · exact CMul.ok (.inl h)
  · exact CMul.ok (.inr h)
  · exact CMulW.ok h
def rMulD : R2 := rI (fun i j => IntMulOk i j) fun i j => .int (i * j)
theorem op_mulD {X : Cx} : OpR X (binaryOp .Mult) rMulD := opI fun _ _ _ _ _ _ _ hc q => mul_int q hc
def fdOk (j : Int) : Bool := decide (j ≠ 0) && (decide (j.natAbs < 1073741824) || (decide (0 < j) && decide (j.natAbs.log2 < 9000)))
def rFdD : R2 := fun x y H Q => rI CDivN (fun i j => .int (i.fdiv j)) x y H Q ∨ rI CDivW (fun i j => .int (i / j)) x y H Q
theorem op_fdD {X : Cx} : OpR X (binaryOp .FloorDiv) rFdD := op_fdivN.or op_fdivW

def pAdd : Prim := fun ds h => match ds with
  | [.int a, .int b] => some (.int (a + b), h)
  | [.str a, .str b] => if a.length + b.length ≤ 1000000 then some (.str (a ++ b), h) else none
  | [.tup a, .tup b] => if a.length + b.length ≤ 1000000 then some (.tup (a ++ b), h) else none
  | _ => none
def rAddStr : R2 := fun x y H Q => ∃ i j, x = .str i ∧ y = .str j ∧ i.length + j.length ≤ sizeLine ∧ Q (.str (i ++ j)) H
def rAddD (K : PySem.W.Frag) : R2 := fun x y H Q => rI0 (fun i j => .int (i + j)) x y H Q ∨ rAddStr x y H Q ∨ rCatA K x y H Q
theorem op_addD {X : Cx} : OpR X (binaryOp .Add) (rAddD X.K) := OpR.or op_add (OpR.or op_add_str op_catA)
def pSub : Prim := fun ds h => match ds with
  | [.int a, .int b] => some (.int (a - b), h)
  | _ => none
def pMul : Prim := fun ds h => match ds with
  | [.int a, .int b] => if mulOk a b = true then some (.int (a * b), h) else none
  | _ => none
def pFdiv : Prim := fun ds h => match ds with
  | [.int a, .int b] => if fdOk b = true then some (.int (a.fdiv b), h) else none
  | _ => none
def pMod : Prim := fun ds h => match ds with
  | [.int a, .int b] => if b = 0 then none else some (.int (a.fmod b), h)
  | _ => none
def pPow : Prim := fun ds h => match ds with
  | [.int a, .int b] => if 0 ≤ b ∧ b ≤ 1000000 ∧ a.natAbs < 2 ^ 64 then some (.int (a ^ b.toNat), h) else none
  | _ => none
def pNeg : Prim := fun ds h => match ds with
  | [.int a] => some (.int (-a), h)
  | _ => none
theorem sz1000 {n : Nat} (h : n ≤ 1000000) : n ≤ sizeLine := Nat.le_of_lt (line_of h)
theorem pr_add {K : PySem.W.Frag} : PrimR K (R2l (rAddD K)) pAdd := fun N ds vs H m h d h' Q rh rv e q => by
  unfold pAdd at e
  split at e
  · cases e
    obtain ⟨x, y, e1, r1, r2⟩ := rvs2 rv
    exact ⟨x, y, e1, .inl ⟨_, _, r1, r2, q H m _ (Post.refl rh) rfl⟩⟩
  · split at e
    · rename_i hl
      cases e
      obtain ⟨x, y, e1, r1, r2⟩ := rvs2 rv
      exact ⟨x, y, e1, .inr (.inl ⟨_, _, r1, r2, sz1000 hl, q H m _ (Post.refl rh) rfl⟩)⟩
    · cases e
  · split at e
    · rename_i a b hl
      cases e
      obtain ⟨x, y, e1, r1, r2⟩ := rvs2 rv
      obtain ⟨p, us, ex, sx, zx⟩ := r1
      obtain ⟨p2, ws, ey, sy, zy⟩ := r2
      refine ⟨x, y, e1, .inr (.inr ⟨p, p2, us, ws, ex, ey, SqT.of sx, SqT.of sy, by rw [← zx.length, ← zy.length]; exact sz1000 hl, fun z => ?_, fun z1 z2 => ?_, fun z1 z2 p3 hp => ?_⟩)⟩
      · subst z
        have : a = [] := List.eq_nil_of_length_eq_zero (by rw [zx.length]; rfl)
        subst this
        exact q H m _ (Post.refl rh) ⟨p2, ws, rfl, sy, zy⟩
      · subst z2
        have : b = [] := List.eq_nil_of_length_eq_zero (by rw [zy.length]; rfl)
        subst this
        exact q H m _ (Post.refl rh) ⟨p, us, rfl, sx, by rw [List.append_nil]; exact zx⟩
      · have pl := Post.laid (o := .tup (us ++ ws)) rh hp
        exact q _ m _ pl ⟨p3, us ++ ws, rfl, upd_same, RVs.append (RVs.mono rh pl _ _ zx) (RVs.mono rh pl _ _ zy)⟩
    · cases e
  · cases e
theorem pr_int2 {K : PySem.W.Frag} {C : Int → Int → Prop} {g : Int → Int → Int} {p : Prim} (hp : ∀ ds h d h', p ds h = some (d, h') → ∃ a b, ds = [.int a, .int b] ∧ C a b ∧ d = .int (g a b) ∧ h' = h) : PrimR K (R2l (rI C fun i j => .int (g i j))) p := fun N ds vs H m h d h' Q rh rv e q => by
  obtain ⟨a, b, rfl, hc, rfl, rfl⟩ := hp _ _ _ _ e
  obtain ⟨x, y, e1, r1, r2⟩ := rvs2 rv
  exact ⟨x, y, e1, _, _, r1, r2, hc, q H m _ (Post.refl rh) rfl⟩
theorem pr_sub {K : PySem.W.Frag} : PrimR K (R2l (rI0 fun i j => .int (i - j))) pSub := fun N ds vs H m h d h' Q rh rv e q => by
  unfold pSub at e
  split at e
  · cases e
    obtain ⟨x, y, e1, r1, r2⟩ := rvs2 rv
    exact ⟨x, y, e1, _, _, r1, r2, q H m _ (Post.refl rh) rfl⟩
  · cases e
theorem pr_mul {K : PySem.W.Frag} : PrimR K (R2l rMulD) pMul := pr_int2 fun ds h d h' e => by
  unfold pMul at e
  split at e
  · split at e
    · rename_i hl
      cases e
      exact ⟨_, _, rfl, mulOk_ok hl, rfl, rfl⟩
    · cases e
  · cases e
theorem pr_mod {K : PySem.W.Frag} : PrimR K (R2l (rI (fun _ j => j ≠ 0) fun i j => .int (i.fmod j))) pMod := pr_int2 fun ds h d h' e => by
  unfold pMod at e
  split at e
  · split at e
    · cases e
    · rename_i hl
      cases e
      exact ⟨_, _, rfl, hl, rfl, rfl⟩
  · cases e
theorem pr_pow {K : PySem.W.Frag} : PrimR K (R2l (rI CPow fun i j => .int (i ^ j.toNat))) pPow := pr_int2 fun ds h d h' e => by
  unfold pPow at e
  split at e
  · split at e
    · rename_i hl
      cases e
      exact ⟨_, _, rfl, hl, rfl, rfl⟩
    · cases e
  · cases e
theorem pr_fdiv {K : PySem.W.Frag} : PrimR K (R2l rFdD) pFdiv := fun N ds vs H m h d h' Q rh rv e q => by
  unfold pFdiv at e
  split at e
  · rename_i a b
    split at e
    · rename_i hl
      cases e
      obtain ⟨x, y, e1, r1, r2⟩ := rvs2 rv
      have q' := q H m _ (Post.refl rh) rfl
      unfold fdOk at hl
      simp only [Bool.or_eq_true, Bool.and_eq_true, decide_eq_true_eq] at hl
      obtain ⟨h0, h1 | ⟨h1, h2⟩⟩ := hl
      · exact ⟨x, y, e1, .inl ⟨_, _, r1, r2, ⟨h0, h1⟩, q'⟩⟩
      · refine ⟨x, y, e1, .inr ⟨_, _, r1, r2, ⟨h1, h2⟩, ?_⟩⟩
        show Q (.int (a / b)) H
        rw [← Int.fdiv_eq_ediv_of_nonneg a (show (0 : Int) ≤ b by omega)]
        exact q'
    · cases e
  · cases e
theorem pr_neg {K : PySem.W.Frag} : PrimR K (fun vs H Q => ∃ x, vs = [x] ∧ rU (fun i => .int (-i)) x H Q) pNeg := fun N ds vs H m h d h' Q rh rv e q => by
  unfold pNeg at e
  split at e
  · cases e
    obtain ⟨x, e1, r1⟩ := rvs1 rv
    exact ⟨x, e1, _, r1, q H m _ (Post.refl rh) rfl⟩
  · cases e

/-! ### comparisons -/
def pCmpI (f : Int → Int → Bool) : Prim := fun ds h => match ds with
  | [.int a, .int b] => some (.bl (f a b), h)
  | _ => none
theorem pr_cmpI {K : PySem.W.Frag} {f : Int → Int → Bool} : PrimR K (R2l (rI0 fun i j => .bl (f i j))) (pCmpI f) := fun N ds vs H m h d h' Q rh rv e q => by
  unfold pCmpI at e
  split at e
  · cases e
    obtain ⟨x, y, e1, r1, r2⟩ := rvs2 rv
    exact ⟨x, y, e1, _, _, r1, r2, q H m _ (Post.refl rh) rfl⟩
  · cases e
abbrev pLt : Prim := pCmpI fun i j => decide (i < j)
abbrev pLe : Prim := pCmpI fun i j => decide (i ≤ j)
abbrev pGt : Prim := pCmpI fun i j => decide (j < i)
abbrev pGe : Prim := pCmpI fun i j => decide (j ≤ i)
/-! data, for == and in -/
mutual
def toPy (h : HH) : D → Option PyData
  | .non => some .none
  | .bl b => some (.bool b)
  | .int i => some (.int i)
  | .str x => some (.str x)
  | .tup l => (toPys h l).map .tuple
  | .fl l => (toPys h l).map .list
  | .sc l => (toPys h l).map .list
  | .ref _ => none
def toPys (h : HH) : List D → Option (List PyData)
  | [] => some []
  | d :: l => match toPy h d, toPys h l with
    | some x, some xs => some (x :: xs)
    | _, _ => none
end
/-- .. an owned list of plain things on top -/
def toPyR (h : HH) : D → Option PyData
  | .ref n => (match h[n]? with
    | some (.lst l) => (toPys h l).map .list
    | _ => none)
  | d => toPy h d
mutual
theorem toPy_ok {K : PySem.W.Frag} {N : Addr → Prop} {H : Hp} {m : List Addr} {h : HH} (rh : RH K N H m h) : ∀ (d : D) (v : V) (p : PyData), RV K N H m d v → toPy h d = some p → Dp K H v p
  | .non, v, p, r, e => by
    cases e
    rw [show v = .non from r]
    exact .non
  | .bl b, v, p, r, e => by
    cases e
    rw [show v = .bl b from r]
    exact .bl b
  | .int i, v, p, r, e => by
    cases e
    rw [show v = .int i from r]
    exact .int i
  | .str x, v, p, r, e => by
    cases e
    rw [show v = .str x from r]
    exact .str x
  | .tup l, v, p, ⟨a, vs, e1, sq, z⟩, e => by
    simp only [toPy, Option.map_eq_some_iff] at e
    obtain ⟨ps, e2, e3⟩ := e
    subst e1 e3
    exact .tup (SqT.of sq) (toPys_ok rh l vs ps z e2)
  | .fl l, v, p, ⟨a, vs, e1, sq, z⟩, e => by
    simp only [toPy, Option.map_eq_some_iff] at e
    obtain ⟨ps, e2, e3⟩ := e
    subst e1 e3
    exact .lst sq.seq (toPys_ok rh l vs ps z e2)
  | .sc l, v, p, ⟨a, vs, e1, sq, z⟩, e => by
    simp only [toPy, Option.map_eq_some_iff] at e
    obtain ⟨ps, e2, e3⟩ := e
    subst e1 e3
    exact .lst sq.seq (toPys_ok rh l vs ps z e2)
  | .ref n, v, p, r, e => by simp [toPy] at e
theorem toPys_ok {K : PySem.W.Frag} {N : Addr → Prop} {H : Hp} {m : List Addr} {h : HH} (rh : RH K N H m h) : ∀ (l : List D) (vs : List V) (ps : List PyData), RVs K N H m l vs → toPys h l = some ps → DpAll K H vs ps
  | [], vs, ps, r, e => by
    cases e
    rw [show vs = [] from r]
    exact .nil
  | d :: l, vs, ps, ⟨v, ws, e1, r1, r2⟩, e => by
    subst e1
    simp only [toPys] at e
    split at e
    · rename_i x xs e2 e3
      cases e
      exact .cons (toPy_ok rh d v x r1 e2) (toPys_ok rh l ws xs r2 e3)
    · cases e
end
theorem toPyR_ok {K : PySem.W.Frag} {N : Addr → Prop} {H : Hp} {m : List Addr} {h : HH} (rh : RH K N H m h) {d : D} {v : V} {p : PyData} (r : RV K N H m d v) (e : toPyR h d = some p) : Dp K H v p := by
  unfold toPyR at e
  split at e
  · split at e
    · rename_i l e1
      simp only [Option.map_eq_some_iff] at e
      obtain ⟨ps, e2, e3⟩ := e
      subst e3
      obtain ⟨a, vs, e4, _, e5, z⟩ := rh.ref_lst r e1
      subst e4
      exact .lst (.inl (.inl e5)) (toPys_ok rh l vs ps z e2)
    · cases e
  · exact toPy_ok rh d v p r e
def pEqD (neg : Bool) : Prim := fun ds h => match ds with
  | [a, b] => (match toPyR h a, toPyR h b with
    | some x, some y => if SeqAt.shaped x = true ∧ SeqAt.shaped y = true then some (.bl (if neg then !PyData.eqv x y else PyData.eqv x y), h) else none
    | _, _ => none)
  | _ => none
theorem pr_eqD {K : PySem.W.Frag} : PrimR K (R2l (rEqD K)) (pEqD false) := fun N ds vs H m h d h' Q rh rv e q => by
  unfold pEqD at e
  split at e
  · split at e
    · rename_i x y e1 e2
      split at e
      · rename_i hs
        cases e
        obtain ⟨v, w, e3, r1, r2⟩ := rvs2 rv
        exact ⟨v, w, e3, x, y, toPyR_ok rh r1 e1, toPyR_ok rh r2 e2, hs.1, hs.2, q H m _ (Post.refl rh) rfl⟩
      · cases e
    · cases e
  · cases e
theorem pr_neD {K : PySem.W.Frag} : PrimR K (R2l (rNeD K)) (pEqD true) := fun N ds vs H m h d h' Q rh rv e q => by
  unfold pEqD at e
  split at e
  · split at e
    · rename_i x y e1 e2
      split at e
      · rename_i hs
        cases e
        obtain ⟨v, w, e3, r1, r2⟩ := rvs2 rv
        exact ⟨v, w, e3, x, y, toPyR_ok rh r1 e1, toPyR_ok rh r2 e2, hs.1, hs.2, q H m _ (Post.refl rh) rfl⟩
      · cases e
    · cases e
  · cases e
/-- is None -/
def pIsN (neg : Bool) : Prim := fun ds h => match ds with
  | [.non, .non] => some (.bl (!neg), h)
  | [_, .non] => some (.bl neg, h)
  | _ => none
theorem RV.non_iff {K : PySem.W.Frag} {N : Addr → Prop} {H : Hp} {m : List Addr} {d : D} {v : V} (r : RV K N H m d v) (hd : d ≠ .non) : v ≠ .non := by
  intro e
  subst e
  cases d with
  | non => exact hd rfl
  | bl b => exact absurd (show V.non = .bl b from r) (by simp)
  | int b => exact absurd (show V.non = .int b from r) (by simp)
  | str b => exact absurd (show V.non = .str b from r) (by simp)
  | tup l => obtain ⟨_, _, e, _⟩ := r; cases e
  | fl l => obtain ⟨_, _, e, _⟩ := r; cases e
  | sc l => obtain ⟨_, _, e, _⟩ := r; cases e
  | ref n => obtain ⟨_, _, e⟩ := r; cases e
theorem pr_isN {K : PySem.W.Frag} : PrimR K (R2l fun x y H Q => y = .non ∧ Q (.bl (decide (x = .non))) H) (pIsN false) := fun N ds vs H m h d h' Q rh rv e q => by
  unfold pIsN at e
  split at e
  · cases e
    obtain ⟨v, w, e3, r1, r2⟩ := rvs2 rv
    have r1 : v = .non := r1
    subst r1
    exact ⟨_, w, e3, r2, q H m _ (Post.refl rh) rfl⟩
  · rename_i a hne
    cases e
    obtain ⟨v, w, e3, r1, r2⟩ := rvs2 rv
    refine ⟨_, w, e3, r2, ?_⟩
    rw [decide_eq_false (RV.non_iff r1 (fun z => hne z))]
    exact q H m _ (Post.refl rh) rfl
  · cases e
theorem pr_notN {K : PySem.W.Frag} : PrimR K (R2l fun x y H Q => y = .non ∧ Q (.bl (!decide (x = .non))) H) (pIsN true) := fun N ds vs H m h d h' Q rh rv e q => by
  unfold pIsN at e
  split at e
  · cases e
    obtain ⟨v, w, e3, r1, r2⟩ := rvs2 rv
    have r1 : v = .non := r1
    subst r1
    exact ⟨_, w, e3, r2, q H m _ (Post.refl rh) rfl⟩
  · rename_i a hne
    cases e
    obtain ⟨v, w, e3, r1, r2⟩ := rvs2 rv
    refine ⟨_, w, e3, r2, ?_⟩
    rw [decide_eq_false (RV.non_iff r1 (fun z => hne z))]
    exact q H m _ (Post.refl rh) rfl
  · cases e
/-- in, not in: flat things -/
def flatD : D → Bool
  | .non => true
  | .bl _ => true
  | .int _ => true
  | .str _ => true
  | _ => false
def eqF : D → D → Bool
  | .non, .non => true
  | .bl a, .bl b => a == b
  | .bl a, .int b => (if a then 1 else 0) == b
  | .int a, .bl b => a == (if b then 1 else 0)
  | .int a, .int b => a == b
  | .str a, .str b => decide (a = b)
  | _, _ => false
def pIn (neg : Bool) : Prim := fun ds h => match ds with
  | [x, s] => (match seqOf s h with
    | some l => if flatD x = true ∧ l.all flatD = true then some (.bl (if neg then !l.any fun y => eqF y x else l.any fun y => eqF y x), h) else none
    | none => none)
  | _ => none
theorem flat_ok {K : PySem.W.Frag} {N : Addr → Prop} {H : Hp} {m : List Addr} {d : D} {v : V} (r : RV K N H m d v) (hd : flatD d = true) : flatV v = true ∧ ∀ e w, RV K N H m e w → flatD e = true → eqV v w = eqF d e := by
  cases d with
  | non =>
    rw [show v = .non from r]
    refine ⟨rfl, fun e w r2 h2 => ?_⟩
    cases e <;> first | (rw [show w = _ from r2]; rfl) | (simp [flatD] at h2)
  | bl b =>
    rw [show v = .bl b from r]
    refine ⟨rfl, fun e w r2 h2 => ?_⟩
    cases e <;> first | (rw [show w = _ from r2]; rfl) | (simp [flatD] at h2)
  | int b =>
    rw [show v = .int b from r]
    refine ⟨rfl, fun e w r2 h2 => ?_⟩
    cases e <;> first | (rw [show w = _ from r2]; rfl) | (simp [flatD] at h2)
  | str b =>
    rw [show v = .str b from r]
    refine ⟨rfl, fun e w r2 h2 => ?_⟩
    cases e with
    | str c => rw [show w = _ from r2]; show (b == c) = decide (b = c); exact Bool.beq_eq_decide_eq b c
    | _ => first | (rw [show w = _ from r2]; rfl) | (simp [flatD] at h2)
  | _ => simp [flatD] at hd
theorem flats_ok {K : PySem.W.Frag} {N : Addr → Prop} {H : Hp} {m : List Addr} {x : D} {v : V} (r : RV K N H m x v) (hx : flatD x = true) : ∀ {l : List D} {vs : List V}, RVs K N H m l vs → l.all flatD = true → vs.all flatV = true ∧ inV v vs = l.any fun y => eqF y x
  | [], vs, z, _ => by
    rw [show vs = [] from z]
    exact ⟨rfl, rfl⟩
  | d :: l, vs, ⟨w, ws, e, r1, r2⟩, hl => by
    subst e
    rw [List.all_cons, Bool.and_eq_true] at hl
    obtain ⟨h1, h2⟩ := flat_ok r1 hl.1
    obtain ⟨i1, i2⟩ := flats_ok r hx r2 hl.2
    refine ⟨by rw [List.all_cons, h1, i1]; rfl, ?_⟩
    unfold inV at i2 ⊢
    rw [List.any_cons, List.any_cons, i2, h2 x v r hx]
theorem pr_in {K : PySem.W.Frag} {neg : Bool} : PrimR K (R2l (rIn K neg)) (pIn neg) := fun N ds vs H m h d h' Q rh rv e q => by
  unfold pIn at e
  split at e
  · split at e
    · rename_i l e1
      split at e
      · rename_i hf
        cases e
        obtain ⟨v, w, e3, r1, r2⟩ := rvs2 rv
        obtain ⟨a, us, e4, sq, z⟩ := seqOf_ok rh r2 e1
        obtain ⟨f1, f2⟩ := flats_ok r1 hf.1 z hf.2
        refine ⟨v, w, e3, a, us, e4, sq, (flat_ok r1 hf.1).1, f1, ?_⟩
        rw [f2]
        exact q H m _ (Post.refl rh) rfl
      · cases e
    · cases e
  · cases e

/-! ### len, places, slices -/
def pLen : Prim := fun ds h => match ds with
  | [.str x] => if x.length ≤ 1000000 then some (.int x.length, h) else none
  | [.ref n] => (match h[n]? with
    | some (.lst l) => some (.int l.length, h)
    | some (.dK l) => some (.int l.length, h)
    | some (.dT l) => some (.int l.length, h)
    | _ => none)
  | [d] => (match seqOf d h with
    | some l => some (.int l.length, h)
    | none => none)
  | _ => none
def atD (l : List D) (i : Int) : Option D := atI l i
theorem at_ok {K : PySem.W.Frag} {N : Addr → Prop} {H : Hp} {m : List Addr} {l : List D} {vs : List V} {i : Int} {d : D} (r : RVs K N H m l vs) (e : atI l i = some d) : ∃ v, atI vs i = some v ∧ RV K N H m d v := by
  unfold atI at e ⊢
  rw [← r.length]
  cases hx : ixN l.length i with
  | none => rw [hx] at e; cases e
  | some j =>
    rw [hx] at e
    exact r.get (i := j) e
def pIx : Prim := fun ds h => match ds with
  | [.str z, .int i] => if z.length ≤ 1000000 then (match atI z.cps.toList i with
    | some c => some (.str ⟨#[c]⟩, h)
    | none => none) else none
  | [s, .int i] => (match seqOf s h with
    | some l => (match atI l i with
      | some d => some (d, h)
      | none => none)
    | none => none)
  | _ => none
theorem pr_ix {K : PySem.W.Frag} : PrimR K (R2l (rIx K)) pIx := fun N ds vs H m h d h' Q rh rv e q => by
  unfold pIx at e
  split at e
  · split at e
    · rename_i hz
      split at e
      · rename_i c e1
        cases e
        obtain ⟨v, w, e3, r1, r2⟩ := rvs2 rv
        exact ⟨v, w, e3, .inr (.inr ⟨_, _, c, r1, r2, sz1000 hz, e1, q H m _ (Post.refl rh) rfl⟩)⟩
      · cases e
    · cases e
  · split at e
    · rename_i l e1
      split at e
      · rename_i d' e2
        cases e
        obtain ⟨v, w, e3, r1, r2⟩ := rvs2 rv
        obtain ⟨a, us, e4, sq, z⟩ := seqOf_ok rh r1 e1
        obtain ⟨u, e5, r5⟩ := at_ok z e2
        refine ⟨v, w, e3, ?_⟩
        rcases sq with sq | sq
        · exact .inl ⟨a, us, _, u, e4, r2, sq, e5, q H m _ (Post.refl rh) r5⟩
        · exact .inr (.inl ⟨a, us, _, u, e4, r2, sq, e5, q H m _ (Post.refl rh) r5⟩)
      · cases e
    · cases e
  · cases e
theorem xe_ix {X : Cx} {a b : Expr} {f g : Den} {pos : Pos} (ha : XE X a f) (hb : XE X b g) (hs : PlainIx b := by exact fun _ _ => rfl) : XE X (.Subscript a b pos) (dApp2 pIx f g) := PEw (pe_ix ix_seq ha hb hs) fun σ H Q q => app2_ok pr_ix q

def cutD (l : List D) (lo hi : Option Int) : List D := (l.drop (HT.sIx l.length 0 lo)).take (HT.sIx l.length l.length hi - HT.sIx l.length 0 lo)
theorem cut_ok {K : PySem.W.Frag} {N : Addr → Prop} {H : Hp} {m : List Addr} {l : List D} {vs : List V} {lo hi : Option Int} (r : RVs K N H m l vs) : RVs K N H m (cutD l lo hi) (cutV vs lo hi) := by
  unfold cutD cutV
  rw [r.length]
  exact RVs.take _ (RVs.drop _ r)
/-- a part of a slice -/
abbrev ODen := DE → HH → Option (Option Int × HH)
def oNo : ODen := fun _ h => some (none, h)
def oYes (f : Den) : ODen := fun env h => match f env h with
  | some (.int i, h1) => some (some i, h1)
  | _ => none
def tOD (K : PySem.W.Frag) (f : ODen) : TO := fun σ H Q => ∃ N env m h o h', G K N H m σ env h ∧ f env h = some (o, h') ∧ ∀ H' m', Post K N H m H' m' h' → Q o H'
abbrev XO (X : Cx) (e : Option Expr) (f : ODen) : Prop := PO X e (tOD X.K f)
theorem POw {X : Cx} {e : Option Expr} {t t' : TO} (h : PO X e t) (w : ∀ σ H Q, t' σ H Q → t σ H Q) : PO X e t' := ⟨fun pins s σ H Q I q => h.run pins s σ H Q I (w σ H Q q)⟩
theorem xo_no {X : Cx} : XO X none oNo := POw po_none fun σ H Q ⟨N, env, m, h, o, h', g, e, q⟩ => by
  cases e
  exact q H m (Post.refl g.rh)
theorem xo_yes {X : Cx} {e : Expr} {f : Den} (he : XE X e f) : XO X (some e) (oYes f) := POw (po_some he) fun σ H Q ⟨N, env, m, h, o, h', g, e, q⟩ => by
  unfold oYes at e
  split at e
  · rename_i i h1 e1
    cases e
    exact ⟨N, env, m, h, _, _, g, e1, fun H1 m1 v p1 r1 => ⟨i, r1, q H1 m1 p1⟩⟩
  · cases e
/-- t[a:b], a tuple -/
def dSlT (f : Den) (lo hi : ODen) : Den := fun env h => match f env h with
  | some (.tup l, h1) => (match lo env h1 with
    | some (a, h2) => (match hi env h2 with
      | some (b, h3) => some (.tup (cutD l a b), h3)
      | none => none)
    | none => none)
  | _ => none
theorem cut_whole {l : List D} {lo hi : Option Int} (h1 : HT.sIx l.length 0 lo = 0) (h2 : HT.sIx l.length l.length hi = l.length) : cutD l lo hi = l := by
  unfold cutD
  rw [h1, h2]
  simp
theorem xe_slT {X : Cx} {e : Expr} {lo hi : Option Expr} {f : Den} {fl fh : ODen} {p2 pos : Pos} (he : XE X e f) (hl : XO X lo fl) (hu : XO X hi fh) : XE X (.Subscript e (.Slice lo hi none p2) pos) (dSlT f fl fh) :=
  PEw (pe_slice sl_tupA he hl hu) fun σ H Q ⟨N, env, m, h, d, h', g, e, q⟩ => by
    unfold dSlT at e
    split at e
    · rename_i l h1 e1
      split at e
      · rename_i a h2 e2
        split at e
        · rename_i b h3 e3
          cases e
          refine ⟨N, env, m, h, _, h1, g, e1, fun H1 m1 v p1 r1 => ⟨N, env, m1, h1, a, h2, g.mono p1, e2, fun H2 m2 p2 => ⟨N, env, m2, h2, b, _, (g.mono p1).mono p2, e3, fun H3 m3 p3 => ?_⟩⟩⟩
          have p13 := p2.trans p3
          obtain ⟨p, vs, ev, sq, z⟩ := RV.mono p1.rh p13 _ _ r1
          refine ⟨p, vs, ev, SqT.of sq, fun hw => ?_, fun hw p4 hp => ?_⟩
          · refine q H3 m3 _ (p1.trans p13) ⟨p, vs, rfl, sq, ?_⟩
            rw [← z.length] at hw
            rw [cut_whole hw.1 hw.2]
            exact z
          · have pl := Post.laid (o := .tup (cutV vs a b)) p3.rh hp
            exact q _ m3 _ ((p1.trans p13).trans pl) ⟨p4, _, rfl, upd_same, cut_ok (RVs.mono p3.rh pl _ _ z)⟩
        · cases e
      · cases e
    · cases e
/-- xs[a:b], a list: a new one -/
def dSlL (f : Den) (lo hi : ODen) : LDen := fun env h => match f env h with
  | some (d, h1) => (match lo env h1 with
    | some (a, h2) => (match hi env h2 with
      | some (b, h3) => (match listOf d h3 with
        | some l => some (cutD l a b, h3)
        | none => none)
      | none => none)
    | none => none)
  | _ => none
theorem xl_slL {X : Cx} {e : Expr} {lo hi : Option Expr} {f : Den} {fl fh : ODen} {p2 pos : Pos} (he : XE X e f) (hl : XO X lo fl) (hu : XO X hi fh) : XL X (.Subscript e (.Slice lo hi none p2) pos) (dSlL f fl fh) :=
  PEw (pe_slice sl_list he hl hu) fun σ H Q ⟨N, env, m, h, d, h', g, e, q⟩ => by
    unfold dSlL at e
    split at e
    · rename_i d h1 e1
      split at e
      · rename_i a h2 e2
        split at e
        · rename_i b h3 e3
          split at e
          · rename_i l e4
            cases e
            refine ⟨N, env, m, h, _, h1, g, e1, fun H1 m1 v p1 r1 => ⟨N, env, m1, h1, a, h2, g.mono p1, e2, fun H2 m2 p2 => ⟨N, env, m2, h2, b, _, (g.mono p1).mono p2, e3, fun H3 m3 p3 => ?_⟩⟩⟩
            have p13 := p2.trans p3
            obtain ⟨p, vs, ev, sq, z⟩ := listOf_ok p3.rh (RV.mono p1.rh p13 _ _ r1) e4
            refine ⟨p, vs, ev, sq, fun p4 hp => ?_⟩
            have p03 := p1.trans p13
            exact q _ m3 p4 _ (p03.was hp) (p3.rh.notin hp) upd_same (p03.hide hp) (RVs.hide p3.rh hp (cut_ok z))
          · cases e
        · cases e
      · cases e
    · cases e
end Dn

set_option Elab.async false
set_option linter.all false
set_option maxRecDepth 100000
set_option maxHeartbeats 1000000
/-! Dn: writes, methods of lists, built-in functions. -/
namespace Dn
open PySem PySem.Spec PyProof.Rows L2

/-! ### an owned object is changed -/
theorem Post.setO {K : PySem.W.Frag} {N : Addr → Prop} {H : Hp} {m : List Addr} {h : HH} {n : Nat} {a : Addr} {u : HO} {ob : O} (rh : RH K N H m h) (hm : m[n]? = some a) (nf : ∀ o u, H a ≠ some (.frz o u))
    (ro : (∀ d v, RV K N H m d v → RV K N (upd H a u) m d v) → RO K N (upd H a u) m a ob) : Post K N H m (upd H a u) m (h.set n ob) := by
  have ha : a ∈ m := List.mem_of_getElem? hm
  have ne : ∀ b, b ∉ m → b ≠ a := fun b hb z => hb (z ▸ ha)
  have mv : ∀ d v, RV K N H m d v → RV K N (upd H a u) m d v := RV.move2 ⟨[], by simp⟩ (fun b vs e n z => ⟨by rw [upd_ne (ne b n)]; exact e, n, z⟩)
    (fun b xs e => by rw [upd_ne (ne b (rh.notup (.inl e)))]; exact e) fun b o xs e => by rw [upd_ne (ne b (rh.nofrz e))]; exact e
  refine ⟨⟨[], by simp⟩, fun b o e n => by rw [upd_ne (ne b n)]; exact e, fun b z n => absurd z n, fun b o e => ?_, ⟨by simp [rh.len], rh.nd, fun b z => ?_, fun k o b e1 e2 => ?_⟩, fun b o u e => by
    have hb : b ≠ a := fun z => nf o u (by rw [← z]; exact e)
    rw [upd_ne hb]; exact e⟩
  · by_cases hb : b = a
    · subst hb; exact ⟨_, upd_same⟩
    · exact ⟨o, by rw [upd_ne hb]; exact e⟩
  · obtain ⟨o, e⟩ := rh.hid b z
    by_cases hb : b = a
    · subst hb; exact ⟨_, upd_same⟩
    · exact ⟨o, by rw [upd_ne hb]; exact e⟩
  · by_cases hk : n = k
    · subst hk
      have hl : n < h.length := by have := (List.getElem?_eq_some_iff.mp e1).1; simpa using this
      rw [List.getElem?_set_self hl] at e1
      rw [hm] at e2
      cases e1; cases e2
      exact ro mv
    · rw [List.getElem?_set_ne hk] at e1
      have hb : b ≠ a := fun z => by
        subst z
        obtain ⟨h1, e3⟩ := List.getElem?_eq_some_iff.mp hm
        obtain ⟨h2, e4⟩ := List.getElem?_eq_some_iff.mp e2
        exact hk ((List.getElem_inj rh.nd).mp (e3.trans e4.symm))
      exact ro_map mv (fun o' z => by rw [upd_ne hb]; exact z) o (rh.at_ k o b e1 e2)
theorem Post.setL {K : PySem.W.Frag} {N : Addr → Prop} {H : Hp} {m : List Addr} {h : HH} {n : Nat} {a : Addr} {l : List D} {vs us : List V} (rh : RH K N H m h) (hm : m[n]? = some a) (ha : H a = some (.lst us)) (r : RVs K N H m l vs) : Post K N H m (upd H a (.lst vs)) m (h.set n (.lst l)) :=
  Post.setO rh hm (fun o u e => by rw [ha] at e; cases e) fun mv => ⟨vs, upd_same, RVs.map mv l vs r⟩

/-! ### methods -/
def dMeth (chk : D → HH → Bool) (p : Prim) (f : Den) (a : LDen) : Den := fun env h => match f env h with
  | some (d, h1) => if chk d h1 = true then (match a env h1 with
    | some (ds, h2) => p (d :: ds) h2
    | none => none) else none
  | none => none
def TyOk (K : PySem.W.Frag) (T : String) (chk : D → HH → Bool) : Prop := ∀ N H m h d v, RH K N H m h → RV K N H m d v → chk d h = true → tyV K T v H
def R1l (r : V → List V → Hp → VK → Prop) : List V → Hp → VK → Prop := fun vs H Q => ∃ x xs, vs = x :: xs ∧ r x xs H Q
section
variable {X : Cx} {pos : Pos}
theorem xe_bm {o e : Expr} {es : List Expr} {f : Den} {fs : LDen} {name : Str} {apos cpos : Pos} {T id : String} {r : V → List V → Hp → VK → Prop} {chk : D → HH → Bool} {p : Prim} (pa : PlainAttrs T) (slot : Slot T name id) (hty : typeOf (.builtin id) = pure (.type "method_descriptor")) (hm : MtR X id r)
    (ck : TyOk X.K T chk) (pr : PrimR X.K (R1l r) p) (ho : XE X o f) (ha : XA X (e :: es) fs)
    (hbase : attributeBase o name X.env (eval o X.env) = eval o X.env := by rfl)
    (hfew : ((backTo cpos (starEach (e :: es) X.env)).all (fun x => !x.1) && (backToKw cpos (keywordEach [] X.env)).all (fun x => x.1.isSome)
      && decide ((e :: es).length + ([] : List Keyword).length + (if ([] : List Keyword).isEmpty then 0 else 1) < 30)) = true := by rfl)
    (hline : (apos.endLine == cpos.line) = true := by rfl) (hs : starEach (e :: es) X.env = (false, eval e X.env) :: starEach es X.env := by rfl) (hplain : (backTo cpos (starEach es X.env)).any (·.1) = false := by rfl) :
    XE X (.Call (.Attribute o name apos) (e :: es) [] cpos) (dMeth chk p f fs) :=
  PEw (pe_bm pa slot hty hm ho ha hbase hfew hline hs hplain) fun σ H Q ⟨N, env, m, h, d, h', g, e, q⟩ => by
    unfold dMeth at e
    split at e
    · rename_i d1 h1 e1
      split at e
      · rename_i hc
        split at e
        · rename_i ds h2 e2
          refine ⟨N, env, m, h, d1, h1, g, e1, fun H1 m1 v p1 r1 => ⟨ck N H1 m1 h1 d1 v p1.rh r1 hc, N, env, m1, h1, ds, h2, g.mono p1, e2, fun H2 m2 vs p2 r2 => ?_⟩⟩
          obtain ⟨x, xs, ee, z⟩ := pr N (d1 :: ds) (v :: vs) H2 m2 h2 d h' Q p2.rh ⟨v, vs, rfl, RV.mono p1.rh p2 _ _ r1, r2⟩ e fun H3 m3 w p3 r3 => q H3 m3 w ((p1.trans p2).trans p3) r3
          cases ee
          exact z
        · cases e
      · cases e
    · cases e
theorem xe_bm0 {o : Expr} {f : Den} {name : Str} {apos cpos : Pos} {T id : String} {r : V → List V → Hp → VK → Prop} {chk : D → HH → Bool} {p : Prim} (pa : PlainAttrs T) (slot : Slot T name id) (hty : typeOf (.builtin id) = pure (.type "method_descriptor")) (hm : MtR X id r)
    (ck : TyOk X.K T chk) (pr : PrimR X.K (R1l r) p) (ho : XE X o f)
    (hbase : attributeBase o name X.env (eval o X.env) = eval o X.env := by rfl) (hline : (apos.endLine == cpos.line) = true := by rfl) : XE X (.Call (.Attribute o name apos) [] [] cpos) (dMeth chk p f dNil) :=
  PEw (pe_bm0 pa slot hty hm ho hbase hline) fun σ H Q ⟨N, env, m, h, d, h', g, e, q⟩ => by
    unfold dMeth at e
    split at e
    · rename_i d1 h1 e1
      split at e
      · rename_i hc
        unfold dNil at e
        refine ⟨N, env, m, h, d1, h1, g, e1, fun H1 m1 v p1 r1 => ⟨ck N H1 m1 h1 d1 v p1.rh r1 hc, ?_⟩⟩
        obtain ⟨x, xs, ee, z⟩ := pr N [d1] [v] H1 m1 h1 d h' Q p1.rh (RVs.one r1) e fun H3 m3 w p3 r3 => q H3 m3 w (p1.trans p3) r3
        cases ee
        exact z
      · cases e
    · cases e
end
def isL (d : D) (h : HH) : Bool := (listOf d h).isSome
theorem ty_list {K : PySem.W.Frag} : TyOk K "list" isL := fun N H m h d v rh r e => by
  unfold isL at e
  cases hl : listOf d h with
  | none => rw [hl] at e; cases e
  | some l =>
    obtain ⟨a, vs, ev, sq, _⟩ := listOf_ok rh r hl
    subst ev
    exact .inl ⟨rfl, vs, sq⟩
def pAppend : Prim := fun ds h => match ds with
  | [.ref n, d] => (match h[n]? with
    | some (.lst l) => if l.length < 1000000 then frcD d fun d => frcL (l ++ [d]) fun l' => frcL (h.set n (.lst l')) fun h' => some (.non, h') else none
    | _ => none)
  | _ => none
theorem pr_append {K : PySem.W.Frag} : PrimR K (R1l rAppend) pAppend := fun N ds vs H m h d h' Q rh rv e q => by
  unfold pAppend at e
  split at e
  · split at e
    · rename_i l e1
      split at e
      · rename_i hl
        rw [frcD_eq, frcL_eq, frcL_eq] at e
        cases e
        obtain ⟨x, y, ev, r1, r2⟩ := rvs2 rv
        obtain ⟨a, us, ex, hm, e3, z⟩ := rh.ref_lst r1 e1
        exact ⟨x, [y], ev, a, us, y, ex, rfl, e3, by rw [← z.length]; exact line_of (Nat.le_of_lt hl), q _ m .non (Post.setL rh hm e3 (RVs.append z (RVs.one r2))) rfl⟩
      · cases e
    · cases e
  · cases e
def pPop : Prim := fun ds h => match ds with
  | [.ref n] => (match h[n]? with
    | some (.lst l) => (match l[l.length - 1]? with
      | some d => some (d, h.set n (.lst l.dropLast))
      | none => none)
    | _ => none)
  | _ => none
theorem RVs.dropLast {K : PySem.W.Frag} {N : Addr → Prop} {H : Hp} {m : List Addr} {l : List D} {vs : List V} (r : RVs K N H m l vs) : RVs K N H m l.dropLast vs.dropLast := by
  rw [List.dropLast_eq_take, List.dropLast_eq_take, r.length]
  exact r.take _
theorem pr_pop {K : PySem.W.Frag} : PrimR K (R1l rPop) pPop := fun N ds vs H m h d h' Q rh rv e q => by
  unfold pPop at e
  split at e
  · split at e
    · rename_i l e1
      split at e
      · rename_i d' e2
        cases e
        obtain ⟨x, ev, r1⟩ := rvs1 rv
        obtain ⟨a, us, ex, hm, e3, z⟩ := rh.ref_lst r1 e1
        obtain ⟨y, e4, r4⟩ := z.get e2
        rw [z.length] at e4
        have p := Post.setL rh hm e3 z.dropLast
        exact ⟨x, [], ev, a, us, y, ex, rfl, e3, e4, q _ m y p (RV.mono rh p _ _ r4)⟩
      · cases e
    · cases e
  · cases e
def pPopAt : Prim := fun ds h => match ds with
  | [.ref n, .int i] => (match h[n]? with
    | some (.lst l) => if l.length ≤ 1000000 then (match ixN l.length i with
      | some k => (match l[k]? with
        | some d => some (d, h.set n (.lst (l.eraseIdx k)))
        | none => none)
      | none => none) else none
    | _ => none)
  | _ => none
theorem pr_popAt {K : PySem.W.Frag} : PrimR K (R1l rPopAt) pPopAt := fun N ds vs H m h d h' Q rh rv e q => by
  unfold pPopAt at e
  split at e
  · rename_i n i
    split at e
    · rename_i l e1
      split at e
      · rename_i hlen
        split at e
        · rename_i k e2
          split at e
          · rename_i d' e3
            cases e
            obtain ⟨x, y, ev, r1, r2⟩ := rvs2 rv
            obtain ⟨a, us, ex, hm, e4, z⟩ := rh.ref_lst r1 e1
            obtain ⟨w, e5, r5⟩ := z.get e3
            have p := Post.setL rh hm e4 (z.eraseIdx k)
            obtain ⟨s1, s2, s3, s4⟩ := ixN_seq e2
            rw [z.length] at s1
            exact ⟨x, [y], ev, a, us, i, k, w, ex, by rw [show y = .int i from r2], e4, by omega, by omega, s1, e5, q _ m w p (RV.mono rh p _ _ r5)⟩
          · cases e
        · cases e
      · cases e
    · cases e
  · cases e
def pExtend : Prim := fun ds h => match ds with
  | [.ref n, d] => (match h[n]?, listIn d h with
    | some (.lst l), some l2 => if l.length + l2.length ≤ 1000000 then some (.non, h.set n (.lst (l ++ l2))) else none
    | _, _ => none)
  | _ => none
theorem pr_extend {K : PySem.W.Frag} : PrimR K (R1l rExtend) pExtend := fun N ds vs H m h d h' Q rh rv e q => by
  unfold pExtend at e
  split at e
  · split at e
    · rename_i l l2 e1 e2
      split at e
      · rename_i hl
        cases e
        obtain ⟨x, y, ev, r1, r2⟩ := rvs2 rv
        obtain ⟨a, us, ex, hm, e3, z⟩ := rh.ref_lst r1 e1
        obtain ⟨b, ws, ey, e4, z2⟩ := listIn_ok rh r2 e2
        exact ⟨x, [y], ev, a, b, us, ws, ex, by rw [ey], e3, e4, by rw [← z.length, ← z2.length]; exact sz1000 hl, q _ m .non (Post.setL rh hm e3 (RVs.append z z2)) rfl⟩
      · cases e
    · cases e
  · cases e
/-- xs.index(x), flat things -/
def ixF (x : D) : List D → Nat → Option Nat
  | [], _ => none
  | y :: r, k => if eqF y x = true then some k else ixF x r (k + 1)
theorem ixF_ok (x : D) : ∀ (l : List D) (k j : Nat), ixF x l k = some j → ∃ i, j = k + i ∧ (∃ y, l[i]? = some y ∧ eqF y x = true) ∧ ∀ n y, n < i → l[n]? = some y → eqF y x = false
  | [], k, j, e => by cases e
  | y :: r, k, j, e => by
    unfold ixF at e
    split at e
    · rename_i he
      cases e
      exact ⟨0, rfl, ⟨y, by simp, he⟩, fun n _ hn => absurd hn (Nat.not_lt_zero n)⟩
    · rename_i he
      obtain ⟨i, e1, ⟨z, e2, e3⟩, h4⟩ := ixF_ok x r (k + 1) j e
      refine ⟨i + 1, by omega, ⟨z, by simpa using e2, e3⟩, fun n w hn hw => ?_⟩
      cases n with
      | zero => simp at hw; subst hw; simpa using he
      | succ n => exact h4 n w (by omega) (by simpa using hw)
def pIndex : Prim := fun ds h => match ds with
  | [s, x] => (match listOf s h with
    | some l => if flatD x = true ∧ l.all flatD = true then (match ixF x l 0 with
      | some j => some (.int j, h)
      | none => none) else none
    | none => none)
  | _ => none
theorem pr_index {K : PySem.W.Frag} : PrimR K (R1l (rIndex K)) pIndex := fun N ds vs H m h d h' Q rh rv e q => by
  unfold pIndex at e
  split at e
  · split at e
    · rename_i l e1
      split at e
      · rename_i hf
        split at e
        · rename_i j e2
          cases e
          obtain ⟨x, y, ev, r1, r2⟩ := rvs2 rv
          obtain ⟨a, us, ex, sq, z⟩ := listOf_ok rh r1 e1
          obtain ⟨i, e3, ⟨dz, e4, e5⟩, h6⟩ := ixF_ok _ _ _ _ e2
          have e3 : j = i := by omega
          subst e3
          obtain ⟨w, e7, r7⟩ := z.get e4
          have fl : ∀ (n : Nat) (dn : D), l[n]? = some dn → flatD dn = true := fun n dn hn => List.all_eq_true.mp hf.2 dn (List.mem_of_getElem? hn)
          refine ⟨x, [y], ev, a, us, y, j, w, ex, rfl, sq, (flat_ok r2 hf.1).1, (flats_ok r2 hf.1 z hf.2).1, e7, ?_, fun n z' hn hz => ?_, q H m _ (Post.refl rh) rfl⟩
          · rw [(flat_ok r7 (fl j dz e4)).2 _ _ r2 hf.1]; exact e5
          · obtain ⟨dn, e8, r8⟩ := z.getV hz
            rw [(flat_ok r8 (fl n dn e8)).2 _ _ r2 hf.1]; exact h6 n dn hn e8
        · cases e
      · cases e
    · cases e
  · cases e

/-! ### o[i] = v -/
def gSubD (f g : Den) : GDen := fun d env h => match f env h with
  | some (.ref n, h1) => (match g env h1 with
    | some (.int i, h2) => (match h2[n]? with
      | some (.lst l) => (match ixN l.length i with
        | some j => some (env, h2.set n (.lst (l.set j d)))
        | none => none)
      | _ => none)
    | _ => none)
  | _ => none
theorem xg_sub {X : Cx} {o i : Expr} {f g : Den} {pos : Pos} (ho : XE X o f) (hi : XE X i g)
    (ha : ∀ v, assign (.Subscript o i pos) X.env v = (do
      let ov ← holding [v] (eval o X.env)
      let iv ← holding [v, ov] (eval i X.env)
      standAt pos
      holding [v, ov, iv] (setItem ov iv v)
      release [v, ov, iv] []) := by intro _; rfl) : XG X (.Subscript o i pos) (gSubD f g) :=
  PGw (pg_sub ho hi set_list ha) fun v σ H Q ⟨N, env, m, h, d, env', h', gg, r, e, q⟩ => by
    unfold gSubD at e
    split at e
    · rename_i n h1 e1
      split at e
      · rename_i i' h2 e2
        split at e
        · rename_i l e3
          split at e
          · rename_i j e4
            cases e
            refine ⟨N, env, m, h, _, h1, gg, e1, fun H1 m1 x p1 r1 => ⟨N, env, m1, h1, _, h2, gg.mono p1, e2, fun H2 m2 y p2 r2 => ?_⟩⟩
            obtain ⟨a, us, ex, hm, e5, z⟩ := p2.rh.ref_lst (RV.mono p1.rh p2 _ _ r1) e3
            have p3 := Post.setL p2.rh hm e5 (z.set j (RV.mono gg.rh (p1.trans p2) _ _ r))
            refine ⟨a, us, i', j, ex, r2, e5, by rw [← z.length]; exact e4, ?_⟩
            exact q σ _ m2 ((p1.trans p2).trans p3) (RE.mono gg.rh ((p1.trans p2).trans p3) gg.re)
          · cases e
        · cases e
      · cases e
    · cases e

/-! ### built-in functions -/
section
variable {X : Cx} {pos : Pos} {x : Str} {p : Pos}
theorem xe_callB {e : Expr} {es : List Expr} {fs : LDen} {id : String} {r : List V → Hp → VK → Prop} {pm : Prim} (hc : CallR X (.builtin id) r) (pr : PrimR X.K r pm) (hg : Gl X x) (hm : X.mg x = none) (hv : bootBuiltins x = some (.builtin id)) (ha : XA X (e :: es) fs) (hn : x ≠ "__name__" := by decide) (hdb : (x == ("__debug__" : Str)) = false := by decide)
    (he : starEach (e :: es) X.env = (false, eval e X.env) :: starEach es X.env := by rfl) (hpl : (backTo pos (starEach es X.env)).any (·.1) = false := by rfl) : XE X (.Call (.Name x p) (e :: es) [] pos) (dApp pm fs) :=
  PEw (pe_callB hc hg hm hv ha hn hdb he hpl) fun σ H Q q => app_ok pr q
theorem xe_callTy {e : Expr} {es : List Expr} {fs : LDen} {T : String} {r : List V → Hp → VK → Prop} {pm : Prim} (hc : CallR X (.type T) r) (pr : PrimR X.K r pm) (hg : Gl X x) (hm : X.mg x = none) (hv : bootBuiltins x = some (.type T)) (ha : XA X (e :: es) fs) (hn : x ≠ "__name__" := by decide) (hdb : (x == ("__debug__" : Str)) = false := by decide)
    (he : starEach (e :: es) X.env = (false, eval e X.env) :: starEach es X.env := by rfl) (hpl : (backTo pos (starEach es X.env)).any (·.1) = false := by rfl) : XE X (.Call (.Name x p) (e :: es) [] pos) (dApp pm fs) :=
  PEw (pe_callTy hc hg hm hv ha hn hdb he hpl) fun σ H Q q => app_ok pr q
theorem xl_callB {e : Expr} {es : List Expr} {fs : LDen} {id : String} {r : List V → Hp → VK → Prop} {pm : LPrim} (hc : CallR X (.builtin id) r) (pr : LPrimR X.K r pm) (hg : Gl X x) (hm : X.mg x = none) (hv : bootBuiltins x = some (.builtin id)) (ha : XA X (e :: es) fs) (hn : x ≠ "__name__" := by decide) (hdb : (x == ("__debug__" : Str)) = false := by decide)
    (he : starEach (e :: es) X.env = (false, eval e X.env) :: starEach es X.env := by rfl) (hpl : (backTo pos (starEach es X.env)).any (·.1) = false := by rfl) : XL X (.Call (.Name x p) (e :: es) [] pos) (dLApp pm fs) :=
  PEw (pe_callB hc hg hm hv ha hn hdb he hpl) fun σ H Q q => lapp_ok pr q
theorem xl_callTy {e : Expr} {es : List Expr} {fs : LDen} {T : String} {r : List V → Hp → VK → Prop} {pm : LPrim} (hc : CallR X (.type T) r) (pr : LPrimR X.K r pm) (hg : Gl X x) (hm : X.mg x = none) (hv : bootBuiltins x = some (.type T)) (ha : XA X (e :: es) fs) (hn : x ≠ "__name__" := by decide) (hdb : (x == ("__debug__" : Str)) = false := by decide)
    (he : starEach (e :: es) X.env = (false, eval e X.env) :: starEach es X.env := by rfl) (hpl : (backTo pos (starEach es X.env)).any (·.1) = false := by rfl) : XL X (.Call (.Name x p) (e :: es) [] pos) (dLApp pm fs) :=
  PEw (pe_callTy hc hg hm hv ha hn hdb he hpl) fun σ H Q q => lapp_ok pr q
theorem xl_op {op : Operator} {r : R2} {pm : LPrim} {a b : Expr} {f g : Den} {pos : Pos} (ho : OpR X (binaryOp op) r) (pr : LPrimR X.K (R2l r) pm) (ha : XE X a f) (hb : XE X b g) : XL X (.BinOp a op b pos) (dLApp pm (dCons f (dCons g dNil))) :=
  PEw (pe_op ho ha hb) fun σ H Q q => by
    obtain ⟨N, env, m, h, ds, h', gg, e, q'⟩ := lapp_ok pr q
    unfold dCons at e
    split at e
    · rename_i d h1 e1
      unfold dNil at e
      split at e
      · rename_i ds' h2 e2
        split at e2
        · rename_i d2 h3 e3
          simp only [Option.some.injEq, Prod.mk.injEq] at e2 e
          obtain ⟨ea, eb⟩ := e2
          obtain ⟨ec, ed⟩ := e
          subst ea eb ec ed
          refine ⟨N, env, m, h, d, h1, gg, e1, fun H1 m1 x p1 r1 => ?_⟩
          refine ⟨N, env, m1, h1, d2, _, gg.mono p1, e3, fun H2 m2 y p2 r2 => ?_⟩
          obtain ⟨x', y', ee, z⟩ := q' H2 m2 [x, y] (p1.trans p2) ⟨x, [y], rfl, RV.mono p1.rh p2 d x r1, y, [], rfl, r2, rfl⟩
          simp only [List.cons.injEq, and_true] at ee
          obtain ⟨ea, eb⟩ := ee
          subst ea eb
          exact z
        · cases e2
      · cases e
    · cases e
end
def pAbs : Prim := fun ds h => match ds with
  | [.int i] => some (.int (if i < 0 then -i else i), h)
  | _ => none
theorem pr_abs {K : PySem.W.Frag} : PrimR K (fun xs H Q => ∃ i, xs = [.int i] ∧ Q (.int (if i < 0 then -i else i)) H) pAbs := fun N ds vs H m h d h' Q rh rv e q => by
  unfold pAbs at e
  split at e
  · cases e
    obtain ⟨x, e1, r1⟩ := rvs1 rv
    have r1 : x = .int _ := r1
    subst r1
    exact ⟨_, e1, q H m _ (Post.refl rh) rfl⟩
  · cases e
def pInt : Prim := fun ds h => match ds with
  | [.int i] => some (.int i, h)
  | [.bl b] => some (.int (if b then 1 else 0), h)
  | _ => none
theorem pr_int {K : PySem.W.Frag} : PrimR K (fun xs H Q => (∃ i, xs = [.int i] ∧ Q (.int i) H) ∨ ∃ k, xs = [.bl k] ∧ Q (.int (if k then 1 else 0)) H) pInt := fun N ds vs H m h d h' Q rh rv e q => by
  unfold pInt at e
  split at e
  · cases e
    obtain ⟨x, e1, r1⟩ := rvs1 rv
    have r1 : x = .int _ := r1
    subst r1
    exact .inl ⟨_, e1, q H m _ (Post.refl rh) rfl⟩
  · cases e
    obtain ⟨x, e1, r1⟩ := rvs1 rv
    have r1 : x = .bl _ := r1
    subst r1
    exact .inr ⟨_, e1, q H m _ (Post.refl rh) rfl⟩
  · cases e
def pMax2 : Prim := fun ds h => match ds with
  | [.int i, .int j] => some (.int (if j > i then j else i), h)
  | _ => none
theorem pr_max2 {K : PySem.W.Frag} : PrimR K (fun xs H Q => ∃ i j, xs = [.int i, .int j] ∧ Q (.int (if j > i then j else i)) H) pMax2 := fun N ds vs H m h d h' Q rh rv e q => by
  unfold pMax2 at e
  split at e
  · cases e
    obtain ⟨x, y, e1, r1, r2⟩ := rvs2 rv
    have r1 : x = .int _ := r1
    have r2 : y = .int _ := r2
    subst r1 r2
    exact ⟨_, _, e1, q H m _ (Post.refl rh) rfl⟩
  · cases e
def pMin2 : Prim := fun ds h => match ds with
  | [.int i, .int j] => some (.int (if j < i then j else i), h)
  | _ => none
theorem pr_min2 {K : PySem.W.Frag} : PrimR K (fun xs H Q => ∃ i j, xs = [.int i, .int j] ∧ Q (.int (if j < i then j else i)) H) pMin2 := fun N ds vs H m h d h' Q rh rv e q => by
  unfold pMin2 at e
  split at e
  · cases e
    obtain ⟨x, y, e1, r1, r2⟩ := rvs2 rv
    have r1 : x = .int _ := r1
    have r2 : y = .int _ := r2
    subst r1 r2
    exact ⟨_, _, e1, q H m _ (Post.refl rh) rfl⟩
  · cases e
/-- len -/
theorem call_lenX {X : Cx} : CallR X (.builtin "len") (fun xs H Q => (∃ x n, xs = [x] ∧ LenV X.K x H n ∧ Q (.int n) H) ∨ (∃ a kvs, xs = [.ref a] ∧ Rd H a (.dK kvs) ∧ Q (.int kvs.length) H)) := by
  intro pins s σ H xs us Q I r h
  rcases h with h | ⟨a, kvs, rfl, hd, q⟩
  · exact call_len pins s σ H xs us Q I r h
  · obtain ⟨u, rfl, rx⟩ := vals1 r
    cases rx
    exact d_len I hd fun t s' I' => ⟨.int kvs.length, H, I', ⟨t, rfl⟩, q⟩
def pLenD : Prim := fun ds h => match ds with
  | [.str x] => if x.length ≤ 1000000 then some (.int x.length, h) else none
  | [d] => (match seqOf d h with
    | some l => some (.int l.length, h)
    | none => (match d with
      | .ref n => (match h[n]? with
        | some (.dK l) => some (.int l.length, h)
        | some (.lkK l) => some (.int l.length, h)
        | _ => none)
      | _ => none))
  | _ => none
theorem paired_len {α β : Type} {F : α → β → Prop} : ∀ {l : List α} {l2 : List β}, Paired F l l2 → l.length = l2.length
  | _, _, .nil => rfl
  | _, _, .cons _ t => by simp [paired_len t]
theorem pr_len {K : PySem.W.Frag} : PrimR K (fun xs H Q => (∃ x n, xs = [x] ∧ LenV K x H n ∧ Q (.int n) H) ∨ (∃ a kvs, xs = [.ref a] ∧ Rd H a (.dK kvs) ∧ Q (.int kvs.length) H)) pLenD := fun N ds vs H m h d h' Q rh rv e q => by
  unfold pLenD at e
  split at e
  · split at e
    · rename_i x hx
      cases e
      obtain ⟨v, e1, r1⟩ := rvs1 rv
      have r1 : v = .str x := r1
      subst r1
      exact .inl ⟨_, _, e1, (show LenV K (.str x) H x.length from ⟨sz1000 hx, rfl⟩), q H m _ (Post.refl rh) rfl⟩
    · cases e
  · rename_i d1 hne
    split at e
    · rename_i l e1
      cases e
      obtain ⟨v, e2, r1⟩ := rvs1 rv
      obtain ⟨a, us, ev, sq, z⟩ := seqOf_ok rh r1 e1
      subst ev
      refine .inl ⟨_, us.length, e2, ?_, ?_⟩
      · rcases sq with sq | sq
        · exact .inl ⟨us, sq, rfl⟩
        · exact .inr ⟨us, sq, rfl⟩
      · rw [← z.length]
        exact q H m _ (Post.refl rh) rfl
    · split at e
      · rename_i n _
        split at e
        · rename_i l e1
          cases e
          obtain ⟨v, e2, a, e3, e4⟩ := rvs1 rv
          obtain ⟨ws, e5, z⟩ := rh.at_ n _ a e1 e3
          subst e4
          refine .inr ⟨a, ws, e2, .inl e5, ?_⟩
          rw [← paired_len z]
          exact q H m _ (Post.refl rh) rfl
        · rename_i l e1
          cases e
          obtain ⟨v, e2, a, e3, e4⟩ := rvs1 rv
          obtain ⟨ob, ws, e5, z⟩ := rh.at_ n _ a e1 e3
          subst e4
          refine .inr ⟨a, ws, e2, .inr ⟨ob, e5⟩, ?_⟩
          rw [← paired_len z]
          exact q H m _ (Post.refl rh) rfl
        · cases e
      · cases e
  · cases e
/-- ints of a sequence -/
def intsOf : List D → Option (List Int)
  | [] => some []
  | .int i :: r => (intsOf r).map (i :: ·)
  | _ => none
theorem intsOf_ok : ∀ {l : List D} {ns : List Int}, intsOf l = some ns → l = ns.map D.int
  | [], ns, e => by cases e; rfl
  | d :: r, ns, e => by
    cases d <;> simp only [intsOf, Option.map_eq_some_iff, reduceCtorEq] at e
    obtain ⟨ms, e1, e2⟩ := e
    subst e2
    rw [intsOf_ok e1]; rfl
theorem cr_sumT {X : Cx} (hc : X.calm = true) : CallR X (.builtin "sum") (fun vs H Q => rSum X.K vs H Q ∨ ∃ (a : Addr) (ns : List Int), vs = [V.ref a] ∧ SqT X.K H a (ns.map V.int) ∧ Q (.int ns.sum) H) := by
  intro pins s σ H vs us Q I r h
  rcases h with h | ⟨a, ns, rfl, hs, q⟩
  · exact cr_sum hc pins s σ H vs us Q I r h
  · obtain ⟨its, rv, hl, _⟩ := I.tuple hs
    rw [Vals.ref1 r]
    have hi := rv.ints
    obtain ⟨xs, hx⟩ := hi.allInts.items
    have hn : numsOf its.toArray.toList = ns := by rw [show its.toArray.toList = its from rfl, hi.numsOf]
    rw [hx] at hl hn
    rw [nums_intItems] at hn
    refine PySem.W.ktm_sumG (I.ok.hd hc) hl fun h' tk t' hk => ?_
    rw [preSum_eq, List.take_of_length_le (by simp), hn]
    exact ⟨.int _, H, I.kept hk, ⟨_, rfl⟩, q⟩
def pSum : Prim := fun ds h => match ds with
  | [d] => (match seqOf d h with
    | some l => (match intsOf l with
      | some ns => some (.int ns.sum, h)
      | none => none)
    | none => none)
  | _ => none
theorem pr_sum {K : PySem.W.Frag} : PrimR K (fun vs H Q => rSum K vs H Q ∨ ∃ (a : Addr) (ns : List Int), vs = [V.ref a] ∧ SqT K H a (ns.map V.int) ∧ Q (.int ns.sum) H) pSum := fun N ds vs H m h d h' Q rh rv e q => by
  unfold pSum at e
  split at e
  · split at e
    · rename_i l e1
      split at e
      · rename_i ns e2
        cases e
        obtain ⟨v, e3, r1⟩ := rvs1 rv
        obtain ⟨a, us, ev, sq, z⟩ := seqOf_ok rh r1 e1
        have eu := z.ints (intsOf_ok e2)
        subst ev eu
        rcases sq with sq | sq
        · exact .inl ⟨a, ns, e3, sq, q H m _ (Post.refl rh) rfl⟩
        · exact .inr ⟨a, ns, e3, sq, q H m _ (Post.refl rh) rfl⟩
      · cases e
    · cases e
  · cases e
/-- min, max of a list of ints -/
def minI : Int → List Int → Int
  | a, [] => a
  | a, b :: r => minI (if b < a then b else a) r
def maxI : Int → List Int → Int
  | a, [] => a
  | a, b :: r => maxI (if a < b then b else a) r
theorem minI_ok : ∀ (l : List Int) (a : Int), minI a l ∈ a :: l ∧ ∀ y ∈ a :: l, minI a l ≤ y
  | [], a => ⟨by simp [minI], by simp [minI]⟩
  | b :: r, a => by
    obtain ⟨h1, h2⟩ := minI_ok r (if b < a then b else a)
    unfold minI
    refine ⟨?_, fun y hy => ?_⟩
    · rcases List.mem_cons.mp h1 with h | h
      · rw [h]; split <;> simp
      · simp [h]
    · have h0 := h2 _ List.mem_cons_self
      rcases List.mem_cons.mp hy with h | h
      · subst h; revert h0; generalize minI (if b < y then b else y) r = w; split <;> omega
      · rcases List.mem_cons.mp h with h | h
        · subst h; revert h0; generalize minI (if y < a then y else a) r = w; split <;> omega
        · exact h2 y (List.mem_cons_of_mem _ h)
theorem maxI_ok : ∀ (l : List Int) (a : Int), maxI a l ∈ a :: l ∧ ∀ y ∈ a :: l, y ≤ maxI a l
  | [], a => ⟨by simp [maxI], by simp [maxI]⟩
  | b :: r, a => by
    obtain ⟨h1, h2⟩ := maxI_ok r (if a < b then b else a)
    unfold maxI
    refine ⟨?_, fun y hy => ?_⟩
    · rcases List.mem_cons.mp h1 with h | h
      · rw [h]; split <;> simp
      · simp [h]
    · have h0 := h2 _ List.mem_cons_self
      rcases List.mem_cons.mp hy with h | h
      · subst h; revert h0; generalize maxI (if y < b then b else y) r = w; split <;> omega
      · rcases List.mem_cons.mp h with h | h
        · subst h; revert h0; generalize maxI (if a < y then y else a) r = w; split <;> omega
        · exact h2 y (List.mem_cons_of_mem _ h)
/-- min, max of a list of data that can be compared -/
def rMinDt (f : PyData → List PyData → PyData) (K : PySem.W.Frag) : List V → Hp → VK → Prop := fun vs H Q => ∃ (a : Addr) (xs : List V) (x : PyData) (ps : List PyData), vs = [V.ref a] ∧ SqL K H a xs ∧ DpAll K H xs (x :: ps) ∧ PySem.W.AlikeAll (x :: ps) ∧ PyData.depthAll (x :: ps) ≤ 64 ∧
  ∀ (i : Nat) (v : V), xs[i]? = some v → (x :: ps)[i]? = some (f x ps) → Q v H
section
variable {X : Cx}
theorem dt_fin {pins : List (Addr × Obj)} {σ : L2.St} {H : Hp} {s : Shared} {Q : VK} {xs : List V} {its : List Value} {x p0 : PyData} {ps : List PyData} {as bs : List Addr} (I : Inv X pins σ H s) (rv : Vals xs its) (hr : ReadsAll s.heap its.toArray.toList (x :: ps) as)
    (q : ∀ (i : Nat) (v : V), xs[i]? = some v → (x :: ps)[i]? = some p0 → Q v H) {i : Nat} {v : Value} {h' : Heap} {tk : Nat} (hv : its.toArray[i]? = some v) (r : Reads h' v p0 bs) (hk : ∀ b o, s.heap.get? b = some o → h'.get? b = some o) : EP X pins σ Q v { s with heap := h', toks := tk } := by
  obtain ⟨bs2, r2, hl, _, _⟩ := PySem.W.readsAll_atA hr i v hv
  have e := (Reads.unique (Reads.keeps hk r2) _ _ r).1
  have hi : i < xs.length := by
    rw [rv.length]
    have := (Array.getElem?_eq_some_iff.mp hv).1
    simpa using this
  obtain ⟨u, hu, ru⟩ := rv.get (List.getElem?_eq_getElem hi)
  have : u = v := Option.some.inj ((show its[i]? = some u from hu).symm.trans (by simpa using hv))
  subst this
  refine ⟨xs[i], H, I.kept hk, ru, q i _ (List.getElem?_eq_getElem hi) ?_⟩
  rw [List.getElem?_eq_getElem hl, ← e, List.getD_eq_getElem?_getD, List.getElem?_eq_getElem hl]
  rfl
theorem cr_minDt (hc : X.calm = true) (hu : X.A.units + 100 < cLine) : CallR X (.builtin "min") (rMinDt PySem.W.minD X.K) := by
  intro pins s σ H vs us Q I r h
  obtain ⟨a, xs, x, ps, rfl, hs, hd, ha, hdep, q⟩ := h
  obtain ⟨its, rv, hl, _⟩ := I.list hs
  rw [Vals.ref1 r]
  obtain ⟨as, hr⟩ := Dp.readsAll I _ _ its hd rv
  exact PySem.W.min_list_data (vs := its.toArray) (I.ok.hd hc) hl.isList (by exact hr) ha (by omega) fun i v h' tk bs hv r hk => dt_fin I rv (by exact hr) q hv r hk
theorem cr_maxDt (hc : X.calm = true) (hu : X.A.units + 100 < cLine) : CallR X (.builtin "max") (rMinDt PySem.W.maxD X.K) := by
  intro pins s σ H vs us Q I r h
  obtain ⟨a, xs, x, ps, rfl, hs, hd, ha, hdep, q⟩ := h
  obtain ⟨its, rv, hl, _⟩ := I.list hs
  rw [Vals.ref1 r]
  obtain ⟨as, hr⟩ := Dp.readsAll I _ _ its hd rv
  exact PySem.W.max_list_data (vs := its.toArray) (I.ok.hd hc) hl.isList (by exact hr) ha (by omega) fun i v h' tk bs hv r hk => dt_fin I rv (by exact hr) q hv r hk
end
end Dn

set_option Elab.async false
set_option linter.all false
set_option maxRecDepth 100000
set_option maxHeartbeats 1000000
/-! Dn: min, max, sorted, tuple, list, all, any, isinstance, repetitions. -/
namespace Dn
open PySem PySem.Spec PyProof.Rows L2

/-! ### data back from PyData -/
mutual
def fromPy : PyData → D
  | .none => .non
  | .bool b => .bl b
  | .int i => .int i
  | .str x => .str x
  | .tuple l => .tup (fromPys l)
  | .list _ => .non
  | .dict _ => .non
def fromPys : List PyData → List D
  | [] => []
  | d :: l => fromPy d :: fromPys l
end
mutual
theorem fromPy_of {h : HH} : ∀ (d : D) (p : PyData), plain d = true → toPy h d = some p → fromPy p = d
  | .non, p, _, e => by cases e; rfl
  | .bl b, p, _, e => by cases e; rfl
  | .int b, p, _, e => by cases e; rfl
  | .str b, p, _, e => by cases e; rfl
  | .tup l, p, hp, e => by
    simp only [toPy, Option.map_eq_some_iff] at e
    obtain ⟨ps, e2, e3⟩ := e
    subst e3
    simp only [fromPy]
    rw [fromPys_of l ps (by simpa [plain] using hp) e2]
  | .fl l, p, hp, e => by simp [plain] at hp
  | .sc l, p, hp, e => by simp [plain] at hp
  | .ref n, p, hp, e => by simp [plain] at hp
theorem fromPys_of {h : HH} : ∀ (l : List D) (ps : List PyData), plains l = true → toPys h l = some ps → fromPys ps = l
  | [], ps, _, e => by cases e; rfl
  | d :: l, ps, hp, e => by
    simp only [plains, Bool.and_eq_true] at hp
    simp only [toPys] at e
    split at e
    · rename_i x xs e2 e3
      cases e
      simp only [fromPys]
      rw [fromPy_of d x hp.1 e2, fromPys_of l xs hp.2 e3]
    · cases e
end
theorem toPys_get {h : HH} : ∀ {l : List D} {ps : List PyData} {i : Nat} {p : PyData}, toPys h l = some ps → ps[i]? = some p → ∃ d, l[i]? = some d ∧ toPy h d = some p
  | [], ps, i, p, e, e2 => by cases e; simp at e2
  | d :: l, ps, i, p, e, e2 => by
    simp only [toPys] at e
    split at e
    · rename_i x xs e3 e4
      cases e
      cases i with
      | zero => simp at e2; subst e2; exact ⟨d, by simp, e3⟩
      | succ i =>
        obtain ⟨d', h1, h2⟩ := toPys_get (i := i) e4 (by simpa using e2)
        exact ⟨d', by simpa using h1, h2⟩
    · cases e
theorem plains_get : ∀ {l : List D} {i : Nat} {d : D}, plains l = true → l[i]? = some d → plain d = true
  | [], _, _, _, e => by simp at e
  | x :: l, 0, d, h, e => by
    simp at e; subst e
    simp only [plains, Bool.and_eq_true] at h
    exact h.1
  | x :: l, i + 1, d, h, e => by
    simp only [plains, Bool.and_eq_true] at h
    exact plains_get (i := i) h.2 (by simpa using e)
def alikeB (xs : List PyData) : Bool := xs.all (fun x => xs.all fun y => PySem.W.alike x y) && xs.all fun x => match x with
  | .none => false
  | _ => true
theorem alikeB_ok {xs : List PyData} (h : alikeB xs = true) : PySem.W.AlikeAll xs := by
  unfold alikeB at h
  simp only [Bool.and_eq_true, List.all_eq_true] at h
  exact ⟨fun x hx y hy => h.1 x hx y hy, fun x hx z => by
    have := h.2 x hx
    rw [z] at this
    cases this⟩
def pBest (fi : Int → List Int → Int) (fd : PyData → List PyData → PyData) : Prim := fun ds h => match ds with
  | [d] => (match listOf d h with
    | some l => (match intsOf l with
      | some (n :: ns) => some (.int (fi n ns), h)
      | _ => (match toPys h l with
        | some (x :: ps) => if plains l = true ∧ alikeB (x :: ps) = true ∧ PyData.depthAll (x :: ps) ≤ 64 then some (fromPy (fd x ps), h) else none
        | _ => none))
    | none => none)
  | _ => none
abbrev pMin : Prim := pBest minI PySem.W.minD
abbrev pMax : Prim := pBest maxI PySem.W.maxD
theorem best_dt {K : PySem.W.Frag} {fd : PyData → List PyData → PyData} {N : Addr → Prop} {d : D} {vs : List V} {H : Hp} {m : List Addr} {h : HH} {l : List D} {x : PyData} {ps : List PyData} {Q : VK} (rh : RH K N H m h) (rv : RVs K N H m [d] vs) (e1 : listOf d h = some l) (e2 : toPys h l = some (x :: ps))
    (hp : plains l = true) (ha : alikeB (x :: ps) = true) (hd : PyData.depthAll (x :: ps) ≤ 64) (q : ∀ H' m' v, Post K N H m H' m' h → RV K N H' m' (fromPy (fd x ps)) v → Q v H') : rMinDt fd K vs H Q := by
  obtain ⟨v, e3, r1⟩ := rvs1 rv
  obtain ⟨a, us, ev, sq, z⟩ := listOf_ok rh r1 e1
  subst ev
  refine ⟨a, us, x, ps, e3, sq, toPys_ok rh l us _ z e2, alikeB_ok ha, hd, fun i u hu hi => ?_⟩
  obtain ⟨dn, e4, e5⟩ := toPys_get e2 hi
  obtain ⟨u', e6, r6⟩ := z.get e4
  rw [hu] at e6; cases e6
  have e7 := fromPy_of dn _ (plains_get hp e4) e5
  rw [e7] at q
  exact q H m u (Post.refl rh) r6
theorem pr_min {K : PySem.W.Frag} : PrimR K (fun vs H Q => rMin K vs H Q ∨ rMinDt PySem.W.minD K vs H Q) pMin := fun N ds vs H m h d h' Q rh rv e q => by
  unfold pMin pBest at e
  split at e
  · split at e
    · rename_i l e1
      split at e
      · rename_i n ns e2
        cases e
        obtain ⟨v, e3, r1⟩ := rvs1 rv
        obtain ⟨a, us, ev, sq, z⟩ := listOf_ok rh r1 e1
        have eu := z.ints (intsOf_ok e2)
        subst ev eu
        obtain ⟨h1, h2⟩ := minI_ok ns n
        refine .inl ⟨a, n :: ns, e3, sq, by simp, fun k hk hle => ?_⟩
        have ek : k = minI n ns := Int.le_antisymm (hle _ h1) (h2 k hk)
        subst ek
        exact q H m _ (Post.refl rh) rfl
      · split at e
        · rename_i x ps e2
          split at e
          · rename_i hh
            cases e
            exact .inr (best_dt rh rv e1 e2 hh.1 hh.2.1 hh.2.2 q)
          · cases e
        · cases e
    · cases e
  · cases e
theorem pr_max {K : PySem.W.Frag} : PrimR K (fun vs H Q => rMax K vs H Q ∨ rMinDt PySem.W.maxD K vs H Q) pMax := fun N ds vs H m h d h' Q rh rv e q => by
  unfold pMax pBest at e
  split at e
  · split at e
    · rename_i l e1
      split at e
      · rename_i n ns e2
        cases e
        obtain ⟨v, e3, r1⟩ := rvs1 rv
        obtain ⟨a, us, ev, sq, z⟩ := listOf_ok rh r1 e1
        have eu := z.ints (intsOf_ok e2)
        subst ev eu
        obtain ⟨h1, h2⟩ := maxI_ok ns n
        refine .inl ⟨a, n :: ns, e3, sq, by simp, fun k hk hle => ?_⟩
        have ek : k = maxI n ns := Int.le_antisymm (h2 k hk) (hle _ h1)
        subst ek
        exact q H m _ (Post.refl rh) rfl
      · split at e
        · rename_i x ps e2
          split at e
          · rename_i hh
            cases e
            exact .inr (best_dt rh rv e1 e2 hh.1 hh.2.1 hh.2.2 q)
          · cases e
        · cases e
    · cases e
  · cases e
theorem call_minX {X : Cx} (hc : X.calm = true) (hu : X.A.units + 100 < cLine) : CallR X (.builtin "min") (fun vs H Q => rMin X.K vs H Q ∨ rMinDt PySem.W.minD X.K vs H Q) := (cr_min hc).or (cr_minDt hc hu)
theorem call_maxX {X : Cx} (hc : X.calm = true) (hu : X.A.units + 100 < cLine) : CallR X (.builtin "max") (fun vs H Q => rMax X.K vs H Q ∨ rMinDt PySem.W.maxD X.K vs H Q) := (cr_max hc).or (cr_maxDt hc hu)

/-! ### sorted, ints: of a list, of a tuple -/
theorem collect_tuple {prog : Program} {w : World} {A : Around} {E : Value → Shared → Prop} {s : Shared} {l : Addr} {vs : List Value} {Q : List Value → Shared → Prop} (hl : s.heap.IsTuple l vs.toArray)
    (h : Q vs { s with heap := (s.heap.push (seqObj "list" #[] 0)).update s.heap.objs.size (Obj.mapSeq (· ++ vs.toArray)) }) (hsz : vs.length ≤ sizeLine) :
    wpAny (model prog w) A (collect (.ref l)) Q E s := by
  obtain ⟨o, ho, hc, n, hd⟩ := id hl
  unfold collect
  refine wpAny_bind (wpAny_runValue (codeAny_builtin entry_proto_collect' ?_))
  show wpAny _ _ (do again (.builtin "list.__iadd__" ⟨[← newList [], .ref l], []⟩)) _ _ s
  refine wpAny_bind (wpAny_newList (wpAny_pure ⟨Code.quiet_builtin _ (by decide +kernel), codeAny_builtin entry_list_iadd' ?_⟩))
  show wpAny _ _ (Builtin.List.listExtendWith (.ref s.heap.objs.size) (.ref l) (.ref s.heap.objs.size)) _ _ { s with heap := s.heap.push (seqObj "list" #[] 0) }
  unfold Builtin.List.listExtendWith
  have ho' : (s.heap.push (seqObj "list" #[] 0)).get? l = some o := Heap.get?_push_of_some _ ho
  refine wpAny_bind (wpAny_typeOf (T := "tuple") ⟨o, ho', hc⟩ ?_)
  rw [if_pos (by have z : (Value.type "tuple" == Value.type "tuple") = true := by rfl
                 rw [z]; simp)]
  refine wpAny_bind (listItems_at ho' hd ?_)
  refine wpAny_bind (listItems_at (xs := #[]) (n := 0) (Heap.get?_push_size _ rfl) rfl ?_)
  rw [if_neg (by simp)]
  refine wpAny_bind (listUpdate_at (xs := #[]) (n := 0) (Heap.get?_push_size _ rfl) rfl ?_ (Nat.zero_le _) (by show (#[] ++ vs.toArray).size ≤ sizeLine + 1; simp only [Array.size_append, List.size_toArray, List.length_nil]; omega))
  refine wpAny_pure ?_
  show wpAny (model prog w) A (do
      let o ← load s.heap.objs.size
      match o.data with
      | .seq xs _ => pure xs.toList
      | _ => unsupported "internal:collect") Q E { s with heap := (s.heap.push (seqObj "list" #[] 0)).update s.heap.objs.size (Obj.mapSeq (· ++ vs.toArray)) }
  refine wpAny_bind (wpAny_load (get?_update_seq (Heap.get?_push_size _ rfl) _) ?_)
  show wpAny _ _ (pure ((#[] : Array Value) ++ vs.toArray).toList) Q E _
  rw [show ((#[] : Array Value) ++ vs.toArray).toList = vs by simp]
  exact wpAny_pure h
open SrtO in
theorem sorted_ordT {prog : Program} {w : World} {A : Around} {E : Value → Shared → Prop} {s : Shared} {l : Addr} {vs : List Value} {ltv : Value → Value → Bool} {Q : Value → Shared → Prop} (O : Swo ltv) (hl : s.heap.IsTuple l vs.toArray) (hz : vs.length ≤ sizeLine)
    (hS : 2 ≤ vs.length → ∀ (h₁ : Heap) (a : Addr), h₁.get? a = some (seqObj "list" vs.toArray 0) → (∀ b o, s.heap.get? b = some o → b ≠ a ∧ h₁.get? b = some o) → SortableO prog w A.in1.in1 { s with heap := h₁ } a vs ltv)
    (h : ∀ out : List Value, Srtd ltv out → Stb ltv out vs → Q (.ref (s.heap.objs.size + 1)) { s with heap := sortedAll s.heap vs out.toArray }) :
    wpAny (model prog w) A (call (.builtin "sorted") [.ref l]) Q E s := by
  refine Calls.call_function_entry kind_sorted plain_sorted entry_sorted (args_sorted1 _) ?_
  unfold Builtin.«sorted»
  refine wpAny_bind (m := checkCount "sorted" 1 1 _) (wpAny_pure ?_)
  refine wpAny_bind (collect_tuple hl ?_ hz)
  refine wpAny_bind (wpAny_newList ?_ hz)
  have hsz : ((s.heap.push (seqObj "list" #[] 0)).update s.heap.objs.size (Obj.mapSeq (· ++ vs.toArray))).objs.size = s.heap.objs.size + 1 := by
    rw [Heap.size_update, size_push']
  have hoL : (((s.heap.push (seqObj "list" #[] 0)).update s.heap.objs.size (Obj.mapSeq (· ++ vs.toArray))).push (seqObj "list" vs.toArray 0)).get? (s.heap.objs.size + 1) = some (seqObj "list" vs.toArray 0) := by
    rw [← hsz]; exact Heap.get?_push_size _ rfl
  have keep : ∀ b o, s.heap.get? b = some o → b ≠ s.heap.objs.size + 1 ∧ (((s.heap.push (seqObj "list" #[] 0)).update s.heap.objs.size (Obj.mapSeq (· ++ vs.toArray))).push (seqObj "list" vs.toArray 0)).get? b = some o := fun b o q => by
    have hlt : b < s.heap.objs.size := Heap.lt_size q
    refine ⟨Nat.ne_of_lt (Nat.lt_succ_of_lt hlt), Heap.get?_push_of_some _ ?_⟩
    rw [Heap.get?_update_ne _ _ _ _ (Nat.ne_of_lt hlt)]
    exact Heap.get?_push_of_some _ q
  show wpAny _ _ _ _ _ { s with heap := ((s.heap.push (seqObj "list" #[] 0)).update s.heap.objs.size (Obj.mapSeq (· ++ vs.toArray))).push (seqObj "list" vs.toArray 0) }
  rw [hsz]
  refine wpAny_bind (wpAny_holding (wpAny_call_entry slot_list_sort ⟨_, hoL, rfl⟩ entry_list_sort (list_sort_ord O hoL hz (fun h2 => hS h2 _ _ hoL keep) fun out hs hb => ⟨_, rfl, ?_⟩) (args_list_sort _)))
  exact wpAny_pure ⟨_, rfl, h out hs hb⟩
def rSortedX (K : PySem.W.Frag) : List V → Hp → VK → Prop := fun vs H Q => ∃ (a : Addr) (ns : List Int), vs = [V.ref a] ∧ (SqL K H a (ns.map V.int) ∨ SqT K H a (ns.map V.int)) ∧
  ∀ (ns' : List Int) (p : Addr), ns'.Perm ns → ns'.Pairwise (· ≤ ·) → H p = none → Q (.ref p) (upd H p (.lst (ns'.map V.int)))
theorem cr_sortedX {X : Cx} : CallR X (.builtin "sorted") (rSortedX X.K) := by
  intro pins s σ H vs us Q I r h
  obtain ⟨a, ns, rfl, hs, q⟩ := h
  rcases hs with hs | hs
  · exact cr_sortedI pins s σ H _ us Q I r ⟨a, ns, rfl, hs, q⟩
  · obtain ⟨its, rv, hl, hz⟩ := I.tuple hs
    rw [Vals.ref1 r]
    have hi := rv.ints
    refine sorted_ordT SrtO.swo_int hl (by rw [← rv.length]; exact hz) (fun h2 h₁ a' _ _ => SrtO.ints_sortable hi h2) fun out h1 h2 => ?_
    obtain ⟨k1, k2, k3⟩ := SrtO.ints_out hi h1 h2
    obtain ⟨ep, he'⟩ := PyProof.Rows.sortedAll_at s.heap its out.toArray
    have hlen : ((out.map SrtO.iv).map V.int).length ≤ sizeLine := by
      rw [List.length_map, k2.length_eq]
      rw [List.length_map] at hz
      exact hz
    exact ⟨.ref _, upd H (s.heap.objs.size + 1) (.lst ((out.map SrtO.iv).map V.int)), I.laid (t' := s.toks) (fun _ _ => PyProof.Rows.sortedAll_old) (Nat.le_succ _) ⟨hlen, out, ep, vals_of_ints k1, he'⟩, rfl, q _ _ k2 k3 (I.hok.fresh (Nat.le_succ _))⟩
def insI (x : Int) : List Int → List Int
  | [] => [x]
  | y :: r => if x ≤ y then x :: y :: r else y :: insI x r
def sortI : List Int → List Int
  | [] => []
  | x :: r => insI x (sortI r)
theorem insI_perm (x : Int) : ∀ l, (insI x l).Perm (x :: l)
  | [] => .refl _
  | y :: r => by
    unfold insI
    split
    · exact .refl _
    · exact ((insI_perm x r).cons y).trans (.swap x y r)
theorem sortI_perm : ∀ l, (sortI l).Perm l
  | [] => .refl _
  | x :: r => (insI_perm x (sortI r)).trans ((sortI_perm r).cons x)
theorem insI_pw (x : Int) : ∀ l, l.Pairwise (· ≤ ·) → (insI x l).Pairwise (· ≤ ·)
  | [], _ => by simp [insI]
  | y :: r, h => by
    unfold insI
    rw [List.pairwise_cons] at h
    split
    · rename_i hxy
      rw [List.pairwise_cons]
      refine ⟨fun z hz => ?_, List.pairwise_cons.mpr h⟩
      rcases List.mem_cons.mp hz with e | hz
      · rw [e]; exact hxy
      · exact Int.le_trans hxy (h.1 z hz)
    · rename_i hxy
      rw [List.pairwise_cons]
      refine ⟨fun z hz => ?_, insI_pw x r h.2⟩
      rcases List.mem_cons.mp ((insI_perm x r).mem_iff.mp hz) with e | hz
      · rw [e]; omega
      · exact h.1 z hz
theorem sortI_pw : ∀ l, (sortI l).Pairwise (· ≤ ·)
  | [] => .nil
  | x :: r => insI_pw x _ (sortI_pw r)
def pSorted : LPrim := fun ds h => match ds with
  | [d] => (match seqOf d h with
    | some l => (match intsOf l with
      | some ns => some ((sortI ns).map D.int)
      | none => none)
    | none => none)
  | _ => none
theorem RVs.of_ints {K : PySem.W.Frag} {N : Addr → Prop} {H : Hp} {m : List Addr} : ∀ (ns : List Int), RVs K N H m (ns.map D.int) (ns.map V.int)
  | [] => rfl
  | n :: r => ⟨.int n, r.map V.int, rfl, rfl, RVs.of_ints r⟩
theorem pr_sorted {K : PySem.W.Frag} : LPrimR K (rSortedX K) pSorted := fun N ds vs H m h l Q rh rv e q => by
  unfold pSorted at e
  split at e
  · split at e
    · rename_i l' e1
      split at e
      · rename_i ns e2
        cases e
        obtain ⟨v, e3, r1⟩ := rvs1 rv
        obtain ⟨a, us, ev, sq, z⟩ := seqOf_ok rh r1 e1
        have eu := z.ints (intsOf_ok e2)
        subst ev eu
        refine ⟨a, ns, e3, sq, fun ns' p hp hs hn => ?_⟩
        have en : ns' = sortI ns := PySem.W.ksm_same (hp.trans (sortI_perm ns).symm) hs (sortI_pw ns)
        subst en
        exact q p _ hn (RVs.of_ints _)
      · cases e
    · cases e
  · cases e

/-! ### tuple(x), list(x), list(reversed(x)) -/
def pTuple : Prim := fun ds h => match ds with
  | [d] => (match seqOf d h with
    | some l => some (.tup l, h)
    | none => none)
  | _ => none
theorem pr_tuple {K : PySem.W.Frag} : PrimR K (fun xs H Q => ∃ p ys, xs = [.ref p] ∧ ((SqL K H p ys ∧ ∀ l, H l = none → Q (.ref l) (upd H l (.tup ys))) ∨ (H p = some (.tup ys) ∧ Q (.ref p) H))) pTuple := fun N ds vs H m h d h' Q rh rv e q => by
  unfold pTuple at e
  split at e
  · rename_i d1
    split at e
    · rename_i l e1
      cases e
      obtain ⟨v, e3, r1⟩ := rvs1 rv
      by_cases ht : ∃ l', d1 = .tup l'
      · obtain ⟨l', ht⟩ := ht
        subst ht
        obtain ⟨a, us, ev, sq, z⟩ := r1
        subst ev
        have : l' = l := Option.some.inj e1
        subst this
        exact ⟨a, us, e3, .inr ⟨sq, q H m _ (Post.refl rh) ⟨a, us, rfl, sq, z⟩⟩⟩
      · have e1' : listOf d1 h = some l := by
          unfold seqOf at e1
          split at e1
          · exact absurd ⟨_, rfl⟩ ht
          · exact e1
        obtain ⟨a, us, ev, sq, z⟩ := listOf_ok rh r1 e1'
        subst ev
        refine ⟨a, us, e3, .inl ⟨sq, fun p hp => ?_⟩⟩
        have pl := Post.laid (o := .tup us) rh hp
        exact q _ m _ pl ⟨p, us, rfl, upd_same, RVs.mono rh pl _ _ z⟩
    · cases e
  · cases e
theorem call_tupleX {X : Cx} : CallR X (.type "tuple") (fun xs H Q => ∃ p ys, xs = [.ref p] ∧ ((SqL X.K H p ys ∧ ∀ l, H l = none → Q (.ref l) (upd H l (.tup ys))) ∨ (H p = some (.tup ys) ∧ Q (.ref p) H))) := fun pins s σ H xs us Q I r ⟨p, ys, e, h⟩ =>
  call_tuple_of pins s σ H xs us Q I r ⟨p, ys, e, h.imp id fun z => ⟨SqT.of z.1, z.2⟩⟩
def pListOf : LPrim := fun ds h => match ds with
  | [d] => seqOf d h
  | _ => none
theorem pr_listOf {K : PySem.W.Frag} : LPrimR K (fun xs H Q => ∃ p ys, xs = [.ref p] ∧ (SqL K H p ys ∨ SqT K H p ys) ∧ ∀ l, H l = none → Q (.ref l) (upd H l (.lst ys))) pListOf := fun N ds vs H m h l Q rh rv e q => by
  unfold pListOf at e
  split at e
  · obtain ⟨v, e3, r1⟩ := rvs1 rv
    obtain ⟨a, us, ev, sq, z⟩ := seqOf_ok rh r1 e
    subst ev
    exact ⟨a, us, e3, sq, fun p hp => q p us hp z⟩
  · cases e

/-! ### all, any of bools -/
def boolsOf : List D → Option (List Bool)
  | [] => some []
  | .bl i :: r => (boolsOf r).map (i :: ·)
  | _ => none
theorem boolsOf_ok : ∀ {l : List D} {ns : List Bool}, boolsOf l = some ns → l = ns.map D.bl
  | [], ns, e => by cases e; rfl
  | d :: r, ns, e => by
    cases d <;> simp only [boolsOf, Option.map_eq_some_iff, reduceCtorEq] at e
    obtain ⟨ms, e1, e2⟩ := e
    subst e2
    rw [boolsOf_ok e1]; rfl
theorem RVs.bools {K : PySem.W.Frag} {N : Addr → Prop} {H : Hp} {m : List Addr} : ∀ {bs : List Bool} {vs : List V}, RVs K N H m (bs.map D.bl) vs → vs = bs.map V.bl
  | [], _, q => q
  | b :: bs, _, ⟨v, ws, e1, r, z⟩ => by
    rw [e1, show v = .bl b from r, RVs.bools z]; rfl
def pAllB (f : List Bool → Bool) : Prim := fun ds h => match ds with
  | [d] => (match listOf d h with
    | some l => (match boolsOf l with
      | some bs => some (.bl (f bs), h)
      | none => none)
    | none => none)
  | _ => none
theorem pr_allB {K : PySem.W.Frag} {f : List Bool → Bool} : PrimR K (fun vs H Q => ∃ (a : Addr) (bs : List Bool), vs = [V.ref a] ∧ SqL K H a (bs.map V.bl) ∧ Q (.bl (f bs)) H) (pAllB f) := fun N ds vs H m h d h' Q rh rv e q => by
  unfold pAllB at e
  split at e
  · split at e
    · rename_i l e1
      split at e
      · rename_i bs e2
        cases e
        obtain ⟨v, e3, r1⟩ := rvs1 rv
        obtain ⟨a, us, ev, sq, z⟩ := listOf_ok rh r1 e1
        rw [boolsOf_ok e2] at z
        have eu := z.bools
        subst ev eu
        exact ⟨a, bs, e3, sq, q H m _ (Post.refl rh) rfl⟩
      · cases e
    · cases e
  · cases e
abbrev pAll : Prim := pAllB fun bs => bs.all id
abbrev pAny : Prim := pAllB fun bs => bs.any id

/-! ### isinstance(x, T), T a built-in -/
def typeD (d : D) (h : HH) : String := match d with
  | .non => "NoneType"
  | .bl _ => "bool"
  | .int _ => "int"
  | .str _ => "str"
  | .tup _ => "tuple"
  | .fl _ => "list"
  | .sc _ => "list"
  | .ref n => (match h[n]? with
    | some (.lst _) => "list"
    | some _ => "dict"
    | none => "")
def isiB (a b : String) : Bool := a == b || (a == "bool" && b == "int")
def isiNames : List String := ["NoneType", "bool", "int", "str", "tuple", "list", "dict"]
theorem kitB_ok : (isiNames.all fun a => isiNames.all fun b => decide (kitB a b = some (isiB a b))) = true := by decide +kernel
theorem typeD_ok {K : PySem.W.Frag} {N : Addr → Prop} {H : Hp} {m : List Addr} {h : HH} (rh : RH K N H m h) {d : D} {v : V} (r : RV K N H m d v) (hs : ∀ l, d ≠ .sc l) (hl : ∀ n l, d = .ref n → h[n]? ≠ some (.lkT l)) : TyX K H v (.type (typeD d h)) ∧ typeD d h ∈ isiNames := by
  cases d with
  | non => rw [show v = .non from r]; exact ⟨.base .non, by simp [typeD, isiNames]⟩
  | bl b => rw [show v = .bl b from r]; exact ⟨.base (.bl b), by simp [typeD, isiNames]⟩
  | int b => rw [show v = .int b from r]; exact ⟨.base (.int b), by simp [typeD, isiNames]⟩
  | str b => rw [show v = .str b from r]; exact ⟨.base (.str b), by simp [typeD, isiNames]⟩
  | tup l =>
    obtain ⟨a, vs, e, q, _⟩ := r
    subst e
    exact ⟨.base (.tup q), by simp [typeD, isiNames]⟩
  | fl l =>
    obtain ⟨a, vs, e, q, _⟩ := r
    subst e
    exact ⟨.base (.lst q.1), by simp [typeD, isiNames]⟩
  | sc l => exact absurd rfl (hs l)
  | ref n =>
    obtain ⟨a, e1, e2⟩ := r
    subst e2
    have hn : n < h.length := by rw [← rh.len]; exact (List.getElem?_eq_some_iff.mp e1).1
    have e3 : h[n]? = some h[n] := List.getElem?_eq_getElem hn
    have q := rh.at_ n _ a e3 e1
    unfold typeD
    simp only [e3]
    generalize h[n] = o at *
    cases o with
    | lst l => obtain ⟨vs, e, _⟩ := q; exact ⟨.base (.lst e), by simp [isiNames]⟩
    | dK l => obtain ⟨vs, e, _⟩ := q; exact ⟨.base (.dK e), by simp [isiNames]⟩
    | dT l => obtain ⟨vs, e, _⟩ := q; exact ⟨.base (.dT e), by simp [isiNames]⟩
    | lkK l => obtain ⟨ob, vs, e, _⟩ := q; exact ⟨.fDict e, by simp [isiNames]⟩
    | lkT l => exact absurd e3 (hl n l rfl)
def dIsi (T : String) (f : Den) : Den := fun env h => match f env h with
  | some (.sc _, _) => none
  | some (.ref n, h1) => (match h1[n]? with
    | some (.lkT _) => none
    | _ => some (.bl (isiB (typeD (.ref n) h1) T), h1))
  | some (d, h1) => some (.bl (isiB (typeD d h1) T), h1)
  | none => none
theorem xe_isi {X : Cx} {a : Expr} {f : Den} {T : String} {x y : Str} {p p2 pos : Pos} (hg : Gl X x) (hm : X.mg x = none) (hv : bootBuiltins x = some (.builtin "isinstance")) (ha : XE X a f) (hb : PE X (.Name y p2) (tC (.ty T))) (hT : T ∈ isiNames)
    (s1 : starEach [a, .Name y p2] X.env = (false, eval a X.env) :: starEach [.Name y p2] X.env := by rfl) (s2 : starEach [.Name y p2] X.env = (false, eval (.Name y p2) X.env) :: starEach [] X.env := by rfl)
    (hn : x ≠ "__name__" := by decide) (hdb : (x == ("__debug__" : Str)) = false := by decide) (hpl : (backTo pos (starEach [.Name y p2] X.env)).any (·.1) = false := by rfl) :
    XE X (.Call (.Name x p) [a, .Name y p2] [] pos) (dIsi T f) :=
  PEw (pe_callB call_isi hg hm hv (pa_cons ha (pa_cons hb pa_nil s2) s1) hn hdb s1 hpl) fun σ H Q ⟨N, env, m, h, d, h', g, e, q⟩ => by
    have main : ∀ d1 h1, f env h = some (d1, h1) → (∀ l, d1 ≠ .sc l) → (∀ n l, d1 = .ref n → h1[n]? ≠ some (.lkT l)) → d = .bl (isiB (typeD d1 h1) T) → h' = h1 → tCB (rIsi X.K) (tCons (tE X.K f) (tCons (tC (.ty T)) tNil)) σ H Q := by
      intro d1 h1 e1 hs hl ed eh
      subst ed eh
      refine ⟨N, env, m, h, d1, _, g, e1, fun H1 m1 v p1 r1 => ?_⟩
      obtain ⟨t1, t2⟩ := typeD_ok p1.rh r1 hs hl
      have hk := List.all_eq_true.mp (List.all_eq_true.mp kitB_ok _ t2) _ hT
      exact ⟨v, .ty T, _, _, _, rfl, .ty T, t1, kit_ty (of_decide_eq_true hk), q H1 m1 _ p1 rfl⟩
    unfold dIsi at e
    split at e
    · cases e
    · rename_i n h1 e1
      split at e
      · cases e
      · rename_i hne
        cases e
        exact main _ _ e1 (fun l z => by cases z) (fun n' l z => by cases z; exact fun y => hne l y) rfl rfl
    · rename_i d1 h1 hs hr e1
      simp only [Option.some.injEq, Prod.mk.injEq] at e
      exact main d1 h1 e1 (fun l z => hs l z) (fun n l z => (hr n z).elim) e.1.symm e.2.symm
    · cases e
end Dn

set_option Elab.async false
set_option linter.all false
set_option maxRecDepth 100000
set_option maxHeartbeats 4000000
/-! Dn: list + list, list * int, tuple * int, t[::-1]. -/
namespace Dn
open PySem PySem.Spec PyProof.Rows L2
theorem tuple_mul1 (l : Addr) (items : Array Value) (n : Nat) (dd : Option Addr) (sl : Array (Option Value)) (u : Tok) (c1 : (items.isEmpty || (1 : Int) == 1) = true) :
    Meets (Builtin.«tuple.__mul__» ⟨[.ref l, .int 1 u], []⟩) (fun _ R s => s.heap.get? l = some { cls := .type "tuple", dict := dd, data := .seq items n, slots := sl } ∧
      R (.ok (.ret (Value.ref l))) s) :=
  .of_wp fun prog w A R s h => by
    obtain ⟨hp, g, d, tk, os⟩ := s
    obtain ⟨hl, h⟩ := h
    have f1 := AutoSeq1.idx_int
    wp_walk using wpAny_loadPart' hl
    all_goals exact ⟨_, rfl, h⟩
theorem tuple_mul0 (l : Addr) (items : Array Value) (n : Nat) (dd : Option Addr) (sl : Array (Option Value)) (x : Int) (u : Tok) (c0 : (decide (x < -(2 ^ 63)) || decide (x ≥ 2 ^ 63)) = false) (c1 : (items.isEmpty || x == 1) = false) (c2 : (decide (x ≤ 0) || items.isEmpty) = true) :
    Meets (Builtin.«tuple.__mul__» ⟨[.ref l, .int x u], []⟩) (fun _ R s => s.heap.get? l = some { cls := .type "tuple", dict := dd, data := .seq items n, slots := sl } ∧
      R (.ok (.ret (Value.ref s.heap.objs.size))) { s with heap := s.heap.push { cls := Value.type "tuple", data := Data.seq #[] } }) :=
  .of_wp fun prog w A R s h => by
    obtain ⟨hp, g, d, tk, os⟩ := s
    obtain ⟨hl, h⟩ := h
    have f1 := AutoSeq1.idx_int
    wp_walk using wpAny_loadPart' hl
    repeat (first
      | (refine wpAny_ite_false (decide_eq_false (by rw [c0]; exact Bool.false_ne_true)) ?_; wp_walk using wpAny_loadPart' hl)
      | (refine wpAny_ite_false (decide_eq_false (by rw [c1]; exact Bool.false_ne_true)) ?_; wp_walk using wpAny_loadPart' hl)
      | (refine wpAny_ite_true (decide_eq_true c2) ?_; wp_walk using wpAny_loadPart' hl))
    exact ⟨_, rfl, h⟩
def rRep1 (K : PySem.W.Frag) : R2 := fun x y H Q => ∃ l xs, x = .ref l ∧ y = .int 1 ∧ SqT K H l xs ∧ Q (.ref l) H
def rRep0 (K : PySem.W.Frag) : R2 := fun x y H Q => ∃ l k xs, x = .ref l ∧ y = .int k ∧ SqT K H l xs ∧ xs ≠ [] ∧ -1000 ≤ k ∧ k ≤ 0 ∧ ∀ p, H p = none → Q (.ref p) (upd H p (.tup []))
section
variable {X : Cx}
theorem op_rep1 : OpR X (binaryOp .Mult) (rRep1 X.K) := by
  intro pins s σ H x y v u Q I rx ry h
  obtain ⟨l, xs, rfl, rfl, hT, q⟩ := h
  cases rx
  obtain ⟨t, rfl⟩ := ry
  obtain ⟨its, r, ⟨⟨cls, dd, data, sl⟩, ho, hc, n, hd⟩, hs⟩ := I.tuple hT
  simp only at hc hd
  subst hc hd
  refine wpAny_binaryOp_repeat_ref (T := "tuple") (U := "int") (by decide) ⟨_, ho, rfl⟩ (fun s' => typeIs_int s' 1 t) noFill_tuple_mul F.fills_int_mul F.slot_int_rmul repeat_tuple F.slot_int_index.lookup
    (call_meets F.slot_int_rmul (typeIs_int s 1 t) F.entry_int_rmul (F.args_int_rmul_2 _ _) (int_rmul_tuple 1 t l its.toArray n dd sl)
      ⟨ho, rfl, ⟨_, ho, rfl⟩, call_meets F.slot_tuple_mul ⟨_, ho, rfl⟩ F.entry_tuple_mul (F.args_tuple_mul_2 _ _) (tuple_mul1 l its.toArray n dd sl t (by simp)) ⟨ho, ?_⟩⟩)
  exact ⟨.ref l, H, I, rfl, q⟩
theorem op_rep0 : OpR X (binaryOp .Mult) (rRep0 X.K) := by
  intro pins s σ H x y v u Q I rx ry h
  obtain ⟨l, k, xs, rfl, rfl, hT, hne, h1, h2, q⟩ := h
  cases rx
  obtain ⟨t, rfl⟩ := ry
  obtain ⟨its, r, ⟨⟨cls, dd, data, sl⟩, ho, hc, n, hd⟩, hs⟩ := I.tuple hT
  simp only at hc hd
  subst hc hd
  have hle : its.length = xs.length := r.length.symm
  have hn : its ≠ [] := fun e => hne (by
    rw [e] at hle
    exact List.eq_nil_of_length_eq_zero hle.symm)
  have hi : its.toArray.isEmpty = false := by
    cases its with
    | nil => exact absurd rfl hn
    | cons a b => rfl
  have c0 : (decide (k < -(2 ^ 63)) || decide (k ≥ 2 ^ 63)) = false := by
    rw [decide_eq_false (by omega), decide_eq_false (by omega)] <;> rfl
  have c1 : (its.toArray.isEmpty || k == 1) = false := by
    rw [hi, Bool.false_or]
    exact beq_eq_false_iff_ne.mpr (by omega)
  have c2 : (decide (k ≤ 0) || its.toArray.isEmpty) = true := by
    rw [hi, Bool.or_false]
    exact decide_eq_true h2
  refine wpAny_binaryOp_repeat_ref (T := "tuple") (U := "int") (by decide) ⟨_, ho, rfl⟩ (fun s' => typeIs_int s' k t) noFill_tuple_mul F.fills_int_mul F.slot_int_rmul repeat_tuple F.slot_int_index.lookup
    (call_meets F.slot_int_rmul (typeIs_int s k t) F.entry_int_rmul (F.args_int_rmul_2 _ _) (int_rmul_tuple k t l its.toArray n dd sl)
      ⟨ho, rfl, ⟨_, ho, rfl⟩, call_meets F.slot_tuple_mul ⟨_, ho, rfl⟩ F.entry_tuple_mul (F.args_tuple_mul_2 _ _) (tuple_mul0 l its.toArray n dd sl k t c0 c1 c2) ⟨ho, ?_⟩⟩)
  refine ⟨.ref s.heap.objs.size, _, I.laid (t' := s.toks) (o := .tup []) (fun b ob q => Heap.get?_push_of_some _ q) (Nat.le_refl _) ?_, rfl, q _ (I.hok.fresh (Nat.le_refl _))⟩
  exact ⟨Nat.zero_le _, [], .nil, IsTup.new _ _⟩
def rMulT (K : PySem.W.Frag) : R2 := fun x y H Q => rMulD x y H Q ∨ rRepT K x y H Q ∨ rRep1 K x y H Q ∨ rRep0 K x y H Q
theorem op_mulT : OpR X (binaryOp .Mult) (rMulT X.K) := OpR.or op_mulD (OpR.or op_repT (OpR.or op_rep1 op_rep0))
end
/-- a * b: ints; a tuple times an int -/
def pMulT : Prim := fun ds h => match ds with
  | [.int a, .int b] => if mulOk a b = true then some (.int (a * b), h) else none
  | [.tup l, .int k] => if l ≠ [] ∧ l.length ≤ 1000 ∧ -1000 ≤ k ∧ k ≤ 1000 then some (.tup (List.replicate k.toNat l).flatten, h) else none
  | _ => none
theorem RVs.rep {K : PySem.W.Frag} {N : Addr → Prop} {H : Hp} {m : List Addr} {l : List D} {vs : List V} (r : RVs K N H m l vs) : ∀ k : Nat, RVs K N H m (List.replicate k l).flatten (List.replicate k vs).flatten
  | 0 => rfl
  | k + 1 => by
    rw [List.replicate_succ, List.replicate_succ, List.flatten_cons, List.flatten_cons]
    exact RVs.append r (RVs.rep r k)
theorem pr_mulT {K : PySem.W.Frag} : PrimR K (R2l (rMulT K)) pMulT := fun N ds vs H m h d h' Q rh rv e q => by
  unfold pMulT at e
  split at e
  · split at e
    · rename_i hl
      cases e
      obtain ⟨x, y, e1, r1, r2⟩ := rvs2 rv
      exact ⟨x, y, e1, .inl ⟨_, _, r1, r2, mulOk_ok hl, q H m _ (Post.refl rh) rfl⟩⟩
    · cases e
  · rename_i l k
    split at e
    · rename_i hl
      obtain ⟨hne, hz, k0, k1⟩ := hl
      cases e
      obtain ⟨x, y, e1, r1, r2⟩ := rvs2 rv
      obtain ⟨p, us, ex, sx, zx⟩ := r1
      have r2 : y = .int k := r2
      subst ex r2
      have hus : us ≠ [] := fun z => hne (by
        subst z
        exact List.eq_nil_of_length_eq_zero (by rw [zx.length]; rfl))
      by_cases hk : k ≤ 0
      · refine ⟨_, _, e1, .inr (.inr (.inr ⟨p, k, us, rfl, rfl, SqT.of sx, hus, k0, hk, fun p4 hp => ?_⟩))⟩
        have pl := Post.laid (o := .tup []) rh hp
        have ek : k.toNat = 0 := by omega
        refine q _ m _ pl ⟨p4, [], rfl, upd_same, ?_⟩
        rw [ek]; exact rfl
      · by_cases h1 : k = 1
        · subst h1
          refine ⟨_, _, e1, .inr (.inr (.inl ⟨p, us, rfl, rfl, SqT.of sx, ?_⟩))⟩
          refine q H m _ (Post.refl rh) ⟨p, us, rfl, sx, ?_⟩
          show RVs K N H m (List.replicate 1 l).flatten us
          rw [List.replicate_one, List.flatten_singleton]
          exact zx
        · refine ⟨_, _, e1, .inr (.inl ⟨p, k, us, rfl, rfl, SqT.of sx, hus, by omega, k1, by rw [← zx.length]; exact hz, fun p4 hp => ?_⟩)⟩
          have pl := Post.laid (o := .tup (List.replicate k.toNat us).flatten) rh hp
          exact q _ m _ pl ⟨p4, _, rfl, upd_same, RVs.rep (RVs.mono rh pl _ _ zx) _⟩
    · cases e
  · cases e
/-! ### lists -/
def pCat : LPrim := fun ds h => match ds with
  | [a, b] => (match listIn a h, listIn b h with
    | some x, some y => if x.length + y.length ≤ 1000000 then some (x ++ y) else none
    | _, _ => none)
  | _ => none
theorem pr_cat {K : PySem.W.Frag} : LPrimR K (R2l rCat) pCat := fun N ds vs H m h l Q rh rv e q => by
  unfold pCat at e
  split at e
  · split at e
    · rename_i x y e1 e2
      split at e
      · rename_i hl
        cases e
        obtain ⟨v, w, e3, r1, r2⟩ := rvs2 rv
        obtain ⟨a, us, ev, h1, z1⟩ := listIn_ok rh r1 e1
        obtain ⟨b, ws, ew, h2, z2⟩ := listIn_ok rh r2 e2
        exact ⟨v, w, e3, a, b, us, ws, ev, ew, h1, h2, by rw [← z1.length, ← z2.length]; exact sz1000 hl, fun p hp => q p _ hp (RVs.append z1 z2)⟩
      · cases e
    · cases e
  · cases e
def pRep : LPrim := fun ds h => match ds with
  | [a, .int k] => (match listIn a h with
    | some x => if -1000 ≤ k ∧ k ≤ 1000000 ∧ x.length * k.toNat ≤ 1000000 then some (List.replicate k.toNat x).flatten else none
    | none => none)
  | _ => none
theorem pr_rep {K : PySem.W.Frag} : LPrimR K (R2l rRep) pRep := fun N ds vs H m h l Q rh rv e q => by
  unfold pRep at e
  split at e
  · split at e
    · rename_i x e1
      split at e
      · rename_i hl
        cases e
        obtain ⟨v, w, e3, r1, r2⟩ := rvs2 rv
        obtain ⟨a, us, ev, h1, z1⟩ := listIn_ok rh r1 e1
        exact ⟨v, w, e3, a, _, us, ev, r2, h1, by omega, by omega, by rw [← z1.length]; exact sz1000 hl.2.2, fun p hp => q p _ hp (RVs.rep z1 _)⟩
      · cases e
    · cases e
  · cases e
/-! ### t[::-1], a tuple -/
section
variable {prog : Program} {w : World} {A : Around} {E : Value → Shared → Prop} {s : Shared}
open HT in
theorem sliceApplied_rev {sl : Addr} {vs : Value} {n : Nat} {Q : Int × Int × Nat → Shared → Prop} (hs : s.heap.IsSliceOf sl .none .none vs) (ps : IsPart vs (some (-1)))
    (h : Q ((n : Int) - 1, -1, n) s) : wpAny (model prog w) A (Builtin.Slice.sliceApplied (.ref sl) (pure (n : Int))) Q E s := by
  obtain ⟨os, hos, hcs, hds⟩ := id hs
  unfold Builtin.Slice.sliceApplied Builtin.Slice.sliceFields
  refine wpAny_bind (wpAny_bind (wpAny_field hos hds (x := .none) rfl (wpAny_bind (wpAny_field hos hds (x := .none) rfl (wpAny_bind (wpAny_field hos hds (x := vs) rfl (wpAny_pure ?_)))))))
  refine wpAny_bind (slicePart_ ps ?_)
  show wpAny _ _ (if ((-1 : Int) == 0) = true then _ else _) _ _ s
  rw [if_neg (by decide)]
  refine wpAny_bind (slicePart_none (wpAny_bind (slicePart_none (wpAny_bind (wpAny_pure ?_)))))
  show wpAny _ _ (pure ((n : Int) - 1, (-1 : Int), Builtin.Slice.slicePlaces ((n : Int) - 1) (-1) (-1))) _ _ s
  have e : Builtin.Slice.slicePlaces ((n : Int) - 1) (-1) (-1) = n := by
    unfold Builtin.Slice.slicePlaces
    simp only [show ¬ ((-1 : Int) > 0) by decide, if_false]
    split
    · rw [show (- -1 : Int) = 1 by decide, Int.ediv_one]; omega
    · omega
  rw [e]
  exact wpAny_pure h
theorem pick_rev (xs : Array Value) : ((List.range xs.size).filterMap fun (m : Nat) => xs[(((xs.size : Nat) : Int) - 1 + (m : Int) * -1).toNat]?).toArray = xs.toList.reverse.toArray := by
  have e : ((List.range xs.size).filterMap fun (m : Nat) => xs[(((xs.size : Nat) : Int) - 1 + (m : Int) * -1).toNat]?) = ((List.range xs.size).map fun k => xs.size - 1 - k).filterMap (xs[·]?) := by
    rw [List.filterMap_map]
    congr 1
    funext m
    have : (((xs.size : Nat) : Int) - 1 + (m : Int) * -1).toNat = xs.size - 1 - m := by omega
    rw [this]
    rfl
  rw [e, PySem.W.krv_range, List.filterMap_reverse, PySem.W.krv_all]
open HT in
theorem getItem_tuple_rev {t sl : Addr} {items : Array Value} {vs : Value} {Q : Value → Shared → Prop} (ht : IsTup s.heap t items) (hs : s.heap.IsSliceOf sl .none .none vs) (ps : IsPart vs (some (-1)))
    (h : Q (.ref s.heap.objs.size) { s with heap := s.heap.push { cls := .type "tuple", data := .seq items.toList.reverse.toArray } })
    (hsz : items.size ≤ sizeLine) : wpAny (model prog w) A (getItem (.ref t) (.ref sl)) Q E s := by
  have htake : sizeOk (.seq items.toList.reverse.toArray) := by
    show items.toList.reverse.toArray.size ≤ sizeLine
    simp
    exact hsz
  obtain ⟨os, hos, hcs, hds⟩ := id hs
  have hTs : s.TypeIs (.ref sl) "slice" := ⟨os, hos, hcs⟩
  unfold getItem
  try with_reducible refine wpAny_holding ?_
  first | refine wpAny_bind (wpAny_pure ?_) | skip
  refine wpAny_bind (wpAny_sequenceKey ht.typeIs (by decide) ?_)
  refine wpAny_bind (wpAny_callSpecial?_slot (name := Str.ofString "__getitem__") ht.typeIs PyProof.Rows.slot_tuple_getitem
    (wpAny_call_entry PyProof.Rows.slot_tuple_getitem ht.typeIs entry_tuple_getitem ?_ (args_tuple_getitem _ _)))
  show wpAny _ _ (Builtin.Tuple.tupleItemsOf (.ref t) >>= _) _ _ s
  refine wpAny_bind (tupleItemsOf_ ht ?_)
  refine wpAny_bind (wpAny_typeOf hTs ?_)
  rw [if_pos (by decide)]
  refine wpAny_bind (sliceApplied_rev hs ps ?_)
  have hno : ¬ (((((items.size : Nat) : Int) - 1) == 0 && (-1 : Int) == 1 && items.size == items.size) = true) := by
    intro q
    rw [Bool.and_eq_true, Bool.and_eq_true] at q
    exact absurd q.1.2 (by decide)
  show wpAny _ _ (if ((((items.size : Nat) : Int) - 1) == 0 && (-1 : Int) == 1 && items.size == items.size) = true then _ else _) _ _ s
  rw [if_neg hno, pick_rev]
  first
    | exact wpAny_bind (m := Builtin.Tuple.tupleExact _) (wpAny_newObj_type (wpAny_pure ⟨_, rfl, wpAny_pure h⟩) htake)
    | exact wpAny_bind (m := Builtin.Tuple.tupleExact _) (wpAny_newObj_type (wpAny_bind (wpAny_pure (wpAny_pure ⟨_, rfl, wpAny_pure h⟩))) htake)
    | exact wpAny_bind (wpAny_bind (m := Builtin.Tuple.tupleExact _) (wpAny_newObj_type (wpAny_pure (wpAny_pure ⟨_, rfl, wpAny_pure h⟩)) htake))
    | exact wpAny_bind (wpAny_bind (m := Builtin.Tuple.tupleExact _) (wpAny_newObj_type (wpAny_pure ⟨_, rfl, wpAny_pure h⟩) htake))
end
def tRevT (K : PySem.W.Frag) (te : TE) : TE := fun σ H Q => te σ H fun x H1 => ∃ a xs, x = .ref a ∧ SqT K H1 a xs ∧ ∀ p, H1 p = none → Q (.ref p) (upd H1 p (.tup xs.reverse))
section
variable {X : Cx}
theorem pe_revT {e : Expr} {te : TE} {k : Nat} {p1 p2 p3 pos : Pos} (he : PE X e te) : PE X (.Subscript e (.Slice none none (some (.UnaryOp .USub (.Constant (.int 1) k p1) p2)) p3) pos) (tRevT X.K te) := by
  refine ⟨fun pins s σ H Q I h => ?_⟩
  refine Subscript_ (thn (he.run pins s σ H _ I h) fun v s1 ⟨x, H1, I1, r1, q1⟩ => ?_)
  obtain ⟨a, xs, ex, hx, q⟩ := q1
  subst ex
  cases r1
  have hst : PO X (some (.UnaryOp .USub (.Constant (.int 1) k p1) p2)) (tPart (tUn (rU fun i => .int (-i)) (tC (.int 1)))) := po_some (pe_un un_neg pe_int)
  refine wpAny_Slice (thn (po_none.run pins s1 σ H1 (fun o H2 => o = none ∧ H2 = H1) I1 ⟨rfl, rfl⟩) fun vl s2 ⟨l, H2, I2, pl, el, e2⟩ => ?_)
  subst el e2
  refine thn (po_none.run pins s2 σ H2 (fun o H3 => o = none ∧ H3 = H2) I2 ⟨rfl, rfl⟩) fun vu s3 ⟨u, H3, I3, pu, eu, e3⟩ => ?_
  subst eu e3
  refine thn (hst.run pins s3 σ H3 (fun o H4 => o = some (-1) ∧ H4 = H3) I3 ⟨1, rfl, -1, rfl, rfl, rfl⟩) fun vs s4 ⟨o, H4, I4, ps, eo, e4⟩ => ?_
  subst eo e4
  cases pl
  cases pu
  have I5 : Inv X pins σ H4 { s4 with heap := s4.heap.push { cls := .type "slice", data := .fields #[.none, .none, vs] } } := I4.kept (t' := s4.toks) fun b ob q => Heap.get?_push_of_some _ q
  obtain ⟨its, r, ht, hz⟩ := I5.tuple hx
  have hlen := r.length
  show wpAny (model X.prog X.w) X.A (subscriptTail e (.Slice none none (some (.UnaryOp .USub (.Constant (.int 1) k p1) p2)) p3) (.ref a) (.ref s4.heap.objs.size)) (EP X pins σ Q) X.xe { s4 with heap := s4.heap.push { cls := .type "slice", data := .fields #[.none, .none, vs] } }
  refine tail_any (T := "tuple") (ops := [.ref a, .ref s4.heap.objs.size]) ht.typeIs (PyProof.Rows.slot_tuple_getitem.lookup) ?_ (by with_unfolding_all rfl)
  refine getItem_tuple_rev ht (Heap.IsSliceOf.new _ .none .none vs) ps ?_ (by rw [List.size_toArray]; omega)
  refine ⟨.ref _, _, I5.laid (t' := s4.toks) (o := .tup xs.reverse) (fun b ob q => Heap.get?_push_of_some _ q) (Nat.le_refl _) ?_, rfl, q _ (I5.hok.fresh (Nat.le_refl _))⟩
  exact ⟨by rw [List.length_reverse]; exact hz, _, by rw [List.toList_toArray]; exact r.reverse, IsTup.new _ _⟩
def dRevT (f : Den) : Den := fun env h => match f env h with
  | some (.tup l, h1) => some (.tup l.reverse, h1)
  | _ => none
theorem xe_revT {e : Expr} {f : Den} {k : Nat} {p1 p2 p3 pos : Pos} (he : XE X e f) : XE X (.Subscript e (.Slice none none (some (.UnaryOp .USub (.Constant (.int 1) k p1) p2)) p3) pos) (dRevT f) :=
  PEw (pe_revT he) fun σ H Q ⟨N, env, m, h, d, h', g, e, q⟩ => by
    unfold dRevT at e
    split at e
    · rename_i l h1 e1
      cases e
      refine ⟨N, env, m, h, _, _, g, e1, fun H1 m1 v p1 ⟨p, vs, ev, sq, z⟩ => ⟨p, vs, ev, SqT.of sq, fun p4 hp => ?_⟩⟩
      have pl := Post.laid (o := .tup vs.reverse) p1.rh hp
      exact q _ m1 _ (p1.trans pl) ⟨p4, _, rfl, upd_same, RVs.reverse (RVs.mono p1.rh pl _ _ z)⟩
    · cases e
end
end Dn

set_option Elab.async false
set_option linter.all false
set_option maxRecDepth 100000
set_option maxHeartbeats 1000000
/-! Dn: sources of loops. -/
namespace Dn
open PySem PySem.Spec PyProof.Rows L2 RT RZ

/-- the owned list at place n is l -/
theorem okG1_ok {n : Nat} {l : List D} {h : HH} (e : okG1 n l h = true) : h[n]? = some (.lst l) := by
  unfold okG1 at e
  split at e
  · rename_i l' e1
    rw [D.beqs_eq _ _ e] at e1
    exact e1
  · cases e
/-- what is walked as a list: its guard -/
def gdOf (d : D) (l : List D) : Gds := match d with
  | .ref n => [(n, l)]
  | _ => []
section
variable {K : PySem.W.Frag} {N N' : Addr → Prop} {H0 H : Hp} {m0 m : List Addr} {h0 h : HH}
/-- a list as it stands at the start is so later on, if its guard holds -/
theorem list_later {d : D} {l : List D} {a : Addr} (rh0 : RH K N H0 m0 h0) (r : RV K N H0 m0 d (.ref a)) (e : listOf d h0 = some l) (x : Ext N H0 m0 N' H m) (rh : RH K N' H m h) (ok : okG (gdOf d l) h = true) : ∃ vs, SqL K H a vs ∧ RVs K N' H m l vs := by
  have r' := x.rv rh0 d _ r
  have e' : listOf d h = some l := by
    unfold listOf at e ⊢
    cases d with
    | fl l' => exact e
    | sc l' => exact e
    | ref n =>
      have ok1 : okG1 n l h = true := by
        simpa [okG, gdOf] using ok
      show (match h[n]? with
        | some (O.lst l) => some l
        | _ => none) = some l
      rw [okG1_ok ok1]
    | _ => cases e
  obtain ⟨b, vs, ea, sq, z⟩ := listOf_ok rh r' e'
  cases ea
  exact ⟨vs, sq, z⟩
theorem tup_later {l : List D} {a : Addr} (rh0 : RH K N H0 m0 h0) (r : RV K N H0 m0 (.tup l) (.ref a)) (x : Ext N H0 m0 N' H m) : ∃ vs, H a = some (.tup vs) ∧ RVs K N' H m l vs := by
  obtain ⟨b, vs, ea, sq, z⟩ := x.rv rh0 _ _ r
  cases ea
  exact ⟨vs, sq, z⟩
theorem okG_app {g1 g2 : Gds} {h : HH} (e : okG (g1 ++ g2) h = true) : okG g1 h = true ∧ okG g2 h = true := by
  unfold okG at e ⊢
  rw [List.all_append, Bool.and_eq_true] at e
  exact e
theorem walk_list {d : D} {l : List D} {a : Addr} (rh0 : RH K N H0 m0 h0) (r : RV K N H0 m0 d (.ref a)) (e : listOf d h0 = some l) : Walk K N (Itl K a) l (gdOf d l) H0 m0 := fun N' H m h x rh ok i => by
  obtain ⟨vs, sq, z⟩ := list_later rh0 r e x rh ok
  refine ⟨fun dd hd => ?_, fun hi => ⟨vs, sq, by rw [← z.length]; exact hi⟩⟩
  obtain ⟨v, hv, rv⟩ := z.get hd
  refine ⟨⟨vs, v, sq, hv⟩, fun y H' ⟨e1, q⟩ => ?_⟩
  subst e1
  have e2 := q vs sq
  rw [hv] at e2
  cases e2
  exact ⟨Post.refl rh, rv⟩
theorem walk_tup {l : List D} {a : Addr} (rh0 : RH K N H0 m0 h0) (r : RV K N H0 m0 (.tup l) (.ref a)) : Walk K N (Itt K a) l [] H0 m0 := fun N' H m h x rh ok i => by
  obtain ⟨vs, sq, z⟩ := tup_later rh0 r x
  refine ⟨fun dd hd => ?_, fun hi => ⟨vs, SqT.of sq, by rw [← z.length]; exact hi⟩⟩
  obtain ⟨v, hv, rv⟩ := z.get hd
  refine ⟨⟨vs, v, SqT.of sq, hv⟩, fun y H' ⟨e1, q⟩ => ?_⟩
  subst e1
  have e2 := q vs (SqT.of sq)
  rw [hv] at e2
  cases e2
  exact ⟨Post.refl rh, rv⟩
def rngD (lo : Int) (n : Nat) : List D := (List.range n).map fun i => .int (lo + (i : Nat))
theorem walk_rng {lo : Int} {n : Nat} : Walk K N (Itr lo n) (rngD lo n) [] H0 m0 := fun N' H m h x rh ok i => by
  refine ⟨fun dd hd => ?_, fun hi => (by simpa [rngD] using hi : n ≤ i)⟩
  unfold rngD at hd
  rw [List.getElem?_map] at hd
  cases e1 : (List.range n)[i]? with
  | none => rw [e1] at hd; cases hd
  | some j =>
    rw [e1] at hd
    cases hd
    obtain ⟨h1, h2⟩ := List.getElem?_eq_some_iff.mp e1
    simp at h1 h2
    subst h2
    refine ⟨h1, fun y H' ⟨e1, q⟩ => ?_⟩
    subst e1 q
    exact ⟨Post.refl rh, rfl⟩
/-- a new pair -/
theorem pair_new (rh : RH K N' H m h) {T : Addr} {x y : D} {u v : V} (hT : H T = none) (rx : RV K N' H m x u) (ry : RV K N' H m y v) : Post K N' H m (upd H T (.tup [u, v])) m h ∧ RV K N' (upd H T (.tup [u, v])) m (.tup [x, y]) (.ref T) := by
  have pl := Post.laid (o := .tup [u, v]) rh hT
  exact ⟨pl, T, [u, v], rfl, upd_same, u, [v], rfl, RV.mono rh pl _ _ rx, v, [], rfl, RV.mono rh pl _ _ ry, rfl⟩
def zipD (l l2 : List D) : List D := List.zipWith (fun x y => .tup [x, y]) l l2
theorem zipD_get {l l2 : List D} {i : Nat} {d : D} (e : (zipD l l2)[i]? = some d) : ∃ x y, l[i]? = some x ∧ l2[i]? = some y ∧ d = .tup [x, y] := by
  unfold zipD at e
  rw [List.getElem?_zipWith] at e
  split at e
  · rename_i x y e1 e2
    cases e
    exact ⟨x, y, e1, e2, rfl⟩
  · cases e
theorem zipD_len {l l2 : List D} : (zipD l l2).length = min l.length l2.length := by simp [zipD]
theorem walk_zip {d d2 : D} {l l2 : List D} {a b : Addr} (rh0 : RH K N H0 m0 h0) (r : RV K N H0 m0 d (.ref a)) (r2 : RV K N H0 m0 d2 (.ref b)) (e : listOf d h0 = some l) (e2 : listOf d2 h0 = some l2) :
    Walk K N (Itz K a b) (zipD l l2) (gdOf d l ++ gdOf d2 l2) H0 m0 := fun N' H m h x rh ok i => by
  obtain ⟨ok1, ok2⟩ := okG_app ok
  obtain ⟨vs, sq, z⟩ := list_later rh0 r e x rh ok1
  obtain ⟨ws, sq2, z2⟩ := list_later rh0 r2 e2 x rh ok2
  refine ⟨fun dd hd => ?_, fun hi => ⟨vs, ws, sq, sq2, ?_⟩⟩
  · obtain ⟨p, q, g1, g2, rfl⟩ := zipD_get hd
    obtain ⟨v, hv, rv⟩ := z.get g1
    obtain ⟨w, hw, rw'⟩ := z2.get g2
    refine ⟨⟨vs, ws, v, w, sq, sq2, hv, hw⟩, fun y H' ⟨T, x1, y1, ey, hT, eH, q1, q2⟩ => ?_⟩
    have f1 := q1 vs sq
    have f2 := q2 ws sq2
    rw [hv] at f1
    rw [hw] at f2
    cases f1; cases f2
    subst ey eH
    exact pair_new rh hT rv rw'
  · rw [zipD_len] at hi
    have l1 := z.length
    have l2' := z2.length
    by_cases hh : l.length ≤ i
    · exact .inl (by omega)
    · exact .inr (by omega)
theorem walk_zipT {l l2 : List D} {a b : Addr} (rh0 : RH K N H0 m0 h0) (r : RV K N H0 m0 (.tup l) (.ref a)) (r2 : RV K N H0 m0 (.tup l2) (.ref b)) :
    Walk K N (ItzT K a b) (zipD l l2) [] H0 m0 := fun N' H m h x rh ok i => by
  obtain ⟨vs, sq, z⟩ := tup_later rh0 r x
  obtain ⟨ws, sq2, z2⟩ := tup_later rh0 r2 x
  refine ⟨fun dd hd => ?_, fun hi => ⟨vs, ws, SqT.of sq, SqT.of sq2, ?_⟩⟩
  · obtain ⟨p, q, g1, g2, rfl⟩ := zipD_get hd
    obtain ⟨v, hv, rv⟩ := z.get g1
    obtain ⟨w, hw, rw'⟩ := z2.get g2
    refine ⟨⟨vs, ws, v, w, SqT.of sq, SqT.of sq2, hv, hw⟩, fun y H' ⟨T, x1, y1, ey, hT, eH, q1, q2⟩ => ?_⟩
    have f1 := q1 vs (SqT.of sq)
    have f2 := q2 ws (SqT.of sq2)
    rw [hv] at f1
    rw [hw] at f2
    cases f1; cases f2
    subst ey eH
    exact pair_new rh hT rv rw'
  · rw [zipD_len] at hi
    have l1 := z.length
    have l2' := z2.length
    by_cases hh : l.length ≤ i
    · exact .inl (by omega)
    · exact .inr (by omega)
theorem walk_rev {d : D} {l : List D} {a : Addr} {k : Nat} (rh0 : RH K N H0 m0 h0) (r : RV K N H0 m0 d (.ref a)) (e : listOf d h0 = some l) (hk : k = l.length) : Walk K N (Itv K a k) l.reverse (gdOf d l) H0 m0 := fun N' H m h x rh ok i => by
  subst hk
  obtain ⟨vs, sq, z⟩ := list_later rh0 r e x rh ok
  refine ⟨fun dd hd => ?_, fun hi => (by simpa using hi : l.length ≤ i)⟩
  have hi : i < l.length := by simpa using (List.getElem?_eq_some_iff.mp hd).1
  rw [List.getElem?_reverse hi] at hd
  obtain ⟨v, hv, rv⟩ := z.get hd
  refine ⟨⟨hi, vs, v, sq, hv⟩, fun y H' ⟨e1, q⟩ => ?_⟩
  subst e1
  have e2 := q vs sq
  rw [hv] at e2
  cases e2
  exact ⟨Post.refl rh, rv⟩
theorem walk_revT {l : List D} {a : Addr} {k : Nat} (rh0 : RH K N H0 m0 h0) (r : RV K N H0 m0 (.tup l) (.ref a)) (hk : k = l.length) : Walk K N (ItvT K a k) l.reverse [] H0 m0 := fun N' H m h x rh ok i => by
  subst hk
  obtain ⟨vs, sq, z⟩ := tup_later rh0 r x
  refine ⟨fun dd hd => ?_, fun hi => (by simpa using hi : l.length ≤ i)⟩
  have hi : i < l.length := by simpa using (List.getElem?_eq_some_iff.mp hd).1
  rw [List.getElem?_reverse hi] at hd
  obtain ⟨v, hv, rv⟩ := z.get hd
  refine ⟨⟨hi, vs, v, SqT.of sq, hv⟩, fun y H' ⟨e1, q⟩ => ?_⟩
  subst e1
  have e2 := q vs (SqT.of sq)
  rw [hv] at e2
  cases e2
  exact ⟨Post.refl rh, rv⟩
end

section
variable {X : Cx} {tg : Expr}
/-- a sequence -/
def iSeq (f : Den) : IDen := fun env h => match f env h with
  | some (.tup l, h1) => some ((l, []), h1)
  | some (d, h1) => (match listOf d h1 with
    | some l => some ((l, gdOf d l), h1)
    | none => none)
  | none => none
theorem iSeq_ok {f : Den} {env : DE} {h h' : HH} {items : List D} {gd : Gds} (e : iSeq f env h = some ((items, gd), h')) : (f env h = some (.tup items, h') ∧ gd = []) ∨ ∃ d, f env h = some (d, h') ∧ listOf d h' = some items ∧ gd = gdOf d items := by
  unfold iSeq at e
  split at e
  · rename_i l h1 e1
    cases e
    exact .inl ⟨e1, rfl⟩
  · rename_i d h1 hne e1
    split at e
    · rename_i l e2
      cases e
      exact .inr ⟨d, e1, e2, rfl⟩
    · cases e
  · cases e
theorem xi_seq {e : Expr} {f : Den} (he : XE X e f) : XI X tg e (iSeq f) := PIw (PI.or (pi_tup he) (pi_list he)) fun σ H R ⟨N, env, m, h, items, gd, h', g, e, q⟩ => by
  rcases iSeq_ok e with ⟨e1, rfl⟩ | ⟨d, e1, e2, rfl⟩
  · refine .inl ⟨N, env, m, h, _, _, g, e1, fun H1 m1 v p1 r1 => ?_⟩
    have r1' := r1
    obtain ⟨a, vs, ev, sq, z⟩ := r1'
    subst ev
    exact ⟨a, rfl, ⟨vs, SqT.of sq⟩, q H1 m1 _ p1 (walk_tup p1.rh r1)⟩
  · refine .inr ⟨N, env, m, h, _, _, g, e1, fun H1 m1 v p1 r1 => ?_⟩
    obtain ⟨a, vs, ev, sq, z⟩ := listOf_ok p1.rh r1 e2
    subst ev
    exact ⟨a, rfl, ⟨vs, sq⟩, q H1 m1 _ p1 (walk_list p1.rh r1 e2)⟩
/-! range -/
def rngOk (i : Int) : Bool := decide (-(2 ^ 62) ≤ i) && decide (i < 2 ^ 62)
theorem rngOk_ok {i : Int} (h : rngOk i = true) : -(2 ^ 62) ≤ i ∧ i < 2 ^ 62 := by simpa [rngOk] using h
def iRng1D (f : LDen) : IDen := fun env h => match f env h with
  | some ([.int j], h1) => if rngOk j = true then some ((rngD 0 j.toNat, []), h1) else none
  | _ => none
def iRng2D (f : LDen) : IDen := fun env h => match f env h with
  | some ([.int i, .int j], h1) => if rngOk i = true ∧ rngOk j = true then some ((rngD i (j - i).toNat, []), h1) else none
  | _ => none
theorem xi_rng1 {a : Expr} {f : LDen} {p pos : Pos} (hg : Gl X "range") (hm : X.mg "range" = none) (ha : XA X [a] f) (hs : starEach [a] X.env = [(false, eval a X.env)] := by rfl) : XI X tg (.Call (.Name "range" p) [a] [] pos) (iRng1D f) :=
  PIw (pi_range1 hg hm ha hs) fun σ H R ⟨N, env, m, h, items, gd, h', g, e, q⟩ => by
    unfold iRng1D at e
    split at e
    · rename_i j h1 e1
      split at e
      · rename_i hj
        cases e
        refine ⟨N, env, m, h, _, _, g, e1, fun H1 m1 vs p1 r1 => ?_⟩
        obtain ⟨x, ex, rx⟩ := rvs1 r1
        exact ⟨j, by rw [ex, show x = .int j from rx], (rngOk_ok hj).1, (rngOk_ok hj).2, q H1 m1 _ p1 walk_rng⟩
      · cases e
    · cases e
theorem xi_rng2 {a b : Expr} {f : LDen} {p pos : Pos} (hg : Gl X "range") (hm : X.mg "range" = none) (ha : XA X [a, b] f) (hs : starEach [a, b] X.env = [(false, eval a X.env), (false, eval b X.env)] := by rfl) (hs2 : starEach [b] X.env = [(false, eval b X.env)] := by rfl) : XI X tg (.Call (.Name "range" p) [a, b] [] pos) (iRng2D f) :=
  PIw (pi_range2 hg hm ha hs hs2) fun σ H R ⟨N, env, m, h, items, gd, h', g, e, q⟩ => by
    unfold iRng2D at e
    split at e
    · rename_i i j h1 e1
      split at e
      · rename_i hj
        cases e
        refine ⟨N, env, m, h, _, _, g, e1, fun H1 m1 vs p1 r1 => ?_⟩
        obtain ⟨x, y, ex, rx, ry⟩ := rvs2 r1
        have k1 := rngOk_ok hj.1
        have k2 := rngOk_ok hj.2
        exact ⟨i, j, by rw [ex, show x = .int i from rx, show y = .int j from ry], ⟨k1.1, k1.2, k2.1, k2.2⟩, q H1 m1 _ p1 walk_rng⟩
      · cases e
    · cases e
/-! zip -/
def iZipD (f : LDen) : IDen := fun env h => match f env h with
  | some ([.tup l, .tup l2], h1) => some ((zipD l l2, []), h1)
  | some ([d, d2], h1) => (match listOf d h1, listOf d2 h1 with
    | some l, some l2 => some ((zipD l l2, gdOf d l ++ gdOf d2 l2), h1)
    | _, _ => none)
  | _ => none
theorem xi_zip {e e2 : Expr} {f : LDen} {p pos tpos : Pos} {elts : List Expr} {kk : Nat} (hg : Gl X "zip") (hm : X.mg "zip" = none) (ha : XA X [e, e2] f)
    (hs : starEach [e, e2] X.env = (false, eval e X.env) :: starEach [e2] X.env := by rfl) (hpl : (backTo pos (starEach [e2] X.env)).any (·.1) = false := by rfl) : XI X (.Tuple elts kk tpos) (.Call (.Name "zip" p) [e, e2] [] pos) (iZipD f) :=
  PIw (pi_zipA hg hm ha hs hpl) fun σ H R ⟨N, env, m, h, items, gd, h', g, e, q⟩ => by
    unfold iZipD at e
    split at e
    · rename_i l l2 h1 e1
      cases e
      refine ⟨N, env, m, h, _, _, g, e1, fun H1 m1 vs p1 r1 => ?_⟩
      obtain ⟨x, y, ex, rx, ry⟩ := rvs2 r1
      have rx' := rx
      have ry' := ry
      obtain ⟨a, us, ev, sq, z⟩ := rx'
      obtain ⟨b, ws, ew, sq2, z2⟩ := ry'
      subst ev ew
      exact ⟨a, b, us, ws, ex, .inr ⟨SqT.of sq, SqT.of sq2, q H1 m1 _ p1 (walk_zipT p1.rh rx ry)⟩⟩
    · rename_i d d2 h1 hne e1
      split at e
      · rename_i l l2 e2 e3
        cases e
        refine ⟨N, env, m, h, _, _, g, e1, fun H1 m1 vs p1 r1 => ?_⟩
        obtain ⟨x, y, ex, rx, ry⟩ := rvs2 r1
        obtain ⟨a, us, ev, sq, z⟩ := listOf_ok p1.rh rx e2
        obtain ⟨b, ws, ew, sq2, z2⟩ := listOf_ok p1.rh ry e3
        subst ev ew
        exact ⟨a, b, us, ws, ex, .inl ⟨sq, sq2, q H1 m1 _ p1 (walk_zip p1.rh rx ry e2 e3)⟩⟩
      · cases e
    · cases e
/-! reversed -/
def iRevD (f : Den) : IDen := fun env h => match iSeq f env h with
  | some ((l, gd), h1) => some ((l.reverse, gd), h1)
  | none => none
theorem xi_rev {e : Expr} {f : Den} {p pos : Pos} (hg : Gl X "reversed") (hm : X.mg "reversed" = none) (he : XE X e f) (hs : starEach [e] X.env = (false, eval e X.env) :: starEach [] X.env := by rfl) : XI X tg (.Call (.Name "reversed" p) [e] [] pos) (iRevD f) :=
  PIw (pi_revA hg hm he hs) fun σ H R ⟨N, env, m, h, items, gd, h', g, e, q⟩ => by
    unfold iRevD at e
    split at e
    · rename_i l gd' h1 e0
      cases e
      rcases iSeq_ok e0 with ⟨e1, rfl⟩ | ⟨d, e1, e2, rfl⟩
      · refine ⟨N, env, m, h, _, _, g, e1, fun H1 m1 v p1 r1 => ?_⟩
        have r1' := r1
        obtain ⟨a, vs, ev, sq, z⟩ := r1'
        subst ev
        exact ⟨a, vs, rfl, .inr ⟨SqT.of sq, q H1 m1 _ p1 (walk_revT p1.rh r1 z.length.symm)⟩⟩
      · refine ⟨N, env, m, h, _, _, g, e1, fun H1 m1 v p1 r1 => ?_⟩
        obtain ⟨a, vs, ev, sq, z⟩ := listOf_ok p1.rh r1 e2
        subst ev
        exact ⟨a, vs, rfl, .inl ⟨sq, q H1 m1 _ p1 (walk_rev p1.rh r1 e2 z.length.symm)⟩⟩
    · cases e
end
end Dn

set_option Elab.async false
set_option linter.all false
set_option maxRecDepth 100000
set_option maxHeartbeats 1000000
/-! Dn: dicts. -/
namespace Dn
open PySem PySem.Spec PyProof.Rows L2

/-! ### keys -/
def keyOf : D → Option Key
  | .int i => some (.inl i)
  | .str x => some (.inr x)
  | _ => none
theorem keyOf_ok {d : D} {k : Key} (e : keyOf d = some k) : d = keyD k := by
  cases d <;> simp only [keyOf, reduceCtorEq] at e <;> cases e <;> rfl
def keysOf : List D → Option (List Key)
  | [] => some []
  | d :: r => match keyOf d, keysOf r with
    | some k, some ks => some (k :: ks)
    | _, _ => none
theorem keysOf_ok : ∀ {l : List D} {ks : List Key}, keysOf l = some ks → l = ks.map keyD
  | [], ks, e => by cases e; rfl
  | d :: r, ks, e => by
    simp only [keysOf] at e
    split at e
    · rename_i k ks' e1 e2
      cases e
      rw [keyOf_ok e1, keysOf_ok e2]; rfl
    · cases e
theorem keyD_inj {a b : Key} (e : keyD a = keyD b) : a = b := by
  cases a <;> cases b <;> simp [keyD] at e <;> rw [e]
theorem keysD_inj : ∀ {a b : List Key}, a.map keyD = b.map keyD → a = b
  | [], [], _ => rfl
  | [], _ :: _, e => by simp at e
  | _ :: _, [], e => by simp at e
  | x :: a, y :: b, e => by
    simp only [List.map_cons, List.cons.injEq] at e
    rw [keyD_inj e.1, keysD_inj e.2]
theorem tkeyD_inj {a b : List Key} (e : tkeyD a = tkeyD b) : a = b := keysD_inj (D.tup.inj e)
theorem beq_enc {κ : Type} [DecidableEq κ] {enc : κ → D} (inj : ∀ {a b}, enc a = enc b → a = b) (a b : κ) : D.beq (enc a) (enc b) = decide (a = b) := by
  by_cases h : a = b
  · subst h; rw [D.beq_refl]; simp
  · rw [decide_eq_false h]
    cases hb : D.beq (enc a) (enc b) with
    | false => rfl
    | true => exact absurd (inj (D.beq_eq _ _ hb)) h
def getD (l : List (D × D)) (k : D) : Option D := (l.find? fun p => D.beq p.1 k).map (·.2)
def putD (l : List (D × D)) (k v : D) : List (D × D) := if (l.any fun p => D.beq p.1 k) = true then l.map (fun p => if D.beq p.1 k = true then (p.1, v) else p) else l ++ [(k, v)]
section
variable {κ : Type} [DecidableEq κ] {enc : κ → D} {G : D → V → Prop}
abbrev PG' (enc : κ → D) (G : D → V → Prop) : List (D × D) → List (κ × V) → Prop := Paired fun p w => p.1 = enc w.1 ∧ G p.2 w.2
theorem pg_get (inj : ∀ {a b : κ}, enc a = enc b → a = b) (k : κ) {l : List (D × D)} {ws : List (κ × V)} (r : PG' enc G l ws) : (getD l (enc k) = none ∧ valV ws k = none) ∨ ∃ d v, getD l (enc k) = some d ∧ valV ws k = some v ∧ G d v := by
  unfold PG' at r
  induction r with
  | nil => exact .inl ⟨rfl, rfl⟩
  | @cons p w l ws h t ih =>
    have hb := beq_enc inj w.1 k
    rw [← h.1] at hb
    by_cases hk : w.1 = k
    · rw [decide_eq_true hk] at hb
      refine .inr ⟨p.2, w.2, ?_, valV_pos hk, h.2⟩
      simp [getD, List.find?_cons, hb]
    · rw [decide_eq_false hk] at hb
      rw [valV_neg hk]
      have e : getD (p :: l) (enc k) = getD l (enc k) := by simp [getD, List.find?_cons, hb]
      rw [e]
      exact ih
theorem pg_any (inj : ∀ {a b : κ}, enc a = enc b → a = b) (k : κ) {l : List (D × D)} {ws : List (κ × V)} (r : PG' enc G l ws) : (l.any fun p => D.beq p.1 (enc k)) = ws.any fun w => decide (w.1 = k) := by
  unfold PG' at r
  induction r with
  | nil => rfl
  | @cons p w l ws h t ih =>
    have hb := beq_enc inj w.1 k
    rw [← h.1] at hb
    rw [List.any_cons, List.any_cons, hb, ih]
theorem pg_put (inj : ∀ {a b : κ}, enc a = enc b → a = b) (k : κ) {l : List (D × D)} {ws : List (κ × V)} (r : PG' enc G l ws) {d : D} {v : V} (g : G d v) : PG' enc G (putD l (enc k) d) (putK ws k v) := by
  unfold putD putK
  rw [pg_any inj k r]
  by_cases q : (ws.any fun w => decide (w.1 = k)) = true
  · rw [if_pos q, if_pos q]
    unfold PG' at r ⊢
    clear q
    induction r with
    | nil => exact .nil
    | @cons p w l ws h t ih =>
      rw [List.map_cons, List.map_cons]
      refine .cons ?_ ih
      have hb := beq_enc inj w.1 k
      rw [← h.1] at hb
      by_cases hk : w.1 = k
      · rw [decide_eq_true hk] at hb
        rw [if_pos hb, if_pos hk]
        exact ⟨h.1, g⟩
      · rw [decide_eq_false hk] at hb
        rw [if_neg (by rw [hb]; exact Bool.false_ne_true), if_neg hk]
        exact h
  · rw [if_neg q, if_neg q]
    exact Paired.snoc r ⟨rfl, g⟩
end
/-- the dict behind a value: has it tuples for keys; its pairs -/
def dicOf (d : D) (h : HH) : Option (Bool × List (D × D)) := match d with
  | .ref n => (match h[n]? with
    | some (.dK l) => some (false, l)
    | some (.lkK l) => some (false, l)
    | some (.dT l) => some (true, l)
    | some (.lkT l) => some (true, l)
    | _ => none)
  | _ => none
def dkOk (b : Bool) (k : D) : Bool := match b with
  | false => (keyOf k).isSome
  | true => (match k with
    | .tup l => (keysOf l).isSome
    | _ => false)
section
variable {K : PySem.W.Frag} {N : Addr → Prop} {H : Hp} {m : List Addr} {h : HH}
theorem rv_key {k : Key} {v : V} (r : RV K N H m (keyD k) v) : v = kV k := by
  cases k <;> exact r
theorem rv_keys : ∀ {ks : List Key} {vs : List V}, RVs K N H m (ks.map keyD) vs → vs = ks.map kV
  | [], _, r => r
  | k :: ks, _, ⟨v, ws, e, r, z⟩ => by rw [e, rv_key r, rv_keys z]; rfl
theorem dicOf_ok (rh : RH K N H m h) {d : D} {x : V} {b : Bool} {l : List (D × D)} (r : RV K N H m d x) (e : dicOf d h = some (b, l)) : ∃ n a, d = .ref n ∧ x = .ref a ∧ m[n]? = some a ∧ ((b = false ∧ ∃ ws, Rd H a (.dK ws) ∧ PG' keyD (RV K N H m) l ws) ∨ (b = true ∧ ∃ ws, Rd H a (.dT ws) ∧ PG' tkeyD (RV K N H m) l ws)) := by
  unfold dicOf at e
  split at e
  · rename_i n
    obtain ⟨a, e1, e2⟩ := r
    refine ⟨n, a, rfl, e2, e1, ?_⟩
    split at e
    · rename_i l' e3
      cases e
      obtain ⟨ws, e4, z⟩ := rh.at_ n _ a e3 e1
      exact .inl ⟨rfl, ws, .inl e4, z⟩
    · rename_i l' e3
      cases e
      obtain ⟨ob, ws, e4, z⟩ := rh.at_ n _ a e3 e1
      exact .inl ⟨rfl, ws, .inr ⟨ob, e4⟩, z⟩
    · rename_i l' e3
      cases e
      obtain ⟨ws, e4, z⟩ := rh.at_ n _ a e3 e1
      exact .inr ⟨rfl, ws, .inl e4, z⟩
    · rename_i l' e3
      cases e
      obtain ⟨ob, ws, e4, z⟩ := rh.at_ n _ a e3 e1
      exact .inr ⟨rfl, ws, .inr ⟨ob, e4⟩, z⟩
    · cases e
  · cases e
theorem dget_ok (rh : RH K N H m h) {d k : D} {x y : V} {b : Bool} {l : List (D × D)} (r : RV K N H m d x) (rk : RV K N H m k y) (e : dicOf d h = some (b, l)) (hk : dkOk b k = true) :
    ∃ a o, x = .ref a ∧ DGet H a y o ∧ ((getD l k = none ∧ o = none) ∨ ∃ e v, getD l k = some e ∧ o = some v ∧ RV K N H m e v) := by
  obtain ⟨n, a, _, ex, _, q⟩ := dicOf_ok rh r e
  rcases q with ⟨rfl, ws, hr, z⟩ | ⟨rfl, ws, hr, z⟩
  · simp only [dkOk] at hk
    obtain ⟨kk, e1⟩ := Option.isSome_iff_exists.mp hk
    have ek := keyOf_ok e1
    subst ek
    have ey := rv_key rk
    refine ⟨a, valV ws kk, ex, .inl ⟨ws, kk, hr, ey, rfl⟩, ?_⟩
    exact pg_get (fun e => keyD_inj e) kk z
  · cases k with
    | tup l' =>
      simp only [dkOk] at hk
      obtain ⟨ks, e1⟩ := Option.isSome_iff_exists.mp hk
      have ek := keysOf_ok e1
      subst ek
      obtain ⟨p, us, ey, sq, zz⟩ := rk
      have eu := rv_keys zz
      subst eu
      refine ⟨a, valV ws ks, ex, .inr ⟨ws, ks, p, hr, ey, sq, rfl⟩, ?_⟩
      exact pg_get (enc := tkeyD) (fun e => tkeyD_inj e) ks z
    | _ => simp [dkOk] at hk
end
/-! ### d[k], k in d -/
theorem PEor {X : Cx} {e : Expr} {t t' : TE} (h : PE X e t) (h' : PE X e t') : PE X e (fun σ H Q => t σ H Q ∨ t' σ H Q) := ⟨fun pins s σ H Q I q => by
  rcases q with q | q
  · exact h.run pins s σ H Q I q
  · exact h'.run pins s σ H Q I q⟩
theorem PSor {X : Cx} {st : Stmt} {t t' : TS} (h : PS X st t) (h' : PS X st t') : PS X st (fun D σ H => t D σ H ∨ t' D σ H) := ⟨fun pins s σ H D I q => by
  rcases q with q | q
  · exact h.run pins s σ H D I q
  · exact h'.run pins s σ H D I q⟩
def pDGet : Prim := fun ds h => match ds with
  | [d, k] => (match dicOf d h with
    | some (b, l) => if dkOk b k = true then (match getD l k with
      | some e => some (e, h)
      | none => none) else none
    | none => none)
  | _ => none
def rDGet : R2 := fun x y H Q => ∃ a v, x = .ref a ∧ DGet H a y (some v) ∧ Q v H
theorem pr_dget {K : PySem.W.Frag} : PrimR K (R2l rDGet) pDGet := fun N ds vs H m h d h' Q rh rv e q => by
  unfold pDGet at e
  split at e
  · split at e
    · rename_i b l e1
      split at e
      · rename_i hk
        split at e
        · rename_i e' e2
          cases e
          obtain ⟨x, y, e3, r1, r2⟩ := rvs2 rv
          obtain ⟨a, o, ex, g, z⟩ := dget_ok rh r1 r2 e1 hk
          rcases z with ⟨z, _⟩ | ⟨e'', v, z1, z2, z3⟩
          · rw [e2] at z; cases z
          · rw [e2] at z1
            cases z1
            subst z2
            exact ⟨x, y, e3, a, v, ex, g, q H m _ (Post.refl rh) z3⟩
        · cases e
      · cases e
    · cases e
  · cases e
def isDic (ds : List D) (h : HH) : Bool := match ds with
  | d :: _ => (dicOf d h).isSome
  | [] => false
/-- o[i], o anything that has places or keys -/
def pIxA : Prim := fun ds h => if isDic ds h = true then pDGet ds h else pIx ds h
theorem xe_ixA {X : Cx} {a b : Expr} {f g : Den} {pos : Pos} (hu : X.A.units + 1 < cLine) (ha : XE X a f) (hb : XE X b g) (hs : PlainIx b := by exact fun _ _ => rfl) (hn : NoSl b := by exact fun _ _ => rfl) : XE X (.Subscript a b pos) (dApp2 pIxA f g) :=
  PEw (PEor (pe_ix ix_seq ha hb hs) (pe_dget hu ha hb hn)) fun σ H Q q => by
    obtain ⟨N, env, m, h, d, h', gg, e, q'⟩ := q
    have e0 := e
    unfold dApp2 dApp at e0
    split at e0
    · rename_i ds h1 e1
      unfold pIxA at e0
      by_cases hd : isDic ds h1 = true
      · rw [if_pos hd] at e0
        have e2 : dApp2 pDGet f g env h = some (d, h') := by
          unfold dApp2 dApp
          rw [e1]; exact e0
        exact .inr (app2_ok pr_dget ⟨N, env, m, h, d, h', gg, e2, q'⟩)
      · rw [if_neg hd] at e0
        have e2 : dApp2 pIx f g env h = some (d, h') := by
          unfold dApp2 dApp
          rw [e1]; exact e0
        exact .inl (app2_ok pr_ix ⟨N, env, m, h, d, h', gg, e2, q'⟩)
    · cases e0
def pDIn (neg : Bool) : Prim := fun ds h => match ds with
  | [k, d] => (match dicOf d h with
    | some (b, l) => if dkOk b k = true then some (.bl (if neg then !(getD l k).isSome else (getD l k).isSome), h) else none
    | none => none)
  | _ => none
def rDInY (neg : Bool) : R2 := fun y x H Q => ∃ a o, x = .ref a ∧ DGet H a y o ∧ Q (.bl (if neg then !o.isSome else o.isSome)) H
theorem pr_din {K : PySem.W.Frag} {neg : Bool} : PrimR K (R2l (rDInY neg)) (pDIn neg) := fun N ds vs H m h d h' Q rh rv e q => by
  unfold pDIn at e
  split at e
  · split at e
    · rename_i b l e1
      split at e
      · rename_i hk
        cases e
        obtain ⟨y, x, e3, r1, r2⟩ := rvs2 rv
        obtain ⟨a, o, ex, g, z⟩ := dget_ok rh r2 r1 e1 hk
        refine ⟨y, x, e3, a, o, ex, g, ?_⟩
        rcases z with ⟨z1, z2⟩ | ⟨e'', v, z1, z2, z3⟩
        · subst z2
          rw [z1] at q
          exact q H m _ (Post.refl rh) rfl
        · subst z2
          rw [z1] at q
          exact q H m _ (Post.refl rh) rfl
      · cases e
    · cases e
  · cases e
section
variable {X : Cx}
theorem op_dinY (hu : X.A.units + 1 < cLine) : OpR X (compareOp .In) (rDInY false) := by
  intro pins s σ H x y v u Q I rx ry h
  obtain ⟨a, ov, ex, g, q⟩ := h
  subst ex
  obtain rfl : u = Value.ref a := ry
  exact d_in hu I g rx fun s3 I3 => ⟨.bl ov.isSome, H, I3, rfl, q⟩
theorem op_dnotinY (hu : X.A.units + 1 < cLine) : OpR X (compareOp .NotIn) (rDInY true) := by
  intro pins s σ H x y v u Q I rx ry h
  obtain ⟨a, ov, ex, g, q⟩ := h
  subst ex
  obtain rfl : u = Value.ref a := ry
  exact d_notIn hu I g rx fun s3 I3 => ⟨.bl (!ov.isSome), H, I3, rfl, q⟩
end
def isDic2 (ds : List D) (h : HH) : Bool := match ds with
  | [_, d] => (dicOf d h).isSome
  | _ => false
def pInA (neg : Bool) : Prim := fun ds h => if isDic2 ds h = true then pDIn neg ds h else pIn neg ds h
theorem pr_inA {K : PySem.W.Frag} {neg : Bool} : PrimR K (R2l fun x y H Q => rIn K neg x y H Q ∨ rDInY neg x y H Q) (pInA neg) := fun N ds vs H m h d h' Q rh rv e q => by
  unfold pInA at e
  split at e
  · obtain ⟨x, y, e1, z⟩ := pr_din N ds vs H m h d h' Q rh rv e q
    exact ⟨x, y, e1, .inr z⟩
  · obtain ⟨x, y, e1, z⟩ := pr_in N ds vs H m h d h' Q rh rv e q
    exact ⟨x, y, e1, .inl z⟩
theorem op_inA {X : Cx} (hu : X.A.units + 1 < cLine) : OpR X (compareOp .In) (fun x y H Q => rIn X.K false x y H Q ∨ rDInY false x y H Q) := OpR.or op_in_seq (op_dinY hu)
theorem op_notInA {X : Cx} (hu : X.A.units + 1 < cLine) : OpR X (compareOp .NotIn) (fun x y H Q => rIn X.K true x y H Q ∨ rDInY true x y H Q) := OpR.or op_notIn_seq (op_dnotinY hu)
end Dn

set_option Elab.async false
set_option linter.all false
set_option maxRecDepth 100000
set_option maxHeartbeats 1000000
/-! Dn: dicts: new ones, d[k] = v, dict(pairs), loops. -/
namespace Dn
open PySem PySem.Spec PyProof.Rows L2

section
variable {K : PySem.W.Frag} {N : Addr → Prop} {H : Hp} {m : List Addr} {h : HH}
/-- a new object is owned -/
theorem Post.newO {p : Addr} {u : HO} {ob : O} (rh : RH K N H m h) (hp : H p = none)
    (ro : (∀ d v, RV K N H m d v → RV K N (upd H p u) (m ++ [p]) d v) → RO K N (upd H p u) (m ++ [p]) p ob) : Post K N H m (upd H p u) (m ++ [p]) (h ++ [ob]) := by
  have keep : ∀ a o, H a = some o → upd H p u a = some o := fun a o e => by rw [upd_ne (ne_of_none e hp)]; exact e
  have hm := rh.notin hp
  have mv : ∀ d v, RV K N H m d v → RV K N (upd H p u) (m ++ [p]) d v := RV.move rh ⟨[p], rfl⟩ (fun a o e _ => keep a o e) fun b o e n z => ⟨fun y => (by
    rcases List.mem_append.mp y with y | y
    · exact n y
    · rw [List.mem_singleton.mp y] at e
      rw [hp] at e
      cases e), z⟩
  refine ⟨⟨[p], rfl⟩, fun a o e _ => keep a o e, fun b z nb => ?_, fun a o e => ⟨o, keep a o e⟩, ⟨?_, ?_, fun b z => let ⟨o, e⟩ := rh.hid b z; ⟨o, keep b o e⟩, fun n o b e1 e2 => ?_⟩, fun a o u' e => keep a _ e⟩
  · rcases List.mem_append.mp z with z | z
    · exact absurd z nb
    · rw [List.mem_singleton.mp z]; exact hp
  · simp [rh.len]
  · rw [List.nodup_append]
    refine ⟨rh.nd, by simp, fun x hx y hy e => ?_⟩
    rw [List.mem_singleton.mp hy] at e
    exact hm (e ▸ hx)
  · by_cases hl : n < h.length
    · rw [List.getElem?_append_left hl] at e1
      rw [List.getElem?_append_left (by rw [rh.len]; exact hl)] at e2
      exact ro_map mv (keep b) o (rh.at_ n o b e1 e2)
    · have hn' : n = h.length := by
        have := (List.getElem?_eq_some_iff.mp e1).1
        simp at this; omega
      subst hn'
      rw [List.getElem?_append_right (Nat.le_refl _)] at e1
      rw [List.getElem?_append_right (by rw [rh.len]; exact Nat.le_refl _), rh.len] at e2
      simp at e1 e2
      subst e1 e2
      exact ro mv
theorem newK (rh : RH K N H m h) {p : Addr} (hp : H p = none) : Post K N H m (upd H p (.dK [])) (m ++ [p]) (h ++ [.dK []]) := Post.newO rh hp fun _ => ⟨[], upd_same, .nil⟩
theorem newT (rh : RH K N H m h) {p : Addr} (hp : H p = none) : Post K N H m (upd H p (.dT [])) (m ++ [p]) (h ++ [.dT []]) := Post.newO rh hp fun _ => ⟨[], upd_same, .nil⟩
theorem rv_new {N : Addr → Prop} {H : Hp} {p : Addr} {n : Nat} (e : n = m.length) : RV K N H (m ++ [p]) (.ref n) (.ref p) := ⟨p, by subst e; simp, rfl⟩
end
def dNewK : Den := fun _ h => some (.ref h.length, h ++ [.dK []])
def dNewT : Den := fun _ h => some (.ref h.length, h ++ [.dT []])
section
variable {X : Cx} {pos : Pos}
theorem xe_newK : XE X (.Dict [] [] pos) dNewK := PEw pe_dnewK fun σ H Q ⟨N, env, m, h, d, h', g, e, q⟩ => by
  cases e
  exact fun p hp => q _ _ _ (newK g.rh hp) (rv_new g.rh.len.symm)
theorem xe_newT : XE X (.Dict [] [] pos) dNewT := PEw pe_dnewT fun σ H Q ⟨N, env, m, h, d, h', g, e, q⟩ => by
  cases e
  exact fun p hp => q _ _ _ (newT g.rh hp) (rv_new g.rh.len.symm)
/-! ### {k: v}, k a tuple -/
def tDispT (tk tv : TE) : TE := fun σ H Q => ∀ p, H p = none → tk σ (upd H p (.dT [])) fun x H1 => tv σ H1 fun y H2 => ∃ b ks, x = .ref b ∧ H2 b = some (.tup (ks.map kV)) ∧ H2 p = some (.dT []) ∧ Q (.ref p) (upd H2 p (.dT [(ks, y)]))
theorem pe_dispT {k v : Expr} {tk tv : TE} (hu : X.A.units + 1 < cLine) (hk : PE X k tk) (hv : PE X v tv) : PE X (.Dict [some k] [v] pos) (tDispT tk tv) := by
  refine ⟨fun pins s σ H Q I q => ?_⟩
  have hn := I.hok.fresh (Nat.le_refl s.heap.objs.size)
  have I1 := I.laid (a := s.heap.objs.size) (o := .dT []) (h' := s.heap.push { cls := .type "dict", data := .dict #[] }) (t' := s.toks) (fun _ _ q => Heap.get?_push_of_some _ q) (Nat.le_refl _) (dt_empty s.heap I.big)
  have hz : pairTrees [some k] [v] X.env pos ≠ [] := fun e => by
    have := congrArg List.length e
    rw [pairTrees_length _ _ _ _ rfl rfl] at this
    simp at this
  rw [arm_eval_Dict, zip_pairTrees [some k] [v] X.env pos rfl rfl, dictDisplay_pairs (pairTrees [some k] [v] X.env pos) hz (by rw [pairTrees_length _ _ _ _ rfl rfl]; simp)]
  refine wpAny_bind (wpAny_standAt (wpAny_bind (wpAny_subDictH (knd := tupleKind (mixKind X.prog X.w)) (show (tupleKind (mixKind X.prog X.w)).room X.A from (Nat.lt_of_succ_lt hu : X.A.units < cLine)) (by rw [pairTrees_length _ _ _ _ rfl rfl]; simp) ?_)))
  refine pairTrees_cons_walk (thn (hk.run pins _ σ _ _ I1 (q _ hn)) fun u s1 ⟨x, H1, J1, rx, q1⟩ => thn (hv.run pins s1 σ H1 _ J1 q1) fun w2 s2 ⟨y, H2, J2, ry, b, ks, ex, eb, ep, q2⟩ => ?_)
  refine pairTrees_nil_walk ?_
  subst ex
  obtain rfl : u = Value.ref b := rx
  obtain ⟨z, hd, xs, rel, dd⟩ := dt_of J2.hok ep
  cases rel
  refine ⟨[(ks, b, w2)], ⟨rfl, rfl, key_of J2.hok eb, trivial⟩, dd, fun h' tk dd' hs => wpAny_pure ⟨.ref s.heap.objs.size, _, ?_, rfl, q2⟩⟩
  obtain ⟨q', es, ep', hq, h2, h3, h4, _, h5⟩ := dd'
  have I3 := d_write (t' := tk) (h' := h') (ob := .dT [(ks, y)]) J2 (by rw [ep]; exact True.intro) hs ⟨q', hq⟩ ⟨by show 1 ≤ sizeLine; decide, hd, _, Paired.cons ⟨rfl, by rw [upd_ne (ne_of eb ep (fun z => nomatch z))]; exact eb, ry⟩ .nil, q', es, ep', hq, h2, h3, h4, h5⟩
  exact I3
def dDispT (fk fv : Den) : Den := fun env h => match fk env (h ++ [.dT []]) with
  | some (.tup kl, h1) => if (keysOf kl).isSome = true then (match fv env h1 with
    | some (v, h2) => (match h2[h.length]? with
      | some (.dT []) => some (.ref h.length, h2.set h.length (.dT [(.tup kl, v)]))
      | _ => none)
    | none => none) else none
  | _ => none
theorem xe_dispT {k v : Expr} {fk fv : Den} (hu : X.A.units + 1 < cLine) (hk : XE X k fk) (hv : XE X v fv) : XE X (.Dict [some k] [v] pos) (dDispT fk fv) :=
  PEw (pe_dispT hu hk hv) fun σ H Q ⟨N, env, m, h, d, h', g, e, q⟩ => by
    unfold dDispT at e
    split at e
    · rename_i kl h1 e1
      split at e
      · rename_i hks
        split at e
        · rename_i v' h2 e2
          split at e
          · rename_i e3
            cases e
            obtain ⟨ks, e4⟩ := Option.isSome_iff_exists.mp hks
            have ek := keysOf_ok e4
            subst ek
            refine fun p hp => ?_
            have p0 := newT g.rh hp
            refine ⟨N, env, m ++ [p], _, _, h1, g.mono p0, e1, fun H1 m1 x p1 r1 => ⟨N, env, m1, h1, v', h2, (g.mono p0).mono p1, e2, fun H2 m2 y p2 r2 => ?_⟩⟩
            obtain ⟨b, us, ex, sq, zz⟩ := RV.mono p1.rh p2 _ _ r1
            have eu := rv_keys zz
            subst eu
            have p02 := p1.trans p2
            have hm2 : m2[h.length]? = some p := by
              obtain ⟨e', he'⟩ := p02.pre
              rw [he', List.getElem?_append_left (by simp [g.rh.len]), ← g.rh.len]
              simp
            obtain ⟨ws, ews, zw⟩ := p2.rh.at_ _ _ _ e3 hm2
            cases zw
            refine ⟨b, ks, ex, sq, ews, ?_⟩
            have p3 : Post X.K N H2 m2 (upd H2 p (.dT [(ks, y)])) m2 (h2.set h.length (.dT [(.tup (ks.map keyD), v')])) :=
              Post.setO p2.rh hm2 (fun o u z => by rw [ews] at z; cases z) fun mv => ⟨[(ks, y)], upd_same, .cons ⟨rfl, mv _ _ r2⟩ .nil⟩
            exact q _ m2 _ ((p0.trans p02).trans p3) ⟨p, hm2, rfl⟩
          · cases e
        · cases e
      · cases e
    · cases e
/-! ### o[i] = v, a list or a dict -/
def putIn (n : Nat) (k v : D) (h : HH) : Option HH := match h[n]? with
  | some (.lst l) => (match k with
    | .int i => (match ixN l.length i with
      | some j => some (h.set n (.lst (l.set j v)))
      | none => none)
    | _ => none)
  | some (.dK l) => if (keyOf k).isSome = true ∧ l.length < 1000000 then some (h.set n (.dK (putD l k v))) else none
  | some (.dT l) => (match k with
    | .tup kl => if (keysOf kl).isSome = true ∧ l.length < 1000000 then some (h.set n (.dT (putD l (.tup kl) v))) else none
    | _ => none)
  | _ => none
def sPutA (fv fo fi : Den) : SDen := fun env h => match fv env h with
  | some (v, h1) => (match fo env h1 with
    | some (.ref n, h2) => (match fi env h2 with
      | some (k, h3) => (match putIn n k v h3 with
        | some h4 => some (.nx, env, h4)
        | none => none)
      | none => none)
    | _ => none)
  | none => none
theorem dput_ok {K : PySem.W.Frag} {N : Addr → Prop} {H : Hp} {m : List Addr} {h h' : HH} {n : Nat} {k v : D} {x y u : V} (rh : RH K N H m h) (rx : RV K N H m (.ref n) x) (rk : RV K N H m k y) (rv : RV K N H m v u) (hl : ∀ l, h[n]? ≠ some (.lst l)) (e : putIn n k v h = some h') :
    ∃ a H', x = .ref a ∧ DPut H a y u H' ∧ Post K N H m H' m h' := by
  obtain ⟨a, e1, ex⟩ := rx
  unfold putIn at e
  split at e
  · rename_i l e2
    exact absurd e2 (hl l)
  · rename_i l e2
    split at e
    · rename_i hk
      cases e
      obtain ⟨kk, e3⟩ := Option.isSome_iff_exists.mp hk.1
      have ek := keyOf_ok e3
      subst ek
      obtain ⟨ws, ew, z⟩ := rh.at_ _ _ _ e2 e1
      have hz : ws.length < sizeLine := by rw [← paired_len z]; exact line_of (Nat.le_of_lt hk.2)
      refine ⟨a, upd H a (.dK (putK ws kk u)), ex, .inl ⟨ws, kk, ew, rv_key rk, hz, rfl⟩, ?_⟩
      refine Post.setO rh e1 (fun o u z => by rw [ew] at z; cases z) fun mv => ⟨_, upd_same, ?_⟩
      have zz : PG' keyD (RV K N (upd H a (.dK (putK ws kk u))) m) l ws := Paired.mapP z fun x y w => ⟨w.1, mv _ _ w.2⟩
      exact pg_put (fun e => keyD_inj e) kk zz (mv _ _ rv)
    · cases e
  · rename_i l e2
    split at e
    · rename_i kl
      split at e
      · rename_i hk
        cases e
        obtain ⟨ks, e3⟩ := Option.isSome_iff_exists.mp hk.1
        have ek := keysOf_ok e3
        subst ek
        obtain ⟨ws, ew, z⟩ := rh.at_ _ _ _ e2 e1
        obtain ⟨b, us, ey, sq, zz⟩ := rk
        have eu := rv_keys zz
        subst eu
        have hz : ws.length < sizeLine := by rw [← paired_len z]; exact line_of (Nat.le_of_lt hk.2)
        refine ⟨a, upd H a (.dT (putK ws ks u)), ex, .inr ⟨ws, ks, b, ew, ey, sq, hz, rfl⟩, ?_⟩
        refine Post.setO rh e1 (fun o u z => by rw [ew] at z; cases z) fun mv => ⟨_, upd_same, ?_⟩
        have zz : PG' tkeyD (RV K N (upd H a (.dT (putK ws ks u))) m) l ws := Paired.mapP z fun x y w => ⟨w.1, mv _ _ w.2⟩
        exact pg_put (enc := tkeyD) (fun e => tkeyD_inj e) ks zz (mv _ _ rv)
      · cases e
    · cases e
  · cases e
theorem xs_putA {o i value : Expr} {fv fo fi : Den} {pos' : Pos} (hu : X.A.units + 1 < cLine) (hv : XE X value fv) (ho : XE X o fo) (hi : XE X i fi)
    (ha : ∀ v, assign (.Subscript o i pos') X.env v = (do
      let ov ← holding [v] (eval o X.env)
      let iv ← holding [v, ov] (eval i X.env)
      standAt pos'
      holding [v, ov, iv] (setItem ov iv v)
      release [v, ov, iv] []) := by intro _; rfl)
    (hs : swapsWithSole [.Subscript o i pos'] value pos.line X.env = pure false := by rfl) (hw : swappedStores [.Subscript o i pos'] value X.env = pure none := by rfl)
    (h1 : (assignEach [.Subscript o i pos'] X.env).map (·.2) = [assign (.Subscript o i pos') X.env] := by rfl) (hs2 : swapsWith value (some (.Subscript o i pos')) pos.line X.env = pure false := by rfl) :
    XS X (.Assign [.Subscript o i pos'] value pos) (sPutA fv fo fi) :=
  PSw (PSor (xs_asg hv (xg_sub ho hi ha) hs hw h1) (ps_dput hu ho hi hv hs2)) fun D σ H ⟨N, env, m, h, fl, env', h', g, e, q⟩ => by
    have e0 := e
    unfold sPutA at e0
    split at e0
    · rename_i v h1 e1
      split at e0
      · rename_i n h2 e2
        split at e0
        · rename_i k h3 e3
          split at e0
          · rename_i h4 e4
            cases e0
            by_cases hl : ∃ l, h3[n]? = some (.lst l)
            · obtain ⟨l, hl⟩ := hl
              refine .inl ⟨N, env, m, h, _, _, _, g, ?_, q⟩
              unfold putIn at e4
              rw [hl] at e4
              simp only at e4
              split at e4
              · rename_i i'
                split at e4
                · rename_i j e5
                  cases e4
                  unfold sAsg gSubD
                  simp only [e1, e2, e3, hl, e5]
                · cases e4
              · cases e4
            · refine .inr ⟨N, env, m, h, v, h1, g, e1, fun H1 m1 u p1 r1 => ⟨N, env, m1, h1, _, h2, g.mono p1, e2, fun H2 m2 x p2 r2 => ⟨N, env, m2, h2, k, h3, (g.mono p1).mono p2, e3, fun H3 m3 y p3 r3 => ?_⟩⟩⟩
              obtain ⟨a, H4, ex, dp, p4⟩ := dput_ok p3.rh (RV.mono p2.rh p3 _ _ r2) r3 (RV.mono p1.rh (p2.trans p3) _ _ r1) (fun l z => hl ⟨l, z⟩) e4
              have pA := ((p1.trans p2).trans p3).trans p4
              exact ⟨a, H4, ex, dp, q σ H4 m3 pA (g.mono pA).re⟩
          · cases e0
        · cases e0
      · cases e0
    · cases e0
end
end Dn

set_option Elab.async false
set_option linter.all false
set_option maxRecDepth 100000
set_option maxHeartbeats 1000000
/-! Dn: dict(pairs); loops over dicts (a dict that is walked stays locked). -/
namespace Dn
open PySem PySem.Spec PyProof.Rows L2

/-! ### dict([(k, v), ..]) -/
def pairsOf : List D → Option (List (D × D))
  | [] => some []
  | .tup [k, v] :: r => if (keyOf k).isSome = true then (match pairsOf r with
    | some ps => some ((k, v) :: ps)
    | none => none) else none
  | _ => none
def mergeD (acc l : List (D × D)) : List (D × D) := l.foldl (fun acc p => putD acc p.1 p.2) acc
section
variable {K : PySem.W.Frag} {N : Addr → Prop} {H : Hp} {m : List Addr} {h : HH}
theorem pairs_ok : ∀ {l : List D} {vs : List V} {ps : List (D × D)}, RVs K N H m l vs → pairsOf l = some ps → ∃ (as : List Addr) (kvs : List (Key × V)), vs = as.map V.ref ∧ Paired (fun p kv => SqT K H p [kV kv.1, kv.2]) as kvs ∧ PG' keyD (RV K N H m) ps kvs
  | [], vs, ps, r, e => by
    cases e
    rw [show vs = [] from r]
    exact ⟨[], [], rfl, .nil, .nil⟩
  | d :: l, vs, ps, ⟨v, ws, e1, r, z⟩, e => by
    subst e1
    unfold pairsOf at e
    split at e
    · rename_i heq; cases heq
    · rename_i k x r' heq
      cases heq
      split at e
      · rename_i hk
        split at e
        · rename_i ps' e2
          cases e
          obtain ⟨kk, e3⟩ := Option.isSome_iff_exists.mp hk
          have ek := keyOf_ok e3
          subst ek
          obtain ⟨a, us, ev, sq, zz⟩ := r
          obtain ⟨y1, y2, eu, r1, r2⟩ := rvs2 zz
          subst eu ev
          obtain ⟨as, kvs, e4, p1, p2⟩ := pairs_ok z e2
          subst e4
          have ey := rv_key r1
          subst ey
          exact ⟨a :: as, (kk, y2) :: kvs, rfl, .cons (SqT.of sq) p1, .cons ⟨rfl, r2⟩ p2⟩
        · cases e
      · cases e
    · cases e
theorem pg_merge {G : D → V → Prop} : ∀ {ps : List (D × D)} {kvs : List (Key × V)} {acc : List (D × D)} {ws : List (Key × V)}, PG' keyD G ps kvs → PG' keyD G acc ws → PG' keyD G (mergeD acc ps) (mergeK ws kvs) := by
  intro ps kvs acc ws r
  unfold PG' at r
  induction r generalizing acc ws with
  | nil => intro q; exact q
  | @cons p w l l2 h t ih =>
    intro q
    have e := pg_put (fun e => keyD_inj e) w.1 q h.2
    rw [← h.1] at e
    exact ih e
end
def pDictP : Prim := fun ds h => match ds with
  | [d] => (match listOf d h with
    | some l => (match pairsOf l with
      | some ps => some (.ref h.length, h ++ [.dK (mergeD [] ps)])
      | none => none)
    | none => none)
  | _ => none
theorem pr_dictP {K : PySem.W.Frag} : PrimR K (fun xs H Q => ∃ (a : Addr) (ps : List Addr) (kvs : List (Key × V)), xs = [.ref a] ∧ SqL K H a (ps.map V.ref) ∧ Paired (fun p kv => SqT K H p [kV kv.1, kv.2]) ps kvs ∧
    ∀ p, H p = none → Q (.ref p) (upd H p (.dK (mergeK [] kvs)))) pDictP := fun N ds vs H m h d h' Q rh rv e q => by
  unfold pDictP at e
  split at e
  · split at e
    · rename_i l e1
      split at e
      · rename_i ps e2
        cases e
        obtain ⟨v, e3, r1⟩ := rvs1 rv
        obtain ⟨a, us, ev, sq, z⟩ := listOf_ok rh r1 e1
        obtain ⟨as, kvs, e4, p1, p2⟩ := pairs_ok z e2
        subst ev e4
        refine ⟨a, as, kvs, e3, sq, p1, fun p hp => ?_⟩
        refine q _ _ _ (Post.newO (ob := .dK (mergeD [] ps)) rh hp fun mv => ⟨_, upd_same, ?_⟩) (rv_new rh.len.symm)
        have zz : PG' keyD (RV K N (upd H p (.dK (mergeK [] kvs))) (m ++ [p])) ps kvs := Paired.mapP p2 fun x y w => ⟨w.1, mv _ _ w.2⟩
        exact pg_merge zz .nil
      · cases e
    · cases e
  · cases e

/-! ### locks -/
def tLk (td : TE) : TE := fun σ H Q => td σ H fun x H1 => ∃ d, x = .ref d ∧ ((∃ u, H1 d = some u ∧ Mut (some u) ∧ ∀ od, Q x (upd H1 d (.frz od u))) ∨ ∃ od u, H1 d = some (.frz od u) ∧ Q x H1)
theorem pe_lk {X : Cx} {e : Expr} {td : TE} (he : PE X e td) : PE X e (tLk td) := ⟨fun pins s σ H Q I h => by
  refine thn (he.run pins s σ H _ I h) fun u s1 ⟨x, H1, I1, rx, d, ex, q⟩ => ?_
  rcases q with ⟨u', hd, mu, q⟩ | ⟨od, u', hd, q⟩
  · obtain ⟨od, I2⟩ := I1.lock hd mu
    exact ⟨x, _, I2, rx, q od⟩
  · exact ⟨x, H1, I1, rx, q⟩⟩
/-- the dict at place n, locked: its kind, its pairs -/
def lockH (n : Nat) (h : HH) : Option (Bool × List (D × D) × HH) := match h[n]? with
  | some (.dK l) => some (false, l, h.set n (.lkK l))
  | some (.lkK l) => some (false, l, h)
  | some (.dT l) => some (true, l, h.set n (.lkT l))
  | some (.lkT l) => some (true, l, h)
  | _ => none
def tLkD (K : PySem.W.Frag) (f : Den) : TE := fun σ H Q => ∃ N env m h n h1 b l h', G K N H m σ env h ∧ f env h = some (.ref n, h1) ∧ lockH n h1 = some (b, l, h') ∧
  ∀ H' m' a o, Post K N H m H' m' h' → ((b = false ∧ ∃ ws, H' a = some (.frz o (.dK ws)) ∧ PG' keyD (RV K N H' m') l ws) ∨ (b = true ∧ ∃ ws, H' a = some (.frz o (.dT ws)) ∧ PG' tkeyD (RV K N H' m') l ws)) → Q (.ref a) H'
theorem xe_lk {X : Cx} {e : Expr} {f : Den} (he : XE X e f) : PE X e (tLkD X.K f) := PEw (pe_lk he) fun σ H Q ⟨N, env, m, h, n, h1, b, l, h', g, e, el, q⟩ => by
  refine ⟨N, env, m, h, _, h1, g, e, fun H1 m1 v p1 ⟨a, e1, ev⟩ => ?_⟩
  subst ev
  refine ⟨a, rfl, ?_⟩
  unfold lockH at el
  split at el
  · rename_i l' e2
    cases el
    obtain ⟨ws, ew, z⟩ := p1.rh.at_ _ _ _ e2 e1
    refine .inl ⟨_, ew, True.intro, fun od => ?_⟩
    have p2 : Post X.K N H1 m1 (upd H1 a (.frz od (.dK ws))) m1 (h1.set n (.lkK l)) := Post.setO p1.rh e1 (fun o u z => by rw [ew] at z; cases z) fun mv => ⟨od, ws, upd_same, Paired.mapP z fun x y w => ⟨w.1, mv _ _ w.2⟩⟩
    have z2 : PG' keyD (RV X.K N (upd H1 a (.frz od (.dK ws))) m1) l ws := Paired.mapP z fun x y w => ⟨w.1, RV.mono p1.rh p2 _ _ w.2⟩
    exact q _ m1 a od (p1.trans p2) (.inl ⟨rfl, ws, upd_same, z2⟩)
  · rename_i l' e2
    cases el
    obtain ⟨od, ws, ew, z⟩ := p1.rh.at_ _ _ _ e2 e1
    exact .inr ⟨od, _, ew, q H1 m1 a od p1 (.inl ⟨rfl, ws, ew, z⟩)⟩
  · rename_i l' e2
    cases el
    obtain ⟨ws, ew, z⟩ := p1.rh.at_ _ _ _ e2 e1
    refine .inl ⟨_, ew, True.intro, fun od => ?_⟩
    have p2 : Post X.K N H1 m1 (upd H1 a (.frz od (.dT ws))) m1 (h1.set n (.lkT l)) := Post.setO p1.rh e1 (fun o u z => by rw [ew] at z; cases z) fun mv => ⟨od, ws, upd_same, Paired.mapP z fun x y w => ⟨w.1, mv _ _ w.2⟩⟩
    have z2 : PG' tkeyD (RV X.K N (upd H1 a (.frz od (.dT ws))) m1) l ws := Paired.mapP z fun x y w => ⟨w.1, RV.mono p1.rh p2 _ _ w.2⟩
    exact q _ m1 a od (p1.trans p2) (.inr ⟨rfl, ws, upd_same, z2⟩)
  · rename_i l' e2
    cases el
    obtain ⟨od, ws, ew, z⟩ := p1.rh.at_ _ _ _ e2 e1
    exact .inr ⟨od, _, ew, q H1 m1 a od p1 (.inr ⟨rfl, ws, ew, z⟩)⟩
  · cases el

/-! ### values, items of a dict with tuple keys -/
/-- the values -/
def ItdT (d : Addr) (o : Obj) (kvs : List (List Key × V)) : It :=
  ⟨fun i H => H d = some (.frz o (.dT kvs)) ∧ i < kvs.length, fun i H x H' => H' = H ∧ ∃ k, kvs[i]? = some (k, x), fun i H => H d = some (.frz o (.dT kvs)) ∧ kvs.length ≤ i⟩
/-- the pairs, each a new tuple -/
def ItiT (d : Addr) (o : Obj) (kvs : List (List Key × V)) : It :=
  ⟨fun i H => H d = some (.frz o (.dT kvs)) ∧ i < kvs.length, fun i H x H' => ∃ T k v q, kvs[i]? = some (k, v) ∧ H q = some (.tup (k.map kV)) ∧ x = .ref T ∧ H T = none ∧ H' = upd H T (.tup [.ref q, v]), fun i H => H d = some (.frz o (.dT kvs)) ∧ kvs.length ≤ i⟩
section
variable {X : Cx} {pins : List (Addr × Obj)} {σ : L2.St} {H : Hp} {s : Shared} {d : Addr} {o : Obj}
theorem frzT2 {kvs : List (List Key × V)} (I : L2.Inv X pins σ H s) (h : H d = some (.frz o (.dT kvs))) :
    (d == sysModules) = false ∧ s.heap.get? d = some o ∧ o.ExactDict ∧ ∃ (es : Array DictEntry) (ep : Nat), o.data = .dict es ep ∧ s.heap.DictRaw d es ep ∧ es.size = kvs.length ∧
      ∀ (i : Nat) (k : List Key) (v : V), kvs[i]? = some (k, v) → ∃ (hi : i < es.size) (q : Addr), es[i].key = .ref q ∧ H q = some (.tup (k.map kV)) ∧ RelV v es[i].val := by
  obtain ⟨hd, z, hs, xs, pr, o', es, ep, ho, hx, hdt, he, _⟩ := I.hok d _ h
  rw [hd] at ho
  cases ho
  have hsz : es.size = kvs.length := by
    have l1 : es.size = xs.length := size_of_entries he
    have l2 : kvs.length = xs.length := Paired.length pr
    omega
  refine ⟨hs, hd, hx, es, ep, hdt, ⟨o, hd, hx, hdt⟩, hsz, fun i k v e => ?_⟩
  have hi : i < es.size := by rw [hsz]; exact (List.getElem?_eq_some_iff.mp e).1
  obtain ⟨b, hb, e1, e2, e3⟩ := paired_get pr e
  have q := entry_at he i
  rw [hb, Array.getElem?_eq_getElem hi] at q
  have q' := Option.some.inj q
  exact ⟨hi, b.2.1, by rw [q']; rfl, e2, by rw [q']; exact e3⟩
end
section
variable {P : Program} {w : World} {K : PySem.W.Frag} {tg : Expr} {d : Addr} {o : Obj} {es : Array DictEntry} {ep : Nat}
theorem turn_valsT {kvs : List (List Key × V)} (it : Addr) (hod : o.data = .dict es ep) : Turn P w K tg (ItdT d o kvs) [it] it (fun i h => h.IsValIter it d i kvs.length ep) where
  mem := by simp
  obj := fun i h st b hb => by
    have e : b = it := by simpa using hb
    subst e
    obtain ⟨oi, e, c, dd⟩ := st
    exact ⟨oi, e, fun v z => by rw [dd] at z; cases z⟩
  keep := fun i h h' st k => st.at fun oi e => k it (by simp) oi e
  item := by
    intro X hP hw hK hc i pins s σ H E I hf st hg
    subst hP hw hK
    obtain ⟨hd, hi⟩ := hg
    obtain ⟨f0, f1, f2, f3, f4, f5⟩ := hf it (by simp)
    obtain ⟨hs, hgd, hx, es', ep', hdt, raw, hsz, ent⟩ := frzT2 I hd
    obtain ⟨rfl, rfl⟩ := dict_ep hod hdt
    obtain ⟨⟨k, v⟩, hkv⟩ : ∃ p, kvs[i]? = some p := ⟨kvs[i], List.getElem?_eq_getElem hi⟩
    obtain ⟨hie, q, ek, eq, rv⟩ := ent i k v hkv
    rw [← hsz] at st
    refine wpAny_pyNext_values_item_raw st raw hie fun h' st' sb => ?_
    have I1 : L2.Inv X pins σ H { s with heap := h' } := I.turned (t' := s.toks) (fun b ob hb e => (sb.2 b hb).trans e) f0 f1 f3 f4 f5
    obtain ⟨oi, e, c, dd⟩ := id st'
    refine ⟨_, rfl, go_of (s := { s with heap := h' }) e c dd (by decide) ⟨v, H, I1, rv, ⟨rfl, k, hkv⟩, ?_, fun b hb => (hf b hb).1⟩⟩
    show h'.IsValIter it d (i + 1) kvs.length _
    rw [← hsz]
    exact st'
  done := by
    intro X hP hw hK hc i pins s σ H E I hf st hg
    subst hP hw hK
    obtain ⟨hd, hi⟩ := hg
    obtain ⟨f0, f1, f2, f3, f4, f5⟩ := hf it (by simp)
    obtain ⟨hs, hgd, hx, es', ep', hdt, raw, hsz, ent⟩ := frzT2 I hd
    obtain ⟨rfl, rfl⟩ := dict_ep hod hdt
    rw [← hsz] at st hi
    exact wpAny_pyNext_values_end_raw (I.ok.hd hc) st raw hi fun h' eb => ⟨rfl, I.turned (t' := s.toks) (fun b ob hb e => eb b ob hb e) f0 f1 f3 f4 f5⟩
  self := fun A i s Q E st h => wpAny_pyIter_valiter st h
theorem turn_itemsT {kvs : List (List Key × V)} {elts : List Expr} {kk : Nat} {tpos : Pos} (it : Addr) (hod : o.data = .dict es ep) :
    Turn P w K (.Tuple elts kk tpos) (ItiT d o kvs) [it] it (fun i h => ∃ ok ov, IsItemIter h it d i kvs.length ep ok ov) where
  mem := by simp
  obj := fun i h st b hb => by
    have e : b = it := by simpa using hb
    subst e
    obtain ⟨ok, ov, e⟩ := st
    exact ⟨_, e, fun v z => nomatch z⟩
  keep := fun i h h' st k => let ⟨ok, ov, e⟩ := st; ⟨ok, ov, k it (by simp) _ e⟩
  item := by
    intro X hP hw hK hc i pins s σ H E I hf st hg
    subst hP hw hK
    obtain ⟨hd, hi⟩ := hg
    obtain ⟨hs, hgd, hx, es', ep', hdt, raw, hsz, ent⟩ := frzT2 I hd
    obtain ⟨rfl, rfl⟩ := dict_ep hod hdt
    obtain ⟨⟨k, v⟩, hkv⟩ : ∃ p, kvs[i]? = some p := ⟨kvs[i], List.getElem?_eq_getElem hi⟩
    obtain ⟨hie, q, ek, eq, rv⟩ := ent i k v hkv
    obtain ⟨ok, ov, he⟩ := st
    rw [← hsz] at he
    have hlt : it < s.heap.objs.size := Heap.lt_size he
    refine wpAny_pyNext_items_item_raw he raw hie fun h' ho hT hz hk => ?_
    refine ⟨_, rfl, wpAny_letOwnedTupleGo_items (s := { s with heap := h' }) ho fun h'' he' sb => ?_⟩
    have hT2 : h''.get? s.heap.objs.size = some { cls := .type "tuple", data := .seq #[es'[i].key, es'[i].val] } := (sb.2 _ (Nat.ne_of_gt hlt)).trans hT
    have new : ObjOk X.prog X.w (upd H s.heap.objs.size (.tup [.ref q, v])) h'' s.heap.objs.size (.tup [.ref q, v]) :=
      ⟨by show 2 ≤ sizeLine; decide, [es'[i].key, es'[i].val], .cons ek (.cons rv .nil), ⟨_, hT2, rfl, _, rfl⟩⟩
    have I1 : L2.Inv X pins σ (upd H s.heap.objs.size (.tup [.ref q, v])) { s with heap := h'' } :=
      I.turnedNew (t' := s.toks) (ch := [it]) (fun b ob hb e => (sb.2 b (by simpa using hb)).trans (hk b ob (by simpa using hb) e)) hf (Nat.le_refl _) new
    refine ⟨.ref s.heap.objs.size, _, I1, rfl, ⟨_, k, v, q, hkv, eq, rfl, I.hok.fresh (Nat.le_refl _), rfl⟩, ⟨es'[i].key, es'[i].val, ?_⟩, fun b hb => ?_⟩
    · rw [← hsz]; exact he'
    · have e : b = it := by simpa using hb
      rw [e, upd_ne (Nat.ne_of_lt hlt)]
      exact (hf it (by simp)).1
  done := by
    intro X hP hw hK hc i pins s σ H E I hf st hg
    subst hP hw hK
    obtain ⟨hd, hi⟩ := hg
    obtain ⟨f0, f1, f2, f3, f4, f5⟩ := hf it (by simp)
    obtain ⟨hs, hgd, hx, es', ep', hdt, raw, hsz, ent⟩ := frzT2 I hd
    obtain ⟨rfl, rfl⟩ := dict_ep hod hdt
    obtain ⟨ok, ov, he⟩ := st
    rw [← hsz] at he hi
    exact wpAny_pyNext_items_end_raw (I.ok.hd hc) he raw hi fun h' eb => ⟨rfl, I.turned (t' := s.toks) (fun b ob hb e => eb b ob hb e) f0 f1 f3 f4 f5⟩
  self := fun A i s Q E st h => let ⟨_, _, e⟩ := st; PySem.W.kcp_self e h
end
def iValsT (td : TE) : TI := fun σ H R => td σ H fun x H1 => ∃ d o kvs, x = .ref d ∧ H1 d = some (.frz o (.dT kvs)) ∧ R (ItdT d o kvs) H1
def iItemsT (td : TE) : TI := fun σ H R => td σ H fun x H1 => ∃ d o kvs, x = .ref d ∧ H1 d = some (.frz o (.dT kvs)) ∧ R (ItiT d o kvs) H1
section
variable {X : Cx} {tg e : Expr} {td : TE} {apos cpos : Pos}
theorem pi_valuesT (he : PE X e td) (hbase : attributeBase e "values" X.env (eval e X.env) = eval e X.env := by rfl) (hline : (apos.endLine == cpos.line) = true := by rfl) : PI X tg (.Call (.Attribute e "values" apos) [] [] cpos) (iValsT td) := by
  refine ⟨fun pins s σ H R I h => ?_⟩
  refine wpAny_Call_method (T := "dict") (id := "dict.values") hbase rfl hline F.plainAttrs_dict F.slot_dict_values F.type_dict_values (thn (he.run pins s σ H _ I h) fun u s1 ⟨x, H1, I1, rx, d, o, kvs, ex, hd, q⟩ => ?_)
  subst ex
  obtain rfl : u = Value.ref d := rx
  obtain ⟨hs, hgd, hx, es, ep, hdt, raw, hsz, ent⟩ := frzT2 I1 hd
  refine ⟨raw.typeIs, fun b q => (by cases q; exact ⟨o, hgd, hx.2.1⟩), ?_⟩
  have I2 : L2.Inv X pins σ H1 { s1 with heap := s1.heap.push { cls := .type "dict_values", data := .fields #[.ref d] } } := I1.kept (t' := s1.toks) fun b ob q => Heap.get?_push_of_some _ q
  have fin : wpAny (model X.prog X.w) X.A (pyIter (.ref s1.heap.objs.size)) (PIE X pins σ tg R) X.xe { s1 with heap := s1.heap.push { cls := .type "dict_values", data := .fields #[.ref d] } } := by
    refine wpAny_pyIter_values_raw (d := d) (es := es) (ep := ep) ⟨_, Heap.get?_push_size _ rfl, rfl, rfl⟩ (raw.at fun _ e => Heap.get?_push_of_some _ e) (pi_one (tk := s1.toks) I2 _ (turn_valsT _ hdt) ⟨_, Heap.get?_push_size _ rfl, rfl, ?_⟩ q)
    rw [hsz] <;> rfl
  show wpAny _ _ (callWith cpos (.builtin "dict.values") [.ref d] [] []) _ X.xe s1
  exact method_meetsIn F.slot_dict_values F.entry_dict_values rfl (PySem.evalArgs_none ⟨rfl, raw.typeIs, F.args_dict_values_1 _, _, meets_dict_values_raw d hs, ⟨es, ep, raw⟩, fin⟩)
theorem pi_itemsT {elts : List Expr} {kk : Nat} {tpos : Pos} (he : PE X e td) (hbase : attributeBase e "items" X.env (eval e X.env) = eval e X.env := by rfl) (hline : (apos.endLine == cpos.line) = true := by rfl) :
    PI X (.Tuple elts kk tpos) (.Call (.Attribute e "items" apos) [] [] cpos) (iItemsT td) := by
  refine ⟨fun pins s σ H R I h => ?_⟩
  refine wpAny_Call_method (T := "dict") (id := "dict.items") hbase rfl hline F.plainAttrs_dict F.slot_dict_items F.type_dict_items (thn (he.run pins s σ H _ I h) fun u s1 ⟨x, H1, I1, rx, d, o, kvs, ex, hd, q⟩ => ?_)
  subst ex
  obtain rfl : u = Value.ref d := rx
  obtain ⟨hs, hgd, hx, es, ep, hdt, raw, hsz, ent⟩ := frzT2 I1 hd
  refine ⟨raw.typeIs, fun b q => (by cases q; exact ⟨o, hgd, hx.2.1⟩), ?_⟩
  have I2 : L2.Inv X pins σ H1 { s1 with heap := s1.heap.push { cls := .type "dict_items", data := .fields #[.ref d] } } := I1.kept (t' := s1.toks) fun b ob q => Heap.get?_push_of_some _ q
  have fin : wpAny (model X.prog X.w) X.A (pyIter (.ref s1.heap.objs.size)) (PIE X pins σ (.Tuple elts kk tpos) R) X.xe { s1 with heap := s1.heap.push { cls := .type "dict_items", data := .fields #[.ref d] } } := by
    refine wpAny_pyIter_items_raw (d := d) (es := es) (ep := ep) ⟨_, Heap.get?_push_size _ rfl, rfl, rfl⟩ (raw.at fun _ e => Heap.get?_push_of_some _ e) (pi_one (tk := s1.toks) I2 _ (turn_itemsT _ hdt) ⟨.none, .none, ?_⟩ q)
    rw [← hsz]
    exact Heap.get?_push_size _ rfl
  show wpAny _ _ (callWith cpos (.builtin "dict.items") [.ref d] [] []) _ X.xe s1
  exact method_meetsIn F.slot_dict_items F.entry_dict_items rfl (PySem.evalArgs_none ⟨rfl, raw.typeIs, F.args_dict_items_1 _, _, meets_dict_items_raw d hs, ⟨es, ep, raw⟩, fin⟩)
end
end Dn

set_option Elab.async false
set_option linter.all false
set_option maxRecDepth 100000
set_option maxHeartbeats 1000000
/-! Dn: loops over dicts: keys, values, items. -/
namespace Dn
open PySem PySem.Spec PyProof.Rows L2
section
variable {K : PySem.W.Frag} {N : Addr → Prop} {H0 : Hp} {m0 : List Addr} {h0 : HH} {a : Addr} {o : Obj} {l : List (D × D)}
theorem rv_keyD {N : Addr → Prop} {H : Hp} {m : List Addr} (k : Key) : RV K N H m (keyD k) (kV k) := by cases k <;> rfl
theorem rv_keysD {N : Addr → Prop} {H : Hp} {m : List Addr} : ∀ ks : List Key, RVs K N H m (ks.map keyD) (ks.map kV)
  | [] => rfl
  | k :: ks => ⟨kV k, ks.map kV, rfl, rv_keyD k, rv_keysD ks⟩
theorem pg_at {κ : Type} {enc : κ → D} {G : D → V → Prop} {ws : List (κ × V)} {p : D × D} {i : Nat} (z : PG' enc G l ws) (e : l[i]? = some p) : ∃ k v, ws[i]? = some (k, v) ∧ p.1 = enc k ∧ G p.2 v := by
  obtain ⟨⟨k, v⟩, e1, g1, g2⟩ := paired_get z e
  exact ⟨k, v, e1, g1, g2⟩
theorem map_at {f : D × D → D} {i : Nat} {d : D} (e : (l.map f)[i]? = some d) : ∃ p, l[i]? = some p ∧ d = f p := by
  rw [List.getElem?_map] at e
  cases e1 : l[i]? with
  | none => rw [e1] at e; cases e
  | some p => rw [e1] at e; exact ⟨p, rfl, by cases e; rfl⟩
theorem lt_at {α : Type} {l : List α} {i : Nat} {x : α} (e : l[i]? = some x) : i < l.length := (List.getElem?_eq_some_iff.mp e).1
theorem walk_keysK {ws : List (Key × V)} (hd : H0 a = some (.frz o (.dK ws))) (z : PG' keyD (RV K N H0 m0) l ws) : Walk K N (Itk a o ws) (l.map (·.1)) [] H0 m0 := fun N' H m h x rh ok i => by
  have hd' := x.frz _ _ _ hd
  have hlen := paired_len z
  refine ⟨fun dd e => ?_, fun hi => ⟨hd', by rw [← hlen]; simpa using hi⟩⟩
  obtain ⟨p, e1, rfl⟩ := map_at e
  obtain ⟨k, v, e2, g1, g2⟩ := pg_at z e1
  refine ⟨⟨hd', lt_at e2⟩, fun y H' ⟨eH, k', v', e3, ey⟩ => ?_⟩
  subst eH ey
  rw [e2] at e3
  cases e3
  exact ⟨Post.refl rh, by rw [g1]; exact rv_keyD k⟩
theorem walk_keysT {ws : List (List Key × V)} (hd : H0 a = some (.frz o (.dT ws))) (z : PG' tkeyD (RV K N H0 m0) l ws) : Walk K N (Itkt a o ws) (l.map (·.1)) [] H0 m0 := fun N' H m h x rh ok i => by
  have hd' := x.frz _ _ _ hd
  have hlen := paired_len z
  refine ⟨fun dd e => ?_, fun hi => ⟨hd', by rw [← hlen]; simpa using hi⟩⟩
  obtain ⟨p, e1, rfl⟩ := map_at e
  obtain ⟨k, v, e2, g1, g2⟩ := pg_at z e1
  refine ⟨⟨hd', lt_at e2⟩, fun y H' ⟨eH, k', v', q, e3, ey, eq⟩ => ?_⟩
  subst eH ey
  rw [e2] at e3
  cases e3
  exact ⟨Post.refl rh, by rw [g1]; exact ⟨q, _, rfl, eq, rv_keysD k⟩⟩
theorem walk_valsK {ws : List (Key × V)} (rh0 : RH K N H0 m0 h0) (hd : H0 a = some (.frz o (.dK ws))) (z : PG' keyD (RV K N H0 m0) l ws) : Walk K N (Itd a o ws) (l.map (·.2)) [] H0 m0 := fun N' H m h x rh ok i => by
  have hd' := x.frz _ _ _ hd
  have hlen := paired_len z
  refine ⟨fun dd e => ?_, fun hi => ⟨hd', by rw [← hlen]; simpa using hi⟩⟩
  obtain ⟨p, e1, rfl⟩ := map_at e
  obtain ⟨k, v, e2, g1, g2⟩ := pg_at z e1
  refine ⟨⟨hd', lt_at e2⟩, fun y H' ⟨eH, k', e3⟩ => ?_⟩
  subst eH
  rw [e2] at e3
  cases e3
  exact ⟨Post.refl rh, x.rv rh0 _ _ g2⟩
theorem walk_valsT {ws : List (List Key × V)} (rh0 : RH K N H0 m0 h0) (hd : H0 a = some (.frz o (.dT ws))) (z : PG' tkeyD (RV K N H0 m0) l ws) : Walk K N (ItdT a o ws) (l.map (·.2)) [] H0 m0 := fun N' H m h x rh ok i => by
  have hd' := x.frz _ _ _ hd
  have hlen := paired_len z
  refine ⟨fun dd e => ?_, fun hi => ⟨hd', by rw [← hlen]; simpa using hi⟩⟩
  obtain ⟨p, e1, rfl⟩ := map_at e
  obtain ⟨k, v, e2, g1, g2⟩ := pg_at z e1
  refine ⟨⟨hd', lt_at e2⟩, fun y H' ⟨eH, k', e3⟩ => ?_⟩
  subst eH
  rw [e2] at e3
  cases e3
  exact ⟨Post.refl rh, x.rv rh0 _ _ g2⟩
theorem walk_itemsK {ws : List (Key × V)} (rh0 : RH K N H0 m0 h0) (hd : H0 a = some (.frz o (.dK ws))) (z : PG' keyD (RV K N H0 m0) l ws) : Walk K N (Iti a o ws) (l.map fun p => .tup [p.1, p.2]) [] H0 m0 := fun N' H m h x rh ok i => by
  have hd' := x.frz _ _ _ hd
  have hlen := paired_len z
  refine ⟨fun dd e => ?_, fun hi => ⟨hd', by rw [← hlen]; simpa using hi⟩⟩
  obtain ⟨p, e1, rfl⟩ := map_at e
  obtain ⟨k, v, e2, g1, g2⟩ := pg_at z e1
  refine ⟨⟨hd', lt_at e2⟩, fun y H' ⟨T, k', v', e3, ey, hT, eH⟩ => ?_⟩
  subst eH ey
  rw [e2] at e3
  cases e3
  exact pair_new rh hT (by rw [g1]; exact rv_keyD k) (x.rv rh0 _ _ g2)
theorem walk_itemsT {ws : List (List Key × V)} (rh0 : RH K N H0 m0 h0) (hd : H0 a = some (.frz o (.dT ws))) (z : PG' tkeyD (RV K N H0 m0) l ws) : Walk K N (ItiT a o ws) (l.map fun p => .tup [p.1, p.2]) [] H0 m0 := fun N' H m h x rh ok i => by
  have hd' := x.frz _ _ _ hd
  have hlen := paired_len z
  refine ⟨fun dd e => ?_, fun hi => ⟨hd', by rw [← hlen]; simpa using hi⟩⟩
  obtain ⟨p, e1, rfl⟩ := map_at e
  obtain ⟨k, v, e2, g1, g2⟩ := pg_at z e1
  refine ⟨⟨hd', lt_at e2⟩, fun y H' ⟨T, k', v', q, e3, eq, ey, hT, eH⟩ => ?_⟩
  subst eH ey
  rw [e2] at e3
  cases e3
  exact pair_new rh hT (by rw [g1]; exact ⟨q, _, rfl, eq, rv_keysD k⟩) (x.rv rh0 _ _ g2)
end
section
variable {X : Cx} {tg : Expr}
def iDic (g : D × D → D) (f : Den) : IDen := fun env h => match f env h with
  | some (.ref n, h1) => (match lockH n h1 with
    | some (_, l, h2) => some ((l.map g, []), h2)
    | none => none)
  | _ => none
/-- a dict by its keys -/
abbrev iKeysD (f : Den) : IDen := iDic (·.1) f
abbrev iValsD (f : Den) : IDen := iDic (·.2) f
abbrev iItemsD (f : Den) : IDen := iDic (fun p => .tup [p.1, p.2]) f
theorem iDic_ok {g : D × D → D} {f : Den} {env : DE} {h h' : HH} {items : List D} {gd : Gds} (e : iDic g f env h = some ((items, gd), h')) : ∃ n h1 b l, f env h = some (.ref n, h1) ∧ lockH n h1 = some (b, l, h') ∧ items = l.map g ∧ gd = [] := by
  unfold iDic at e
  split at e
  · rename_i n h1 e1
    split at e
    · rename_i b l h2 e2
      cases e
      exact ⟨n, h1, b, l, e1, e2, rfl, rfl⟩
    · cases e
  · cases e
theorem xi_keys {e : Expr} {f : Den} (he : XE X e f) : XI X tg e (iKeysD f) := PIw (pi_keys (xe_lk he)) fun σ H R ⟨N, env, m, h, items, gd, h', g, e, q⟩ => by
  obtain ⟨n, h1, b, l, e1, e2, rfl, rfl⟩ := iDic_ok e
  refine ⟨N, env, m, h, n, h1, b, l, h', g, e1, e2, fun H' m' a o p z => ⟨a, o, rfl, ?_⟩⟩
  rcases z with ⟨_, ws, hd, z⟩ | ⟨_, ws, hd, z⟩
  · exact .inl ⟨ws, hd, q H' m' _ p (walk_keysK hd z)⟩
  · exact .inr ⟨ws, hd, q H' m' _ p (walk_keysT hd z)⟩
theorem xi_values {e : Expr} {f : Den} {apos cpos : Pos} (he : XE X e f) (hbase : attributeBase e "values" X.env (eval e X.env) = eval e X.env := by rfl) (hline : (apos.endLine == cpos.line) = true := by rfl) : XI X tg (.Call (.Attribute e "values" apos) [] [] cpos) (iValsD f) :=
  PIw (PI.or (pi_values (xe_lk he) hbase hline) (pi_valuesT (xe_lk he) hbase hline)) fun σ H R ⟨N, env, m, h, items, gd, h', g, e, q⟩ => by
    obtain ⟨n, h1, b, l, e1, e2, rfl, rfl⟩ := iDic_ok e
    cases b with
    | false =>
      refine .inl ⟨N, env, m, h, n, h1, _, l, h', g, e1, e2, fun H' m' a o p z => ?_⟩
      rcases z with ⟨_, ws, hd, z⟩ | ⟨z, _⟩
      · exact ⟨a, o, ws, rfl, hd, q H' m' _ p (walk_valsK p.rh hd z)⟩
      · cases z
    | true =>
      refine .inr ⟨N, env, m, h, n, h1, _, l, h', g, e1, e2, fun H' m' a o p z => ?_⟩
      rcases z with ⟨z, _⟩ | ⟨_, ws, hd, z⟩
      · cases z
      · exact ⟨a, o, ws, rfl, hd, q H' m' _ p (walk_valsT p.rh hd z)⟩
theorem xi_items {e : Expr} {f : Den} {apos cpos tpos : Pos} {elts : List Expr} {kk : Nat} (he : XE X e f) (hbase : attributeBase e "items" X.env (eval e X.env) = eval e X.env := by rfl) (hline : (apos.endLine == cpos.line) = true := by rfl) : XI X (.Tuple elts kk tpos) (.Call (.Attribute e "items" apos) [] [] cpos) (iItemsD f) :=
  PIw (PI.or (pi_items (xe_lk he) hbase hline) (pi_itemsT (xe_lk he) hbase hline)) fun σ H R ⟨N, env, m, h, items, gd, h', g, e, q⟩ => by
    obtain ⟨n, h1, b, l, e1, e2, rfl, rfl⟩ := iDic_ok e
    cases b with
    | false =>
      refine .inl ⟨N, env, m, h, n, h1, _, l, h', g, e1, e2, fun H' m' a o p z => ?_⟩
      rcases z with ⟨_, ws, hd, z⟩ | ⟨z, _⟩
      · exact ⟨a, o, ws, rfl, hd, q H' m' _ p (walk_itemsK p.rh hd z)⟩
      · cases z
    | true =>
      refine .inr ⟨N, env, m, h, n, h1, _, l, h', g, e1, e2, fun H' m' a o p z => ?_⟩
      rcases z with ⟨z, _⟩ | ⟨_, ws, hd, z⟩
      · cases z
      · exact ⟨a, o, ws, rfl, hd, q H' m' _ p (walk_itemsT p.rh hd z)⟩
/-- anything that is walked by its name: a sequence, or a dict by its keys -/
def iAny (f : Den) : IDen := fun env h => match f env h with
  | some (d, h1) => if (dicOf d h1).isSome = true then iKeysD f env h else iSeq f env h
  | none => none
theorem xi_any {e : Expr} {f : Den} (he : XE X e f) : XI X tg e (iAny f) := PIw (PI.or (xi_seq he) (xi_keys he)) fun σ H R ⟨N, env, m, h, items, gd, h', g, e, q⟩ => by
  unfold iAny at e
  split at e
  · split at e
    · exact .inr ⟨N, env, m, h, items, gd, h', g, e, q⟩
    · exact .inl ⟨N, env, m, h, items, gd, h', g, e, q⟩
  · cases e
end
end Dn

set_option Elab.async false
set_option linter.all false
set_option maxRecDepth 100000
set_option maxHeartbeats 4000000
/-! Dn: enumerate of a list, of a tuple. -/
namespace Dn
open PySem PySem.Spec PyProof.Rows L2
theorem meets_enumB1 {v : Value} {o : Obj} {H : Heap → Prop} (B : Begins v o H) :
    Meets (Builtin.«enumerate.__new__» ⟨[.type "enumerate", v], []⟩) (fun _ R s => H s.heap ∧
      R (.ok (.ret (.ref (s.heap.push o).objs.size))) { s with heap := (s.heap.push o).push { cls := .type "enumerate", data := .fields #[.none, .bool false, .ref s.heap.objs.size, rawInt 0, .none, .none] } }) :=
  .of_wp fun prog w A R s h => by
    obtain ⟨hp, g, d, tk, os⟩ := s; obtain ⟨h1, h⟩ := h
    have hsub := sub_enumerate
    have q1 : ∀ {A' : Around} {E : Value → Shared → Prop} {Q : Value → Shared → Prop}, Q (.ref hp.objs.size) ⟨hp.push o, g, d, tk, os⟩ → wpAny (model prog w) A' (pyIter v) Q E ⟨hp, g, d, tk, os⟩ :=
      fun q => B.iter prog w _ _ ⟨hp, g, d, tk, os⟩ _ h1 q
    wp_walk using q1
    refine wpAny_stack_any fun st => wpAny_pure ?_
    split
    · rename_i c _ _ _ _ _
      cases (c == Value.type "enumerate")
      · wp_walk using q1
        exact ⟨_, rfl, h⟩
      · wp_walk using q1
        exact ⟨_, rfl, h⟩
    · wp_walk using q1
      exact ⟨_, rfl, h⟩
theorem enum_begins1 {prog : Program} {w : World} {A : Around} {E : Value → Shared → Prop} {s : Shared} {v : Value} {o : Obj} {H : Heap → Prop} {Q : Value → Shared → Prop} (B : Begins v o H) (h1 : H s.heap)
    (h : ∀ h', IsEnum h' (s.heap.objs.size + 1) s.heap.objs.size 0 .none → h'.get? s.heap.objs.size = some o → h'.objs.size = s.heap.objs.size + 2 →
      (∀ b o, s.heap.get? b = some o → h'.get? b = some o) → Q (.ref (s.heap.objs.size + 1)) { s with heap := h' }) :
    wpAny (model prog w) A (call (.type "enumerate") [v]) Q E s := by
  refine callType_new F.called_enumerate (by decide) (F.typeCall_enumerate_1 _) (F.newCall_enumerate_1 _) (fun obj => F.args_object_init_2 obj _) F.entry_enumerate_new
    (meets_enumB1 B) ⟨h1, ?_⟩
  have hz : (s.heap.push o).objs.size = s.heap.objs.size + 1 := Heap.size_push ..
  show _ ∧ _
  rw [hz]
  have he : IsEnum ((s.heap.push o).push { cls := .type "enumerate", data := .fields #[.none, .bool false, .ref s.heap.objs.size, rawInt 0, .none, .none] }) (s.heap.objs.size + 1) s.heap.objs.size 0 .none := by
    have := Heap.get?_push_size (s.heap.push o) (o := { cls := .type "enumerate", data := .fields #[.none, .bool false, .ref s.heap.objs.size, rawInt 0, .none, .none] }) rfl
    rw [hz] at this; exact this
  refine ⟨⟨_, he, rfl⟩, h _ he (Heap.get?_push_of_some _ (Heap.get?_push_size _ B.free)) (by rw [Heap.size_push, hz]) fun b o x => Heap.get?_push_of_some _ (Heap.get?_push_of_some _ x)⟩
def IteT (K : PySem.W.Frag) (a : Addr) (n : Nat) : It :=
  ⟨fun i H => ∃ (xs : List V) (x : V), SqT K H a xs ∧ xs.length = n ∧ xs[i]? = some x, fun i H v H' => ∃ T x, v = .ref T ∧ H T = none ∧ H' = upd H T (.tup [.int (i : Nat), x]) ∧ ∀ xs, SqT K H a xs → xs[i]? = some x, fun i H => n ≤ i ∧ ∃ xs : List V, SqT K H a xs ∧ xs.length = n⟩
theorem apart_tup {h : Heap} {a b : Addr} {items : Array Value} {o : Obj} (ht : IsTup h a items) (ho : h.get? b = some o) (hc : o.cls ≠ .type "tuple") : b ≠ a := fun z => by
  obtain ⟨o', e, c, _⟩ := ht
  subst z
  rw [ho] at e
  cases e
  exact hc c
theorem turn_enumT {P : Program} {w : World} {K : PySem.W.Frag} {elts : List Expr} {kk : Nat} {tpos : Pos} (a e it : Addr) (n : Nat) :
    Turn P w K (.Tuple elts kk tpos) (IteT K a n) [e, it] e (fun i h => (∃ old, IsEnum h e it ((i : Nat) : Int) old) ∧ h.IsTupleIter it a i ∧ e ≠ it ∧ i ≤ n) where
  mem := by simp
  obj := fun i h st b hb => by
    obtain ⟨⟨old, he⟩, ⟨o, ho, hc, hd⟩, _⟩ := st
    have e' : b = e ∨ b = it := by simpa using hb
    rcases e' with z | z
    · rw [z]; exact ⟨_, he, fun v q => nomatch q⟩
    · rw [z]; exact ⟨o, ho, fun v q => by rw [hd] at q; cases q⟩
  keep := fun i h h' st k => let ⟨⟨old, he⟩, hi, hne⟩ := st; ⟨⟨old, k e (by simp) _ he⟩, hi.at fun o q => k it (by simp) o q, hne⟩
  item := by
    intro X hP hw hK hc i pins s σ H E I hf st hg
    subst hP hw hK
    obtain ⟨⟨old, he⟩, hit, hne, hin⟩ := st
    obtain ⟨xs, x, hq, hxn, hx⟩ := hg
    obtain ⟨its, rv, p, hz⟩ := I.tuple hq
    obtain ⟨u, hu, ru⟩ := rv.get hx
    have hel : e < s.heap.objs.size := Heap.lt_size he
    have hil : it < s.heap.objs.size := by obtain ⟨_, q, _⟩ := hit; exact Heap.lt_size q
    have hea : e ≠ a := apart_tup p he (fun z => absurd (Value.type.inj z) (by decide))
    have hia : it ≠ a := by
      obtain ⟨oi, ei, ci, di⟩ := id hit
      exact apart_tup p ei (by rw [ci]; exact fun z => absurd (Value.type.inj z) (by decide))
    have hlt : i < its.toArray.size := by
      have := (List.getElem?_eq_some_iff.mp hu).1
      simpa using this
    refine wpAny_pyNext_enum_itemD (Draws.tuple (A := X.A.in1) (I.ok.hd hc) it a (Ne.symm hia) its.toArray) he ⟨hit, p⟩ hlt hne (by simp [hne, hea]) fun x' h' tk hx' ho st' hT hsz hk => ?_
    obtain ⟨hit', hp'⟩ := st'
    have ex : x' = u := by
      have h1 : its.toArray[i]? = some x' := hx'
      rw [List.getElem?_toArray, hu] at h1
      exact (Option.some.inj h1).symm
    subst ex
    refine ⟨_, rfl, wpAny_letOwnedTupleGo_enum (s := { s with heap := h', toks := tk + 1 }) ho fun h'' he' sb => ?_⟩
    have hT2 : h''.get? s.heap.objs.size = some { cls := .type "tuple", data := .seq #[.int i tk, x'] } := (sb.2 _ (Nat.ne_of_gt hel)).trans hT
    have new : ObjOk X.prog X.w (upd H s.heap.objs.size (.tup [.int (i : Nat), x])) h'' s.heap.objs.size (.tup [.int (i : Nat), x]) :=
      ⟨by show 2 ≤ sizeLine; decide, [.int i tk, x'], .cons ⟨_, rfl⟩ (.cons ru .nil), ⟨_, hT2, rfl, _, rfl⟩⟩
    have I1 : L2.Inv X pins σ (upd H s.heap.objs.size (.tup [.int (i : Nat), x])) { s with heap := h'', toks := tk + 1 } :=
      I.turnedNew (t' := tk + 1) (ch := [e, it]) (fun b ob hb q => (sb.2 b (fun z => hb (by simp [z]))).trans (hk b ob (fun z => hb (by simp [z])) (fun z => hb (by simp [z])) q)) hf (Nat.le_refl _) new
    refine ⟨.ref s.heap.objs.size, _, I1, rfl, ⟨_, x, rfl, I.hok.fresh (Nat.le_refl _), rfl, fun ys hy => by rw [I.tuple_inj hy hq]; exact hx⟩, ⟨⟨x', ?_⟩, hit'.at fun o q => (sb.2 it (Ne.symm hne)).trans q, hne, by rw [← hxn]; exact (List.getElem?_eq_some_iff.mp hx).1⟩, fun b hb => ?_⟩
    · have e1 : ((i + 1 : Nat) : Int) = (i : Int) + 1 := by omega
      rw [e1]; exact he'
    · have hb' : b < s.heap.objs.size := by
        have e' : b = e ∨ b = it := by simpa using hb
        rcases e' with z | z
        · rw [z]; exact hel
        · rw [z]; exact hil
      rw [upd_ne (Nat.ne_of_lt hb')]
      exact (hf b hb).1
  done := by
    intro X hP hw hK hc i pins s σ H E I hf st hg
    subst hP hw hK
    obtain ⟨⟨old, he⟩, hit, hne, hin⟩ := st
    obtain ⟨hi, xs, hq, hx⟩ := hg
    obtain ⟨its, rv, p, hz⟩ := I.tuple hq
    obtain ⟨f0, f1, f2, f3, f4, f5⟩ := hf it (by simp)
    have hl := rv.length
    have hia : it ≠ a := by
      obtain ⟨oi, ei, ci, di⟩ := id hit
      exact apart_tup p ei (by rw [ci]; exact fun z => absurd (Value.type.inj z) (by decide))
    have hn : i = its.toArray.size := by rw [List.size_toArray]; omega
    subst hn
    exact wpAny_pyNext_enum_endD (Draws.tuple (A := X.A.in1) (I.ok.hd hc) it a (Ne.symm hia) its.toArray) he ⟨hit, p⟩ fun h' eb => ⟨rfl, I.turned (t' := s.toks) (fun b o hb q => eb b o hb q) f0 f1 f3 f4 f5⟩
  self := fun A i s Q E st h => let ⟨⟨_, he⟩, _⟩ := st; wpAny_pyIter_enum he h
def iEnumT (K : PySem.W.Frag) (ta : TA) : TI := fun σ H R => ta σ H fun vs H1 => ∃ a xs, vs = [.ref a] ∧ SqT K H1 a xs ∧ R (IteT K a xs.length) H1
theorem pi_enumT {X : Cx} {e : Expr} {ta : TA} {p pos tpos : Pos} {elts : List Expr} {kk : Nat} (hg : Gl X "enumerate") (hm : X.mg "enumerate" = none) (ha : PA X [e] ta) (hs : starEach [e] X.env = [(false, eval e X.env)] := by rfl) :
    PI X (.Tuple elts kk tpos) (.Call (.Name "enumerate" p) [e] [] pos) (iEnumT X.K ta) := by
  refine ⟨fun pins s σ H R I h => ?_⟩
  refine Call_ (ld_blt I hg hm boot_enumerate (PyProof.Rows.callWith_type1 (thn (ha.run pos pins s σ H _ I h) fun us s1 ⟨vs, H1, I1, r1, q1⟩ => ?_) hs rfl))
  obtain ⟨a, xs, ex, hq, q⟩ := q1
  subst ex
  cases r1 with
  | cons r rr =>
    cases rr
    cases r
    obtain ⟨its, rv, p', hz⟩ := I1.tuple hq
    refine enum_begins1 (begins_tuple a its.toArray) p' fun h' he hit hsz hk => wpAny_pyIter_enum he ?_
    have I2 : L2.Inv X pins σ H1 { s1 with heap := h' } := I1.kept (t' := s1.toks) hk
    refine ⟨s1.heap.objs.size + 1, [s1.heap.objs.size + 1, s1.heap.objs.size], _, _, H1, rfl, I2, turn_enumT a (s1.heap.objs.size + 1) s1.heap.objs.size xs.length, ⟨⟨.none, he⟩, ⟨_, hit, rfl, rfl⟩, Nat.succ_ne_self _, Nat.zero_le _⟩, fun b hb => ?_, q⟩
    have e' : b = s1.heap.objs.size + 1 ∨ b = s1.heap.objs.size := by simpa using hb
    have hle : s1.heap.objs.size ≤ b := by
      rcases e' with z | z
      · rw [z]; exact Nat.le_add_right _ _
      · rw [z]; exact Nat.le_refl _
    exact I1.fpOk hle (I1.hok.fresh hle)
section
variable {K : PySem.W.Frag} {N : Addr → Prop} {H0 : Hp} {m0 : List Addr} {h0 : HH}
def enumGo : Nat → List D → List D
  | _, [] => []
  | k, d :: r => .tup [.int k, d] :: enumGo (k + 1) r
def enumD (l : List D) : List D := enumGo 0 l
theorem enumGo_get : ∀ {l : List D} {k i : Nat} {d : D}, (enumGo k l)[i]? = some d → ∃ x, l[i]? = some x ∧ d = .tup [.int ((k + i : Nat) : Int), x]
  | [], k, i, d, e => by simp [enumGo] at e
  | x :: r, k, 0, d, e => by
    simp [enumGo] at e
    exact ⟨x, by simp, by rw [← e]; simp⟩
  | x :: r, k, i + 1, d, e => by
    obtain ⟨y, e1, e2⟩ := enumGo_get (l := r) (k := k + 1) (i := i) (by simpa [enumGo] using e)
    refine ⟨y, by simpa using e1, ?_⟩
    rw [e2, show k + 1 + i = k + (i + 1) by omega]
theorem enumGo_len : ∀ {l : List D} {k : Nat}, (enumGo k l).length = l.length
  | [], _ => rfl
  | _ :: r, k => by simp only [enumGo, List.length_cons, enumGo_len]
theorem enumD_get {l : List D} {i : Nat} {d : D} (e : (enumD l)[i]? = some d) : ∃ x, l[i]? = some x ∧ d = .tup [.int (i : Nat), x] := by
  obtain ⟨x, e1, e2⟩ := enumGo_get e
  exact ⟨x, e1, by rw [e2]; simp⟩
theorem walk_enum {d : D} {l : List D} {a : Addr} (rh0 : RH K N H0 m0 h0) (r : RV K N H0 m0 d (.ref a)) (e : listOf d h0 = some l) : Walk K N (Ite K a) (enumD l) (gdOf d l) H0 m0 := fun N' H m h x rh ok i => by
  obtain ⟨vs, sq, z⟩ := list_later rh0 r e x rh ok
  refine ⟨fun dd hd => ?_, fun hi => ⟨vs, sq, by rw [← z.length]; simpa [enumD, enumGo_len] using hi⟩⟩
  obtain ⟨y, e1, rfl⟩ := enumD_get hd
  obtain ⟨v, hv, rv⟩ := z.get e1
  refine ⟨⟨vs, v, sq, hv⟩, fun u H' ⟨T, x1, ev, hT, eH, q⟩ => ?_⟩
  subst ev eH
  have e2 := q vs sq
  rw [hv] at e2
  cases e2
  exact pair_new rh hT rfl rv
theorem walk_enumT {l : List D} {a : Addr} {n : Nat} (rh0 : RH K N H0 m0 h0) (r : RV K N H0 m0 (.tup l) (.ref a)) (hn : n = l.length) : Walk K N (IteT K a n) (enumD l) [] H0 m0 := fun N' H m h x rh ok i => by
  obtain ⟨vs, sq, z⟩ := tup_later rh0 r x
  have hl := z.length
  refine ⟨fun dd hd => ?_, fun hi => ⟨by rw [hn]; simpa [enumD, enumGo_len] using hi, vs, SqT.of sq, by omega⟩⟩
  obtain ⟨y, e1, rfl⟩ := enumD_get hd
  obtain ⟨v, hv, rv⟩ := z.get e1
  refine ⟨⟨vs, v, SqT.of sq, by omega, hv⟩, fun u H' ⟨T, x1, ev, hT, eH, q⟩ => ?_⟩
  subst ev eH
  have e2 := q vs (SqT.of sq)
  rw [hv] at e2
  cases e2
  exact pair_new rh hT rfl rv
end
section
variable {X : Cx}
def iEnumD (f : LDen) : IDen := fun env h => match f env h with
  | some ([.tup l], h1) => some ((enumD l, []), h1)
  | some ([d], h1) => (match listOf d h1 with
    | some l => some ((enumD l, gdOf d l), h1)
    | none => none)
  | _ => none
theorem xi_enum {e : Expr} {f : LDen} {p pos tpos : Pos} {elts : List Expr} {kk : Nat} (hg : Gl X "enumerate") (hm : X.mg "enumerate" = none) (ha : XA X [e] f) (hs : starEach [e] X.env = [(false, eval e X.env)] := by rfl) : XI X (.Tuple elts kk tpos) (.Call (.Name "enumerate" p) [e] [] pos) (iEnumD f) :=
  PIw (PI.or (pi_enum hg hm ha hs) (pi_enumT hg hm ha hs)) fun σ H R ⟨N, env, m, h, items, gd, h', g, e, q⟩ => by
    unfold iEnumD at e
    split at e
    · rename_i l h1 e1
      cases e
      refine .inr ⟨N, env, m, h, _, _, g, e1, fun H1 m1 vs p1 r1 => ?_⟩
      obtain ⟨v, ev, rv⟩ := rvs1 r1
      have rv' := rv
      obtain ⟨a, us, ea, sq, z⟩ := rv'
      subst ea
      exact ⟨a, us, ev, SqT.of sq, q H1 m1 _ p1 (walk_enumT p1.rh rv z.length.symm)⟩
    · rename_i d h1 hne e1
      split at e
      · rename_i l e2
        cases e
        refine .inl ⟨N, env, m, h, _, _, g, e1, fun H1 m1 vs p1 r1 => ?_⟩
        obtain ⟨v, ev, rv⟩ := rvs1 r1
        obtain ⟨a, us, ea, sq, z⟩ := listOf_ok p1.rh rv e2
        subst ea
        exact ⟨a, us, ev, sq, q H1 m1 _ p1 (walk_enum p1.rh rv e2)⟩
      · cases e
    · cases e
end
end Dn

set_option Elab.async false
set_option linter.all false
set_option maxRecDepth 100000
set_option maxHeartbeats 4000000
/-! Dn: list(reversed(a list)). -/
namespace Dn
open PySem PySem.Spec PyProof.Rows L2 RT
section
variable {prog : Program} {w : World} {A : Around} {E : Value → Shared → Prop} {s : Shared}
theorem extend_rev {R : Result → Shared → Prop} {it l : Addr} {items : Array Value} (hh : A.handled = none) (hit : s.heap.IsRevIter it l ((items.size : Int) - 1)) (hl : s.heap.IsList l items) (hne : l ≠ it) (hn : items.size ≤ sizeLine)
    (S : Addr) (hSi : S ≠ it) (hSl : S ≠ l) (res : Value) (c₀ : Nat) (hS : s.heap.get? S = some { cls := .type "list", data := .seq #[] c₀ })
    (hR : ∀ h' tk acc' c', (∀ b o, b ≠ S → b ≠ it → s.heap.get? b = some o → h'.get? b = some o) → h'.get? S = some { cls := .type "list", dict := none, data := .seq acc' c', slots := #[] } →
      ItemsOf (fun i v => items[items.size - 1 - i]? = some v) acc' items.size → R (.ok (.ret res)) { s with heap := h', toks := tk }) :
    wpAny (model prog w) A.in1 (Builtin.List.listExtendWith (.ref S) (.ref it) res)
      (fun fin s' => match fin with | .done f => R (.ok f) s' | .again c' => c'.quiet = true ∧ codeAny (model prog w) A c' R s') (fun e s' => R (.error e) s') s := by
  have W := (Walks.listRev (prog := prog) (w := w) (A := A.in1) hh it l hne items).toS
  have hSf : S ∉ [it, l] := by simp only [List.mem_cons, List.not_mem_nil, or_false, not_or]; exact ⟨hSi, hSl⟩
  have hT : s.TypeIs (.ref it) "list_reverseiterator" := Heap.IsRevIter.typeIs hit
  have h1 : Builtin.List.listSameRef (.ref S) (.ref it) = false := by simp [Builtin.List.listSameRef, hSi]
  unfold Builtin.List.listExtendWith
  refine wpAny_bind (wpAny_typeOf hT ?_)
  rw [if_neg (by rw [h1]; decide)]
  refine wpAny_bind (wpAny_pyIter_revIter hit ?_)
  refine wpAny_bind (wpAny_holding ?_)
  unfold Builtin.List.listLengthHint
  refine wpAny_bind (wpAny_specialOf hT nolen_lri ?_)
  show wpAny _ A.in1 (specialOf (Value.ref it) (Str.ofString "__length_hint__") >>= _) _ _ _
  refine wpAny_bind (wpAny_specialOf hT hint_lri ?_)
  generalize hid : ("list_reverseiterator.__length_hint__" : String) = id0
  wp_delta
  rw [show splitId id0 = some ("list_reverseiterator", "__length_hint__") from by subst hid; decide +kernel]
  subst hid
  refine wpAny_bind (wpAny_isInstance (b := true) hT (by rw [isSubtype_type]; kernel_rfl) ?_)
  refine wpAny_pure ?_
  rw [if_neg (by decide)]
  have e0 : ((items.size : Nat) : Int) - 1 - ((0 : Nat) : Int) = (items.size : Int) - 1 := by omega
  refine wpAny_pure ⟨plainId_quiet F.plain_extend_loop _, codeAny_extend_loopS W hn _ hSf _ items.size 0 _ _ _ rfl (Nat.zero_le _) ⟨Nat.zero_le _, by rw [e0]; exact hit, hl⟩ hS (ItemsOf.nil _) fun s' acc' c' hm hS' hacc => ?_⟩
  rw [Moved.eq_with hm]
  refine hR s'.heap s'.toks acc' c' (fun b ob hb hb2 e => hm.heap b ob (fun hmem => ?_) e) hS' hacc
  rcases List.mem_cons.mp hmem with e' | hmem
  · exact hb e'
  · exact hb2 (List.mem_singleton.mp hmem)
theorem list_init_rev {R : Result → Shared → Prop} {it l : Addr} {items : Array Value} (hh : A.handled = none) (hit : s.heap.IsRevIter it l ((items.size : Int) - 1)) (hl : s.heap.IsList l items) (hne : l ≠ it) (hn : items.size ≤ sizeLine)
    (S : Addr) (hSi : S ≠ it) (hSl : S ≠ l) (hS : s.heap.get? S = some { cls := .type "list", data := .seq #[] })
    (hR : ∀ h' tk acc' c', (∀ b o, b ≠ S → b ≠ it → s.heap.get? b = some o → h'.get? b = some o) → h'.get? S = some { cls := .type "list", dict := none, data := .seq acc' c', slots := #[] } →
      ItemsOf (fun i v => items[items.size - 1 - i]? = some v) acc' items.size → R (.ok (.ret .none)) { s with heap := h', toks := tk }) :
    wpAny (model prog w) A.in1 (Builtin.«list.__init__» ⟨[.ref S, .ref it], []⟩)
      (fun fin s' => match fin with | .done f => R (.ok f) s' | .again c' => c'.quiet = true ∧ codeAny (model prog w) A c' R s') (fun e s' => R (.error e) s') s := by
  show wpAny _ _ (do let old ← Builtin.List.listItems (.ref S); Builtin.List.listUpdate (.ref S) (fun _ => #[]); letGo old.toList.reverse; Builtin.List.listExtendWith (.ref S) (.ref it) .none) _ _ s
  refine wpAny_bind ?_
  unfold Builtin.List.listItems
  refine wpAny_bind (wpAny_seqItems hS rfl (wpAny_pure ?_))
  show wpAny _ _ (updateSeq S (fun _ => #[]) >>= fun _ => letGo (#[] : Array Value).toList.reverse >>= fun _ => Builtin.List.listExtendWith (.ref S) (.ref it) .none) _ _ s
  refine wpAny_bind (wpAny_updateSeq hS rfl ?_)
  have hS₂ := Heap.get?_update_self (Obj.mapSeq (fun _ => (#[] : Array Value))) hS rfl
  have oth : ∀ b o, b ≠ S → s.heap.get? b = some o → (s.heap.update S (Obj.mapSeq (fun _ => (#[] : Array Value)))).get? b = some o :=
    fun b o hb e => (Heap.get?_update_other _ _ (Ne.symm hb)).trans e
  refine wpAny_bind (wpAny_letGo ?_)
  refine extend_rev (s := { s with heap := s.heap.update S (Obj.mapSeq (fun _ => (#[] : Array Value))) }) hh (hit.at fun o e => oth it o (Ne.symm hSi) e) (hl.at fun o e => oth l o (Ne.symm hSl) e) hne hn S hSi hSl .none _ hS₂ (fun h' tk acc' c' hk hS' hacc => ?_)
  exact hR h' tk acc' c' (fun b o hb hb2 e => hk b o hb hb2 (oth b o hb e)) hS' hacc
theorem call_list_rev {it l : Addr} {items : Array Value} {Q : Value → Shared → Prop} (hh : A.handled = none) (hit : s.heap.IsRevIter it l ((items.size : Int) - 1)) (hl : s.heap.IsList l items) (hne : l ≠ it) (hn : items.size ≤ sizeLine)
    (hQ : ∀ h' tk acc' c', (∀ b o, b ≠ it → s.heap.get? b = some o → h'.get? b = some o) →
      h'.get? s.heap.objs.size = some { cls := .type "list", dict := none, data := .seq acc' c', slots := #[] } → ItemsOf (fun i v => items[items.size - 1 - i]? = some v) acc' items.size → Q (.ref s.heap.objs.size) { s with heap := h', toks := tk }) :
    wpAny (model prog w) A (call (.type "list") [.ref it]) Q E s := by
  refine callType_codes (Q₁ := fun obj s₁ => obj = .ref s.heap.objs.size ∧ s₁ = { s with heap := s.heap.push { cls := .type "list", data := .seq #[] } }) PySem.F.called_list (PySem.F.typeCall_list_1 _) PySem.F.entry_list_init
    (code_list_new _ ⟨rfl, rfl⟩) fun obj s₁ h₁ => ?_
  obtain ⟨rfl, rfl⟩ := h₁
  have hS : (s.heap.push { cls := .type "list", data := .seq #[] }).get? s.heap.objs.size = some { cls := .type "list", data := .seq #[] } := Heap.get?_push_size _ rfl
  obtain ⟨oi, hoi, _⟩ := id hit
  obtain ⟨ol, hol, _⟩ := id hl
  refine ⟨⟨_, hS, rfl⟩, PySem.F.args_list_init_2 _ _, list_init_rev (s := { s with heap := s.heap.push { cls := .type "list", data := .seq #[] } }) (A := A.in1) hh (hit.at fun o e => Heap.get?_push_of_some _ e) (hl.push _) hne hn _ (Nat.ne_of_gt (Heap.lt_size hoi)) (Nat.ne_of_gt (Heap.lt_size hol)) hS (fun h' tk acc' c' hk hS' hacc => ?_)⟩
  exact ⟨rfl, hQ h' tk acc' c' (fun b o hb e => hk b o (Nat.ne_of_lt (Heap.lt_size e)) hb (Heap.get?_push_of_some _ e)) hS' hacc⟩
end
section
variable {X : Cx}
def tListRev (K : PySem.W.Frag) (te : TE) : TE := fun σ H Q => te σ H fun v H1 => ∃ (a : Addr) (xs : List V), v = .ref a ∧ SqL K H1 a xs ∧ ∀ q, H1 q = none → Q (.ref q) (upd H1 q (.lst xs.reverse))
theorem pe_listRev {e : Expr} {te : TE} {p p2 pos pos2 : Pos} (hc : X.calm = true) (hg : Gl X "list") (hm : X.mg "list" = none) (hg2 : Gl X "reversed") (hm2 : X.mg "reversed" = none) (he : PE X e te)
    (hs : starEach [e] X.env = (false, eval e X.env) :: starEach [] X.env := by rfl)
    (hs2 : starEach [.Call (.Name "reversed" p2) [e] [] pos2] X.env = (false, eval (.Call (.Name "reversed" p2) [e] [] pos2) X.env) :: starEach [] X.env := by rfl) :
    PE X (.Call (.Name "list" p) [.Call (.Name "reversed" p2) [e] [] pos2] [] pos) (tListRev X.K te) := by
  refine ⟨fun pins s σ H Q I h => ?_⟩
  refine Call_ (ld_blt I hg hm boot_list (PyProof.Rows.callWith_type1 (args_cons (Call_ (ld_blt I hg2 hm2 PyProof.Rows.boot_reversed (PyProof.Rows.callWith_type1 (args_cons (thn (he.run pins s σ H _ I h) fun u s1 ⟨v, H1, I1, r1, q1⟩ => args_nil ?_) hs) hs rfl))) hs2) hs2 rfl))
  obtain ⟨a, xs, ev, hq, q⟩ := q1
  subst ev
  obtain rfl : u = Value.ref a := r1
  obtain ⟨its, rv, p', hz⟩ := I1.list hq
  refine call_reversed_list p'.isList (args_nil ?_)
  have k0 : ∀ b o, s1.heap.get? b = some o → (s1.heap.push (revObj a ((its.toArray.size : Int) - 1))).get? b = some o := fun b o e => Heap.get?_push_of_some _ e
  have I2 : L2.Inv X pins σ H1 { s1 with heap := s1.heap.push (revObj a ((its.toArray.size : Int) - 1)) } := I1.kept (t' := s1.toks) k0
  obtain ⟨f0, f1, f2, f3, f4, f5⟩ := I1.fpOk (H' := H1) (b := s1.heap.objs.size) (Nat.le_refl _) (I1.hok.fresh (Nat.le_refl _))
  have hl := p'.isList
  obtain ⟨ol, hol, _⟩ := id hl
  have hne : a ≠ s1.heap.objs.size := Nat.ne_of_lt (Heap.lt_size hol)
  have hn : its.toArray.size ≤ sizeLine := by rw [List.size_toArray, ← rv.length]; exact hz
  have hfr : H1 (s1.heap.objs.size + 1) = none := I1.hok.fresh (Nat.le_succ _)
  refine call_list_rev (s := { s1 with heap := s1.heap.push (revObj a ((its.toArray.size : Int) - 1)) }) (I1.ok.hd hc) ⟨_, Heap.get?_push_size _ rfl, rfl, rfl⟩ (hl.push _) hne hn fun h' tk acc c hk hS hi => ?_
  have hsz : (s1.heap.push (revObj a ((its.toArray.size : Int) - 1))).objs.size = s1.heap.objs.size + 1 := Heap.size_push ..
  have fp : ∀ b ∈ [s1.heap.objs.size], FpOk X pins H1 b := fun b hb => by
    have e : b = s1.heap.objs.size := by simpa using hb
    subst e
    exact I1.fpOk (H' := H1) (Nat.le_refl _) (I1.hok.fresh (Nat.le_refl _))
  show EP X pins σ Q (.ref (s1.heap.push (revObj a ((its.toArray.size : Int) - 1))).objs.size) { s1 with heap := h', toks := tk }
  replace hS : h'.get? (s1.heap.push (revObj a ((its.toArray.size : Int) - 1))).objs.size = some { cls := .type "list", dict := none, data := .seq acc c, slots := #[] } := hS
  rw [hsz] at hS ⊢
  have new : ObjOk X.prog X.w (upd H1 (s1.heap.objs.size + 1) (.lst xs.reverse)) h' (s1.heap.objs.size + 1) (.lst xs.reverse) :=
    ⟨by rw [List.length_reverse]; exact hz, acc.toList, c, vals_rev rv hi, by simpa using hS⟩
  have I3 : L2.Inv X pins σ (upd H1 (s1.heap.objs.size + 1) (.lst xs.reverse)) { s1 with heap := h', toks := tk } :=
    I2.turnedNew (t' := tk) (ch := [s1.heap.objs.size]) (fun b o hb e => hk b o (by simpa using hb) e) fp (by show (s1.heap.push _).objs.size ≤ _; rw [hsz]; exact Nat.le_refl _) new
  exact ⟨.ref (s1.heap.objs.size + 1), _, I3, rfl, q _ hfr⟩
def dListRev (f : Den) : LDen := fun env h => match f env h with
  | some (d, h1) => (match listOf d h1 with
    | some l => some (l.reverse, h1)
    | none => none)
  | none => none
theorem xl_listRev {e : Expr} {f : Den} {p p2 pos pos2 : Pos} (hc : X.calm = true) (hg : Gl X "list") (hm : X.mg "list" = none) (hg2 : Gl X "reversed") (hm2 : X.mg "reversed" = none) (he : XE X e f)
    (hs : starEach [e] X.env = (false, eval e X.env) :: starEach [] X.env := by rfl)
    (hs2 : starEach [.Call (.Name "reversed" p2) [e] [] pos2] X.env = (false, eval (.Call (.Name "reversed" p2) [e] [] pos2) X.env) :: starEach [] X.env := by rfl) :
    XL X (.Call (.Name "list" p) [.Call (.Name "reversed" p2) [e] [] pos2] [] pos) (dListRev f) :=
  PEw (pe_listRev hc hg hm hg2 hm2 he hs hs2) fun σ H Q ⟨N, env, m, h, ds, h', g, e, q⟩ => by
    unfold dListRev at e
    split at e
    · rename_i d h1 e1
      split at e
      · rename_i l e2
        cases e
        refine ⟨N, env, m, h, d, _, g, e1, fun H1 m1 v p1 r1 => ?_⟩
        obtain ⟨a, us, ev, sq, z⟩ := listOf_ok p1.rh r1 e2
        subst ev
        refine ⟨a, us, rfl, sq, fun q' hq' => ?_⟩
        exact q _ m1 q' _ (p1.was hq') (p1.rh.notin hq') upd_same (p1.hide hq') (RVs.hide p1.rh hq' z.reverse)
      · cases e
    · cases e
end
end Dn

set_option Elab.async false
set_option linter.all false
set_option maxRecDepth 100000
set_option maxHeartbeats 1000000
/-! Dn: slices of any sequence; a, b, c = x, y, z. -/
namespace Dn
open PySem PySem.Spec PyProof.Rows L2
section
variable {X : Cx} {pos : Pos}
def dSlA (f : Den) (lo hi : ODen) : Den := fun env h => match f env h with
  | some (.tup _, _) => dSlT f lo hi env h
  | _ => dFl (dSlL f lo hi) env h
theorem xe_slA {e : Expr} {lo hi : Option Expr} {f : Den} {fl fh : ODen} {p2 pos : Pos} (he : XE X e f) (hl : XO X lo fl) (hu : XO X hi fh) : XE X (.Subscript e (.Slice lo hi none p2) pos) (dSlA f fl fh) :=
  PEw (PEor (xe_slT he hl hu) (xl_fl (xl_slL he hl hu))) fun σ H Q ⟨N, env, m, h, d, h', g, e, q⟩ => by
    unfold dSlA at e
    split at e
    · exact .inl ⟨N, env, m, h, d, h', g, e, q⟩
    · exact .inr ⟨N, env, m, h, d, h', g, e, q⟩
/-- a, b, c = x, y, z : three local names -/
def sPar3 (i j l : Nat) (a b c : Den) : SDen := fun env h => match a env h with
  | some (d, h1) => (match b env h1 with
    | some (d2, h2) => (match c env h2 with
      | some (d3, h3) => some (.nx, ((env.set i (some d)).set j (some d2)).set l (some d3), h3)
      | none => none)
    | none => none)
  | none => none
theorem xs_par3 {i j l : Nat} {x y z : Str} {a b c : Expr} {f g k : Den} {px py pz pt : Pos} {kt k2 pt2} (hc : X.calm = true) (hN : X.N.Nodup) (hi : X.N[i]? = some x) (hj : X.N[j]? = some y) (hl : X.N[l]? = some z) (hij : i ≠ j) (hil : i ≠ l) (hjl : j ≠ l)
    (hx : X.env.scope.names.lookup x = some .local) (hy : X.env.scope.names.lookup y = some .local) (hz : X.env.scope.names.lookup z = some .local) (ha : XE X a f) (hb : XE X b g) (hk : XE X c k)
    (hw : swappedStores [.Tuple [.Name x px, .Name y py, .Name z pz] kt pt] (.Tuple [a, b, c] k2 pt2) X.env = pure (some [x, y, z]))
    (s1 : starEach [a, b, c] X.env = (false, eval a X.env) :: starEach [b, c] X.env := by rfl) (s2 : starEach [b, c] X.env = (false, eval b X.env) :: starEach [c] X.env := by rfl) (s3 : starEach [c] X.env = (false, eval c X.env) :: starEach [] X.env := by rfl)
    (hs : swapsWithSole [.Tuple [.Name x px, .Name y py, .Name z pz] kt pt] (.Tuple [a, b, c] k2 pt2) pos.line X.env = pure false := by rfl) :
    XS X (.Assign [.Tuple [.Name x px, .Name y py, .Name z pz] kt pt] (.Tuple [a, b, c] k2 pt2) pos) (sPar3 i j l f g k) :=
  PSw (ps_par3 hc hN hi hj hl hij hil hjl hx hy hz (pa_cons ha (pa_cons hb (pa_cons hk pa_nil s3) s2) s1) hw hs) fun D σ H ⟨N, env, m, h, fl, env', h', gg, e, q⟩ => by
    unfold sPar3 at e
    split at e
    · rename_i d h1 e1
      split at e
      · rename_i d2 h2 e2
        split at e
        · rename_i d3 h3 e3
          cases e
          refine ⟨N, env, m, h, d, h1, gg, e1, fun H1 m1 v p1 r1 => ⟨N, env, m1, h1, d2, h2, gg.mono p1, e2, fun H2 m2 w p2 r2 => ⟨N, env, m2, h2, d3, _, (gg.mono p1).mono p2, e3, fun H3 m3 u p3 r3 => ⟨v, w, u, rfl, ?_⟩⟩⟩⟩
          have g3 := ((gg.mono p1).mono p2).mono p3
          exact q _ H3 m3 ((p1.trans p2).trans p3) (RE.set (RE.set (RE.set g3.re (RV.mono p1.rh (p2.trans p3) _ _ r1)) (RV.mono p2.rh p3 _ _ r2)) r3)
        · cases e
      · cases e
    · cases e
end
end Dn

set_option Elab.async false
set_option linter.all false
set_option maxRecDepth 100000
set_option maxHeartbeats 1000000
/-! Dn: small words for printed terms. -/
namespace Dn
open PySem PySem.Spec PyProof.Rows L2
theorem hu64 {k : Nat} {A : Around} (hr : Room k A) : A.units + 64 < cLine := hr.units
theorem hu100 {k : Nat} {A : Around} (hr : Room k A) : A.units + 100 < cLine := by have := hr.un; omega
theorem pe_tyN {X : Cx} {y : Str} {T : String} {pos : Pos} (hg : Gl X y) (hm : X.mg y = none) (hv : bootBuiltins y = some (.type T)) (hn : y ≠ "__name__" := by decide) (hdb : (y == ("__debug__" : Str)) = false := by decide) : PE X (.Name y pos) (tC (.ty T)) :=
  ⟨fun pins s σ H Q I h => ld_blt I hg hm hv ⟨.ty T, H, I, rfl, h⟩ hn hdb⟩
theorem boot_lenX : bootBuiltins "len" = some (.builtin "len") := by decide +kernel
theorem boot_absX : bootBuiltins "abs" = some (.builtin "abs") := by decide +kernel
theorem boot_minX : bootBuiltins "min" = some (.builtin "min") := by decide +kernel
theorem boot_maxX : bootBuiltins "max" = some (.builtin "max") := by decide +kernel
theorem boot_sumX : bootBuiltins "sum" = some (.builtin "sum") := by decide +kernel
theorem boot_sortedX : bootBuiltins "sorted" = some (.builtin "sorted") := by decide +kernel
theorem boot_allX : bootBuiltins "all" = some (.builtin "all") := by decide +kernel
theorem boot_anyX : bootBuiltins "any" = some (.builtin "any") := by decide +kernel
theorem boot_isinstanceX : bootBuiltins "isinstance" = some (.builtin "isinstance") := by decide +kernel
theorem boot_intX : bootBuiltins "int" = some (.type "int") := by decide +kernel
theorem boot_strX : bootBuiltins "str" = some (.type "str") := by decide +kernel
theorem boot_boolX : bootBuiltins "bool" = some (.type "bool") := by decide +kernel
theorem boot_tupleX : bootBuiltins "tuple" = some (.type "tuple") := by decide +kernel
theorem boot_listX : bootBuiltins "list" = some (.type "list") := by decide +kernel
theorem boot_dictX : bootBuiltins "dict" = some (.type "dict") := by decide +kernel
end Dn

set_option Elab.async false
set_option linter.all false
set_option maxRecDepth 100000
set_option maxHeartbeats 1000000
/-! Dn: one step of a denotation, its parts being known. -/
namespace Dn
open PySem PySem.Spec PyProof.Rows L2
section
variable {p : Prim} {f g : Den} {fl gl : LDen} {c c2 : BDen} {s t : SDen} {tg : GDen} {env e1 e2 : DE} {h h1 h2 : HH} {a b d : D} {ds : List D} {n w : Nat} {x : Bool}
theorem v_ap1 (hf : f env h = some (a, h1)) : dApp p (dCons f dNil) env h = p [a] h1 := by
  unfold dApp dCons
  rw [hf]; rfl
theorem v_ap2 (hf : f env h = some (a, h1)) (hg : g env h1 = some (b, h2)) : dApp2 p f g env h = p [a, b] h2 := by
  unfold dApp2 dApp dCons
  rw [hf]
  simp only
  rw [hg]; rfl
theorem v_app (hf : fl env h = some (ds, h1)) : dApp p fl env h = p ds h1 := by
  unfold dApp
  rw [hf]
theorem v_cons (hf : f env h = some (a, h1)) (hg : gl env h1 = some (ds, h2)) : dCons f gl env h = some (a :: ds, h2) := by
  unfold dCons
  rw [hf]
  simp only
  rw [hg]
theorem v_test (hf : f env h = some (.bl x, h1)) : dTest f env h = some (x, h1) := by
  unfold dTest
  rw [hf]
theorem v_not (hf : c env h = some (x, h1)) : dNot c env h = some (!x, h1) := by
  unfold dNot
  rw [hf]
theorem v_and0 (hf : c env h = some (false, h1)) : dAnd c c2 env h = some (false, h1) := by
  unfold dAnd
  rw [hf]
theorem v_and1 (hf : c env h = some (true, h1)) : dAnd c c2 env h = c2 env h1 := by
  unfold dAnd
  rw [hf]
theorem v_or0 (hf : c env h = some (false, h1)) : dOr c c2 env h = c2 env h1 := by
  unfold dOr
  rw [hf]
theorem v_or1 (hf : c env h = some (true, h1)) : dOr c c2 env h = some (true, h1) := by
  unfold dOr
  rw [hf]
theorem v_andV (hf : f env h = some (.bl true, h1)) : dAndV f g env h = g env h1 := by
  unfold dAndV
  rw [hf]
theorem v_ifT (hf : c env h = some (true, h1)) : dIf c f g env h = f env h1 := by
  unfold dIf
  rw [hf]
theorem v_ifF (hf : c env h = some (false, h1)) : dIf c f g env h = g env h1 := by
  unfold dIf
  rw [hf]
theorem v_seq (hf : s env h = some (.nx, e1, h1)) : sSeq s t env h = t e1 h1 := by
  unfold sSeq
  rw [hf]
theorem v_asg (hf : f env h = some (d, h1)) (hg : tg d env h1 = some (e2, h2)) : sAsg f tg env h = some (.nx, e2, h2) := by
  unfold sAsg
  rw [hf]
  simp only
  rw [hg]
theorem v_ret (hf : f env h = some (d, h1)) : sRet f env h = some (.ret d, env, h1) := by
  unfold sRet
  rw [hf]
theorem v_expr (hf : f env h = some (d, h1)) : sExpr f env h = some (.nx, env, h1) := by
  unfold sExpr
  rw [hf]
theorem v_sifT (hf : c env h = some (true, h1)) : sIf c s t env h = s env h1 := by
  unfold sIf
  rw [hf]
theorem v_sifF (hf : c env h = some (false, h1)) : sIf c s t env h = t env h1 := by
  unfold sIf
  rw [hf]
theorem v_run {body : SDen} (hl : ds.length = n) (hb : body (ds.map some ++ List.replicate (w - ds.length) none) h = some (.ret d, e1, h1)) : runFn n w body ds h = some (d, h1) := by
  unfold runFn
  rw [if_pos hl, hb]
theorem v_for {src : IDen} {body : SDen} {items : List D} {gd : Gds} (hs : src env h = some ((items, gd), h1)) : sFor src tg body env h = forGo tg body gd items env h1 := by
  unfold sFor
  rw [hs]
theorem v_forNil {body : SDen} {gd : Gds} (hk : okG gd h = true) : forGo tg body gd [] env h = some (.nx, env, h) := by
  unfold forGo
  rw [if_pos hk]
theorem v_forNx {body : SDen} {gd : Gds} {r : List D} {e3 : DE} {h3 : HH} (hk : okG gd h = true) (hg : tg d env h = some (e1, h1)) (hb : body e1 h1 = some (.nx, e3, h3)) : forGo tg body gd (d :: r) env h = forGo tg body gd r e3 h3 := by
  simp only [forGo]
  rw [if_pos hk, hg]
  simp only
  rw [hb]
  simp only
  rw [frcE_eq]
theorem v_forBrk {body : SDen} {gd : Gds} {r : List D} {e3 : DE} {h3 : HH} (hk : okG gd h = true) (hg : tg d env h = some (e1, h1)) (hb : body e1 h1 = some (.brk, e3, h3)) : forGo tg body gd (d :: r) env h = some (.nx, e3, h3) := by
  simp only [forGo]
  rw [if_pos hk, hg]
  simp only
  rw [hb]
end
end Dn

set_option Elab.async false
set_option linter.all false
set_option maxRecDepth 100000
set_option maxHeartbeats 1000000
/-! Dn: a loop that forgets, after each turn, what the turn has made and nobody older holds. -/
namespace Dn
open PySem PySem.Spec PyProof.Rows L2
mutual
def mentD (k : Nat) : D → Bool
  | .ref n => decide (k ≤ n)
  | .tup l => mentDs k l
  | .fl l => mentDs k l
  | .sc l => mentDs k l
  | _ => false
def mentDs (k : Nat) : List D → Bool
  | [] => false
  | d :: r => mentD k d || mentDs k r
end
def mentPs (k : Nat) : List (D × D) → Bool
  | [] => false
  | p :: r => (mentD k p.1 || mentD k p.2) || mentPs k r
def mentO (k : Nat) : O → Bool
  | .lst l => mentDs k l
  | .dK l => mentPs k l
  | .dT l => mentPs k l
  | .lkK l => mentPs k l
  | .lkT l => mentPs k l
def trimE (k : Nat) (env : DE) : DE := env.map fun o => match o with
  | some d => if mentD k d = true then none else some d
  | none => none
def keepH (k : Nat) (h : HH) : Bool := (h.take k).any (mentO k)
section
variable {K : PySem.W.Frag} {N : Addr → Prop} {H : Hp} {m e : List Addr} {k : Nat}
mutual
theorem RV.trim (hk : m.length = k) : ∀ (d : D) (v : V), mentD k d = false → RV K N H (m ++ e) d v → RV K N H m d v
  | .non, _, _, q => q
  | .bl _, _, _, q => q
  | .int _, _, _, q => q
  | .str _, _, _, q => q
  | .ref n, _, hm, ⟨a, e1, q⟩ => by
    have hn : ¬ k ≤ n := by simpa [mentD] using hm
    rw [List.getElem?_append_left (by omega)] at e1
    exact ⟨a, e1, q⟩
  | .fl l, _, hm, ⟨a, vs, e1, ⟨q1, q2, q3⟩, z⟩ => ⟨a, vs, e1, ⟨q1, fun y => q2 (List.mem_append_left _ y), q3⟩, RVs.trim hk l vs (by simpa [mentD] using hm) z⟩
  | .sc l, _, hm, ⟨a, vs, e1, q, z⟩ => ⟨a, vs, e1, q, RVs.trim hk l vs (by simpa [mentD] using hm) z⟩
  | .tup l, _, hm, ⟨a, vs, e1, q, z⟩ => ⟨a, vs, e1, q, RVs.trim hk l vs (by simpa [mentD] using hm) z⟩
theorem RVs.trim (hk : m.length = k) : ∀ (l : List D) (vs : List V), mentDs k l = false → RVs K N H (m ++ e) l vs → RVs K N H m l vs
  | [], _, _, q => q
  | d :: l, _, hm, ⟨v, ws, e1, q, z⟩ => by
    simp only [mentDs, Bool.or_eq_false_iff] at hm
    exact ⟨v, ws, e1, RV.trim hk d v hm.1 q, RVs.trim hk l ws hm.2 z⟩
end
theorem trimPK (hk : m.length = k) : ∀ {l : List (D × D)} {ws : List (Key × V)}, mentPs k l = false → Paired (Dn.PK K N H (m ++ e)) l ws → Paired (Dn.PK K N H m) l ws
  | _, _, _, .nil => .nil
  | _, _, hm, .cons h t => by
    simp only [mentPs, Bool.or_eq_false_iff] at hm
    exact .cons ⟨h.1, RV.trim hk _ _ hm.1.2 h.2⟩ (trimPK hk hm.2 t)
theorem trimPT (hk : m.length = k) : ∀ {l : List (D × D)} {ws : List (List Key × V)}, mentPs k l = false → Paired (Dn.PT K N H (m ++ e)) l ws → Paired (Dn.PT K N H m) l ws
  | _, _, _, .nil => .nil
  | _, _, hm, .cons h t => by
    simp only [mentPs, Bool.or_eq_false_iff] at hm
    exact .cons ⟨h.1, RV.trim hk _ _ hm.1.2 h.2⟩ (trimPT hk hm.2 t)
theorem RO.trim (hk : m.length = k) {a : Addr} : ∀ {o : O}, mentO k o = false → RO K N H (m ++ e) a o → RO K N H m a o
  | .lst l, hm, ⟨vs, e1, z⟩ => ⟨vs, e1, RVs.trim hk l vs hm z⟩
  | .dK l, hm, ⟨ws, e1, z⟩ => ⟨ws, e1, trimPK hk hm z⟩
  | .dT l, hm, ⟨ws, e1, z⟩ => ⟨ws, e1, trimPT hk hm z⟩
  | .lkK l, hm, ⟨ob, ws, e1, z⟩ => ⟨ob, ws, e1, trimPK hk hm z⟩
  | .lkT l, hm, ⟨ob, ws, e1, z⟩ => ⟨ob, ws, e1, trimPT hk hm z⟩
theorem RE.trim {σ : L2.St} {env : DE} (hk : m.length = k) (r : RE K N H (m ++ e) σ env) : RE K N H m σ (trimE k env) := by
  refine ⟨by simp [trimE, r.len], fun i d q => ?_⟩
  unfold trimE at q
  rw [List.getElem?_map] at q
  cases e1 : env[i]? with
  | none => rw [e1] at q; cases q
  | some o =>
    rw [e1] at q
    cases o with
    | none => cases q
    | some d' =>
      simp only [Option.map_some] at q
      split at q
      · cases q
      · rename_i hm
        cases q
        obtain ⟨v, ev, rv⟩ := r.at_ i _ e1
        exact ⟨v, ev, RV.trim hk _ v (by simpa using hm) rv⟩
theorem RH.trim {h : HH} (hk : m.length = k) (r : RH K N H (m ++ e) h) (hn : keepH k h = false) : RH K N H m (h.take k) := by
  have hl := r.len
  rw [List.length_append] at hl
  refine ⟨by rw [List.length_take]; omega, (List.nodup_append.mp r.nd).1, r.hid, fun n o a e1 e2 => ?_⟩
  have hn' : n < k := by
    have := (List.getElem?_eq_some_iff.mp e1).1
    rw [List.length_take] at this
    omega
  have e3 : h[n]? = some o := by
    rw [List.getElem?_take] at e1
    rw [if_pos hn'] at e1
    exact e1
  refine RO.trim hk ?_ (r.at_ n o a e3 (by rw [List.getElem?_append_left (by omega)]; exact e2))
  unfold keepH at hn
  rw [List.any_eq_false] at hn
  have := hn o (List.mem_of_getElem? e1)
  simpa using this
theorem Post.trim {H1 : Hp} {m1 m2 : List Addr} {h2 : HH} (hk : m1.length = k) (p : Post K N H1 m1 H m2 h2) (hn : keepH k h2 = false) : Post K N H1 m1 H m1 (h2.take k) := by
  obtain ⟨e, he⟩ := p.pre
  have rh := p.rh
  rw [he] at rh
  exact ⟨⟨[], by simp⟩, p.frame, fun a z n => absurd z n, p.dom, rh.trim hk hn, p.frz⟩
end
def forGoT (k : Nat) (g : GDen) (body : SDen) (gd : Gds) : List D → SDen
  | [] => fun env h => if okG gd h = true then some (.nx, env, h) else none
  | d :: r => fun env h => if okG gd h = true then (match g d env h with
      | some (env1, h1) => (match body env1 h1 with
        | some (.nx, env2, h2) => if keepH k h2 = true then frcE env2 fun env2 => forGoT k g body gd r env2 h2 else frcE (trimE k env2) fun env2 => frcL (h2.take k) fun h2 => forGoT k g body gd r env2 h2
        | some (.ct, env2, h2) => frcE env2 fun env2 => forGoT k g body gd r env2 h2
        | some (.brk, env2, h2) => some (.nx, env2, h2)
        | some (.ret d, env2, h2) => some (.ret d, env2, h2)
        | none => none)
      | none => none) else none
def sForT (src : IDen) (g : GDen) (body : SDen) : SDen := fun env h => match src env h with
  | some ((items, gd), h1) => forGoT h1.length g body gd items env h1
  | none => none
section
variable {X : Cx} {pos : Pos}
theorem xs_forT {tg iter : Expr} {body : List Stmt} {src : IDen} {g : GDen} {fb : SDen} (hp : PassesOwn (model X.prog X.w) X.A X.env X.xe) (hc : X.calm = true) (hi : XI X tg iter src) (hg : XG X tg g) (hb : XSs X body fb)
    (hs : ∀ x, foldedSetIterable iter X.env x = pure x := by intro _; rfl) : XS X (.For tg iter body [] pos) (sForT src g fb) :=
  PSw (ps_for hp hc hi hg hb hs) fun D σ H ⟨N, env, m, h, fl, env', h', gg, e, q⟩ => by
    unfold sForT at e
    split at e
    · rename_i items gd h1 e1
      refine ⟨N, env, m, h, items, gd, h1, gg, e1, fun H1 m1 J p1 wk => ?_⟩
      have hk : m1.length = h1.length := p1.rh.len
      generalize h1.length = k at e hk
      refine ⟨fun i j σ H => j = items.length - i ∧ i ≤ items.length ∧ ∃ m2 env2 h2, Post X.K N H1 m1 H m2 h2 ∧ RE X.K N H m2 σ env2 ∧ forGoT k g fb gd (items.drop i) env2 h2 = some (fl, env', h'),
        ⟨_, rfl, Nat.zero_le _, m1, env, h1, Post.refl p1.rh, (gg.mono p1).re, by simpa using e⟩, ?_⟩
      rintro i j σ2 H2 ⟨rfl, hi2, m2, env2, h2, p2, re2, e2⟩
      have ext : Ext N H1 m1 N H2 m2 := ⟨p2.pre, p2.frame, p2.fresh, fun a z => .inl z, p2.frz⟩
      by_cases hl : i < items.length
      · rw [List.drop_eq_getElem_cons hl] at e2
        unfold forGoT at e2
        split at e2
        · rename_i hok
          obtain ⟨w1, _⟩ := wk N H2 m2 h2 ext p2.rh hok i
          obtain ⟨go, yl⟩ := w1 items[i] (List.getElem?_eq_getElem hl)
          refine .inr ⟨go, fun σ' H' => (items.length - (i + 1) = items.length - (i + 1) ∧ i + 1 ≤ items.length ∧ ∃ m2 env2 h2, Post X.K N H1 m1 H' m2 h2 ∧ RE X.K N H' m2 σ' env2 ∧ forGoT k g fb gd (items.drop (i + 1)) env2 h2 = some (fl, env', h')), fun σ' H' z => ⟨_, by omega, z⟩, fun x H' y => ?_⟩
          obtain ⟨p3, r3⟩ := yl x H' y
          split at e2
          · rename_i env3 h3 e3
            refine ⟨N, env2, m2, h2, items[i], env3, h3, ⟨RE.mono p2.rh p3 re2, p3.rh⟩, r3, e3, fun σ4 H4 m4 p4 re4 => ?_⟩
            have p24 := (p2.trans p3).trans p4
            split at e2
            · rename_i env5 h5 e5
              by_cases hkeep : keepH k h5 = true
              · rw [if_pos hkeep, frcE_eq] at e2
                exact ⟨N, env3, m4, h3, _, env5, h5, ⟨re4, p4.rh⟩, e5, fun σ6 H6 m6 p6 re6 => ⟨rfl, hl, m6, env5, h5, p24.trans p6, re6, e2⟩⟩
              · rw [if_neg hkeep, frcE_eq, frcL_eq] at e2
                refine ⟨N, env3, m4, h3, _, env5, h5, ⟨re4, p4.rh⟩, e5, fun σ6 H6 m6 p6 re6 => ⟨rfl, hl, m1, trimE k env5, h5.take k, (p24.trans p6).trim hk (by simpa using hkeep), ?_, e2⟩⟩
                obtain ⟨ee, hee⟩ := (p24.trans p6).pre
                rw [hee] at re6
                exact re6.trim hk
            · rename_i env5 h5 e5
              rw [frcE_eq] at e2
              exact ⟨N, env3, m4, h3, _, env5, h5, ⟨re4, p4.rh⟩, e5, fun σ6 H6 m6 p6 re6 => ⟨rfl, hl, m6, env5, h5, p24.trans p6, re6, e2⟩⟩
            · rename_i env5 h5 e5
              cases e2
              exact ⟨N, env3, m4, h3, _, _, _, ⟨re4, p4.rh⟩, e5, fun σ6 H6 m6 p6 re6 => q σ6 H6 m6 (p1.trans (p24.trans p6)) re6⟩
            · rename_i d5 env5 h5 e5
              cases e2
              exact ⟨N, env3, m4, h3, _, _, _, ⟨re4, p4.rh⟩, e5, fun σ6 H6 m6 p6 re6 => q σ6 H6 m6 (p1.trans (p24.trans p6)) re6⟩
            · cases e2
          · cases e2
        · cases e2
      · have hi3 : i = items.length := by omega
        subst hi3
        rw [List.drop_length] at e2
        unfold forGoT at e2
        split at e2
        · rename_i hok
          cases e2
          exact .inl ⟨(wk N H2 m2 _ ext p2.rh hok items.length).2 (Nat.le_refl _), q σ2 H2 m2 (p1.trans p2) re2⟩
        · cases e2
    · cases e
end
end Dn

set_option Elab.async false
set_option linter.all false
set_option maxRecDepth 100000
set_option maxHeartbeats 4000000

namespace K38
open PySem PySem.Spec PyProof.Rows L2 Dn
def topS (i : Nat) : Stmt := PySem.Challenge.pw_answernow_k38_whole_ready_rows_by_parts.main.body.getD i (.Pass ⟨0, 0, 0, 0⟩)
abbrev st_next_fit : Stmt := topS 1
theorem sc_next_fit : FnScope ["room", "things", "found", "left", "thing"] ["room", "things"] (defScope st_next_fit) := ⟨rfl, rfl, rfl, by decide +kernel, rfl, by decide +kernel, by decide +kernel⟩
abbrev st_least_bins : Stmt := topS 2
theorem sc_least_bins : FnScope ["room", "things", "powers", "best", "thing", "lot", "some", "at", "bins", "filled", "last"] ["room", "things"] (defScope st_least_bins) := ⟨rfl, rfl, rfl, by decide +kernel, rfl, by decide +kernel, by decide +kernel⟩
abbrev st_best_packing : Stmt := topS 3
theorem sc_best_packing : FnScope ["room", "things", "powers", "best", "lot", "found", "own", "bins", "filled", "at"] ["room", "things"] (defScope st_best_packing) := ⟨rfl, rfl, rfl, by decide +kernel, rfl, by decide +kernel, by decide +kernel⟩
abbrev st_bin_hindsight : Stmt := topS 4
theorem sc_bin_hindsight : FnScope ["room", "things"] ["room", "things"] (defScope st_bin_hindsight) := ⟨rfl, rfl, rfl, by decide +kernel, rfl, by decide +kernel, by decide +kernel⟩
abbrev st_bin_foe : Stmt := topS 5
theorem sc_bin_foe : FnScope ["n"] ["n"] (defScope st_bin_foe) := ⟨rfl, rfl, rfl, by decide +kernel, rfl, by decide +kernel, by decide +kernel⟩
abbrev st_is_forest : Stmt := topS 7
theorem sc_is_forest : FnScope ["ties", "parts", "i", "own", "met", "j", "part"] ["ties"] (defScope st_is_forest) := ⟨rfl, rfl, rfl, by decide +kernel, rfl, by decide +kernel, by decide +kernel⟩
abbrev st_least_colours : Stmt := topS 8
theorem sc_least_colours : FnScope ["ties", "found", "own", "taken", "j", "colour"] ["ties"] (defScope st_least_colours) := ⟨rfl, rfl, rfl, by decide +kernel, rfl, by decide +kernel, by decide +kernel⟩
abbrev st_two_colours : Stmt := topS 9
theorem sc_two_colours : FnScope ["ties", "parts", "found", "i", "own", "turned", "met", "j", "colour", "part"] ["ties"] (defScope st_two_colours) := ⟨rfl, rfl, rfl, by decide +kernel, rfl, by decide +kernel, by decide +kernel⟩
abbrev st_colour_tower : Stmt := topS 10
theorem sc_colour_tower : FnScope ["c", "found", "tops", "lesser", "base", "own", "j"] ["c"] (defScope st_colour_tower) := ⟨rfl, rfl, rfl, by decide +kernel, rfl, by decide +kernel, by decide +kernel⟩
abbrev st_put_at : Stmt := topS 12
theorem sc_put_at : FnScope ["state", "i", "x"] ["state", "i", "x"] (defScope st_put_at) := ⟨rfl, rfl, rfl, by decide +kernel, rfl, by decide +kernel, by decide +kernel⟩
abbrev st_near_step : Stmt := topS 13
theorem sc_near_step : FnScope ["state", "x", "ways", "i", "place"] ["state", "x"] (defScope st_near_step) := ⟨rfl, rfl, rfl, by decide +kernel, rfl, by decide +kernel, by decide +kernel⟩
abbrev st_both_step : Stmt := topS 14
theorem sc_both_step : FnScope ["state", "x", "low", "way", "between", "place"] ["state", "x"] (defScope st_both_step) := ⟨rfl, rfl, rfl, by decide +kernel, rfl, by decide +kernel, by decide +kernel⟩
abbrev st_step_of : Stmt := topS 15
theorem sc_step_of : FnScope ["word", "state", "x"] ["word", "state", "x"] (defScope st_step_of) := ⟨rfl, rfl, rfl, by decide +kernel, rfl, by decide +kernel, by decide +kernel⟩
abbrev st_paid_of : Stmt := topS 16
theorem sc_paid_of : FnScope ["word", "state", "row", "paid", "x", "cost"] ["word", "state", "row"] (defScope st_paid_of) := ⟨rfl, rfl, rfl, by decide +kernel, rfl, by decide +kernel, by decide +kernel⟩
abbrev st_state_match : Stmt := topS 18
theorem sc_state_match : FnScope ["state", "other", "one", "two"] ["state", "other"] (defScope st_state_match) := ⟨rfl, rfl, rfl, by decide +kernel, rfl, by decide +kernel, by decide +kernel⟩
abbrev st_moved_state : Stmt := topS 19
theorem sc_moved_state : FnScope ["state", "i", "x"] ["state", "i", "x"] (defScope st_moved_state) := ⟨rfl, rfl, rfl, by decide +kernel, rfl, by decide +kernel, by decide +kernel⟩
abbrev st_greedy_trap : Stmt := topS 20
theorem sc_greedy_trap : FnScope ["state", "times"] ["state", "times"] (defScope st_greedy_trap) := ⟨rfl, rfl, rfl, by decide +kernel, rfl, by decide +kernel, by decide +kernel⟩
abbrev st_list_giving : Stmt := topS 22
theorem sc_list_giving : FnScope ["m", "jobs", "sums", "found", "job", "machine"] ["m", "jobs"] (defScope st_list_giving) := ⟨rfl, rfl, rfl, by decide +kernel, rfl, by decide +kernel, by decide +kernel⟩
abbrev st_machine_sums : Stmt := topS 23
theorem sc_machine_sums : FnScope ["m", "jobs", "giving", "sums", "job", "machine"] ["m", "jobs", "giving"] (defScope st_machine_sums) := ⟨rfl, rfl, rfl, by decide +kernel, rfl, by decide +kernel, by decide +kernel⟩
abbrev st_giving_end : Stmt := topS 24
theorem sc_giving_end : FnScope ["m", "jobs", "giving"] ["m", "jobs", "giving"] (defScope st_giving_end) := ⟨rfl, rfl, rfl, by decide +kernel, rfl, by decide +kernel, by decide +kernel⟩
abbrev st_longest_first : Stmt := topS 25
theorem sc_longest_first : FnScope ["m", "jobs", "ordered"] ["m", "jobs"] (defScope st_longest_first) := ⟨rfl, rfl, rfl, by decide +kernel, rfl, by decide +kernel, by decide +kernel⟩
abbrev st_sums_met : Stmt := topS 26
theorem sc_sums_met : FnScope ["m", "jobs", "layer", "limit", "job", "found", "sums", "giving", "machine", "later"] ["m", "jobs"] (defScope st_sums_met) := ⟨rfl, rfl, rfl, by decide +kernel, rfl, by decide +kernel, by decide +kernel⟩
abbrev st_load_hindsight : Stmt := topS 27
theorem sc_load_hindsight : FnScope ["m", "jobs", "key"] ["m", "jobs"] (defScope st_load_hindsight) := ⟨rfl, rfl, rfl, by decide +kernel, rfl, by decide +kernel, by decide +kernel⟩
abbrev st_load_foe : Stmt := topS 28
theorem sc_load_foe : FnScope ["m"] ["m"] (defScope st_load_foe) := ⟨rfl, rfl, rfl, by decide +kernel, rfl, by decide +kernel, by decide +kernel⟩
abbrev st_work_layers : Stmt := topS 30
theorem sc_work_layers : FnScope ["state", "row", "layers", "x", "found", "own", "told", "i", "later", "cost"] ["state", "row"] (defScope st_work_layers) := ⟨rfl, rfl, rfl, by decide +kernel, rfl, by decide +kernel, by decide +kernel⟩
abbrev st_server_hindsight : Stmt := topS 31
theorem sc_server_hindsight : FnScope ["state", "row", "told"] ["state", "row"] (defScope st_server_hindsight) := ⟨rfl, rfl, rfl, by decide +kernel, rfl, by decide +kernel, by decide +kernel⟩
abbrev st_work_step : Stmt := topS 33
theorem sc_work_step : FnScope ["first", "past", "state", "x", "works", "found", "i", "later", "way", "whole", "own", "told", "cost"] ["first", "past", "state", "x"] (defScope st_work_step) := ⟨rfl, rfl, rfl, by decide +kernel, rfl, by decide +kernel, by decide +kernel⟩
abbrev st_first_state : Stmt := topS 35
theorem sc_first_state : FnScope ["k", "apart", "i"] ["k", "apart"] (defScope st_first_state) := ⟨rfl, rfl, rfl, by decide +kernel, rfl, by decide +kernel, by decide +kernel⟩
abbrev st_server_foe : Stmt := topS 36
theorem sc_server_foe : FnScope ["word", "k", "apart", "many", "first", "row", "state", "turn", "x", "i"] ["word", "k", "apart", "many"] (defScope st_server_foe) := ⟨rfl, rfl, rfl, by decide +kernel, rfl, by decide +kernel, by decide +kernel⟩
abbrev st_ready_rows : Stmt := topS 38
theorem sc_ready_rows : FnScope [] [] (defScope st_ready_rows) := ⟨rfl, rfl, rfl, by decide +kernel, rfl, by decide +kernel, by decide +kernel⟩
abbrev st_ready_row : Stmt := topS 39
theorem sc_ready_row : FnScope ["word", "n"] ["word", "n"] (defScope st_ready_row) := ⟨rfl, rfl, rfl, by decide +kernel, rfl, by decide +kernel, by decide +kernel⟩
abbrev st_ready_pays : Stmt := topS 40
theorem sc_ready_pays : FnScope ["word", "n"] ["word", "n"] (defScope st_ready_pays) := ⟨rfl, rfl, rfl, by decide +kernel, rfl, by decide +kernel, by decide +kernel⟩
abbrev st__law_bag : Stmt := topS 42
theorem sc__law_bag : FnScope ["script", "cells", "mixed", "c"] ["script"] (defScope st__law_bag) := ⟨rfl, rfl, rfl, by decide +kernel, rfl, by decide +kernel, by decide +kernel⟩
abbrev st__law_draw : Stmt := topS 43
theorem sc__law_draw : FnScope ["bag", "m", "k", "c"] ["bag", "m"] (defScope st__law_draw) := ⟨rfl, rfl, rfl, by decide +kernel, rfl, by decide +kernel, by decide +kernel⟩
abbrev st__law_is : Stmt := topS 44
theorem sc__law_is : FnScope ["a", "b", "x", "y"] ["a", "b"] (defScope st__law_is) := ⟨rfl, rfl, rfl, by decide +kernel, rfl, by decide +kernel, by decide +kernel⟩
abbrev st__law_near : Stmt := topS 45
theorem sc__law_near : FnScope ["state", "x", "best", "i", "p", "row", "at"] ["state", "x"] (defScope st__law_near) := ⟨rfl, rfl, rfl, by decide +kernel, rfl, by decide +kernel, by decide +kernel⟩
abbrev st__law_near_pay : Stmt := topS 46
theorem sc__law_near_pay : FnScope ["state", "row", "pay", "x", "cost"] ["state", "row"] (defScope st__law_near_pay) := ⟨rfl, rfl, rfl, by decide +kernel, rfl, by decide +kernel, by decide +kernel⟩
abbrev st__law_hindsight : Stmt := topS 47
theorem sc__law_hindsight : FnScope ["state", "row", "first", "works", "x", "more", "p", "q", "cost", "stay", "go", "pay"] ["state", "row"] (defScope st__law_hindsight) := ⟨rfl, rfl, rfl, by decide +kernel, rfl, by decide +kernel, by decide +kernel⟩
abbrev st__law_foe_row : Stmt := topS 48
theorem sc__law_foe_row : FnScope ["n", "many", "state", "row", "turn", "free", "cost", "p"] ["n", "many"] (defScope st__law_foe_row) := ⟨rfl, rfl, rfl, by decide +kernel, rfl, by decide +kernel, by decide +kernel⟩
abbrev st__law_tower : Stmt := topS 49
theorem sc__law_tower : FnScope ["c", "ties", "ends", "low", "base", "knot", "j"] ["c"] (defScope st__law_tower) := ⟨rfl, rfl, rfl, by decide +kernel, rfl, by decide +kernel, by decide +kernel⟩
abbrev st__law_colours : Stmt := topS 50
theorem sc__law_colours : FnScope ["ties", "found", "knot", "taken", "c", "turn", "j"] ["ties"] (defScope st__law_colours) := ⟨rfl, rfl, rfl, by decide +kernel, rfl, by decide +kernel, by decide +kernel⟩
abbrev st__law_end : Stmt := topS 51
theorem sc__law_end : FnScope ["m", "jobs", "sums", "job", "least", "i", "top", "s"] ["m", "jobs"] (defScope st__law_end) := ⟨rfl, rfl, rfl, by decide +kernel, rfl, by decide +kernel, by decide +kernel⟩
abbrev st__law_bins : Stmt := topS 52
theorem sc__law_bins : FnScope ["room", "things", "bins", "left", "thing"] ["room", "things"] (defScope st__law_bins) := ⟨rfl, rfl, rfl, by decide +kernel, rfl, by decide +kernel, by decide +kernel⟩
abbrev st__law_row : Stmt := topS 53
theorem sc__law_row : FnScope ["word", "n"] ["word", "n"] (defScope st__law_row) := ⟨rfl, rfl, rfl, by decide +kernel, rfl, by decide +kernel, by decide +kernel⟩
abbrev st__law_pays : Stmt := topS 54
theorem sc__law_pays : FnScope ["word", "n", "row", "top", "c"] ["word", "n", "row"] (defScope st__law_pays) := ⟨rfl, rfl, rfl, by decide +kernel, rfl, by decide +kernel, by decide +kernel⟩
abbrev st__law_told : Stmt := topS 55
theorem sc__law_told : FnScope ["word", "n"] ["word", "n"] (defScope st__law_told) := ⟨rfl, rfl, rfl, by decide +kernel, rfl, by decide +kernel, by decide +kernel⟩
abbrev st__law_is_ready : Stmt := topS 56
theorem sc__law_is_ready : FnScope ["word", "n", "named", "row", "due", "told", "pays"] ["word", "n", "named"] (defScope st__law_is_ready) := ⟨rfl, rfl, rfl, by decide +kernel, rfl, by decide +kernel, by decide +kernel⟩
abbrev st__law_is_two : Stmt := topS 57
theorem sc__law_is_two : FnScope ["ties", "told", "i", "knot", "j", "c"] ["ties", "told"] (defScope st__law_is_two) := ⟨rfl, rfl, rfl, by decide +kernel, rfl, by decide +kernel, by decide +kernel⟩
abbrev st__law_by_parts : Stmt := topS 58
theorem sc__law_by_parts : FnScope ["word", "n", "row", "due", "state", "told", "least", "c"] ["word", "n"] (defScope st__law_by_parts) := ⟨rfl, rfl, rfl, by decide +kernel, rfl, by decide +kernel, by decide +kernel⟩
abbrev st__law_are_examples_right : Stmt := topS 59
theorem sc__law_are_examples_right : FnScope ["told", "word"] [] (defScope st__law_are_examples_right) := ⟨rfl, rfl, rfl, by decide +kernel, rfl, by decide +kernel, by decide +kernel⟩
abbrev st_law : Stmt := topS 60
theorem sc_law : FnScope ["script", "bag", "due", "asked", "word", "turn", "n"] ["script"] (defScope st_law) := ⟨rfl, rfl, rfl, by decide +kernel, rfl, by decide +kernel, by decide +kernel⟩
/-- the text as it stands -/
structure Txt (K : PySem.W.Frag) (mg : Str → Option Value) where
  f_next_fit : Addr
  fd_next_fit : FuncData
  F_next_fit : Fun K "next_fit" "next_fit" st_next_fit f_next_fit fd_next_fit
  g_next_fit : mg "next_fit" = some (.ref f_next_fit)
  f_least_bins : Addr
  fd_least_bins : FuncData
  F_least_bins : Fun K "least_bins" "least_bins" st_least_bins f_least_bins fd_least_bins
  g_least_bins : mg "least_bins" = some (.ref f_least_bins)
  f_best_packing : Addr
  fd_best_packing : FuncData
  F_best_packing : Fun K "best_packing" "best_packing" st_best_packing f_best_packing fd_best_packing
  g_best_packing : mg "best_packing" = some (.ref f_best_packing)
  f_bin_hindsight : Addr
  fd_bin_hindsight : FuncData
  F_bin_hindsight : Fun K "bin_hindsight" "bin_hindsight" st_bin_hindsight f_bin_hindsight fd_bin_hindsight
  g_bin_hindsight : mg "bin_hindsight" = some (.ref f_bin_hindsight)
  f_bin_foe : Addr
  fd_bin_foe : FuncData
  F_bin_foe : Fun K "bin_foe" "bin_foe" st_bin_foe f_bin_foe fd_bin_foe
  g_bin_foe : mg "bin_foe" = some (.ref f_bin_foe)
  f_is_forest : Addr
  fd_is_forest : FuncData
  F_is_forest : Fun K "is_forest" "is_forest" st_is_forest f_is_forest fd_is_forest
  g_is_forest : mg "is_forest" = some (.ref f_is_forest)
  f_least_colours : Addr
  fd_least_colours : FuncData
  F_least_colours : Fun K "least_colours" "least_colours" st_least_colours f_least_colours fd_least_colours
  g_least_colours : mg "least_colours" = some (.ref f_least_colours)
  f_two_colours : Addr
  fd_two_colours : FuncData
  F_two_colours : Fun K "two_colours" "two_colours" st_two_colours f_two_colours fd_two_colours
  g_two_colours : mg "two_colours" = some (.ref f_two_colours)
  f_colour_tower : Addr
  fd_colour_tower : FuncData
  F_colour_tower : Fun K "colour_tower" "colour_tower" st_colour_tower f_colour_tower fd_colour_tower
  g_colour_tower : mg "colour_tower" = some (.ref f_colour_tower)
  f_put_at : Addr
  fd_put_at : FuncData
  F_put_at : Fun K "put_at" "put_at" st_put_at f_put_at fd_put_at
  g_put_at : mg "put_at" = some (.ref f_put_at)
  f_near_step : Addr
  fd_near_step : FuncData
  F_near_step : Fun K "near_step" "near_step" st_near_step f_near_step fd_near_step
  g_near_step : mg "near_step" = some (.ref f_near_step)
  f_both_step : Addr
  fd_both_step : FuncData
  F_both_step : Fun K "both_step" "both_step" st_both_step f_both_step fd_both_step
  g_both_step : mg "both_step" = some (.ref f_both_step)
  f_step_of : Addr
  fd_step_of : FuncData
  F_step_of : Fun K "step_of" "step_of" st_step_of f_step_of fd_step_of
  g_step_of : mg "step_of" = some (.ref f_step_of)
  f_paid_of : Addr
  fd_paid_of : FuncData
  F_paid_of : Fun K "paid_of" "paid_of" st_paid_of f_paid_of fd_paid_of
  g_paid_of : mg "paid_of" = some (.ref f_paid_of)
  f_state_match : Addr
  fd_state_match : FuncData
  F_state_match : Fun K "state_match" "state_match" st_state_match f_state_match fd_state_match
  g_state_match : mg "state_match" = some (.ref f_state_match)
  f_moved_state : Addr
  fd_moved_state : FuncData
  F_moved_state : Fun K "moved_state" "moved_state" st_moved_state f_moved_state fd_moved_state
  g_moved_state : mg "moved_state" = some (.ref f_moved_state)
  f_greedy_trap : Addr
  fd_greedy_trap : FuncData
  F_greedy_trap : Fun K "greedy_trap" "greedy_trap" st_greedy_trap f_greedy_trap fd_greedy_trap
  g_greedy_trap : mg "greedy_trap" = some (.ref f_greedy_trap)
  f_list_giving : Addr
  fd_list_giving : FuncData
  F_list_giving : Fun K "list_giving" "list_giving" st_list_giving f_list_giving fd_list_giving
  g_list_giving : mg "list_giving" = some (.ref f_list_giving)
  f_machine_sums : Addr
  fd_machine_sums : FuncData
  F_machine_sums : Fun K "machine_sums" "machine_sums" st_machine_sums f_machine_sums fd_machine_sums
  g_machine_sums : mg "machine_sums" = some (.ref f_machine_sums)
  f_giving_end : Addr
  fd_giving_end : FuncData
  F_giving_end : Fun K "giving_end" "giving_end" st_giving_end f_giving_end fd_giving_end
  g_giving_end : mg "giving_end" = some (.ref f_giving_end)
  f_longest_first : Addr
  fd_longest_first : FuncData
  F_longest_first : Fun K "longest_first" "longest_first" st_longest_first f_longest_first fd_longest_first
  g_longest_first : mg "longest_first" = some (.ref f_longest_first)
  f_sums_met : Addr
  fd_sums_met : FuncData
  F_sums_met : Fun K "sums_met" "sums_met" st_sums_met f_sums_met fd_sums_met
  g_sums_met : mg "sums_met" = some (.ref f_sums_met)
  f_load_hindsight : Addr
  fd_load_hindsight : FuncData
  F_load_hindsight : Fun K "load_hindsight" "load_hindsight" st_load_hindsight f_load_hindsight fd_load_hindsight
  g_load_hindsight : mg "load_hindsight" = some (.ref f_load_hindsight)
  f_load_foe : Addr
  fd_load_foe : FuncData
  F_load_foe : Fun K "load_foe" "load_foe" st_load_foe f_load_foe fd_load_foe
  g_load_foe : mg "load_foe" = some (.ref f_load_foe)
  f_work_layers : Addr
  fd_work_layers : FuncData
  F_work_layers : Fun K "work_layers" "work_layers" st_work_layers f_work_layers fd_work_layers
  g_work_layers : mg "work_layers" = some (.ref f_work_layers)
  f_server_hindsight : Addr
  fd_server_hindsight : FuncData
  F_server_hindsight : Fun K "server_hindsight" "server_hindsight" st_server_hindsight f_server_hindsight fd_server_hindsight
  g_server_hindsight : mg "server_hindsight" = some (.ref f_server_hindsight)
  f_work_step : Addr
  fd_work_step : FuncData
  F_work_step : Fun K "work_step" "work_step" st_work_step f_work_step fd_work_step
  g_work_step : mg "work_step" = some (.ref f_work_step)
  f_first_state : Addr
  fd_first_state : FuncData
  F_first_state : Fun K "first_state" "first_state" st_first_state f_first_state fd_first_state
  g_first_state : mg "first_state" = some (.ref f_first_state)
  f_server_foe : Addr
  fd_server_foe : FuncData
  F_server_foe : Fun K "server_foe" "server_foe" st_server_foe f_server_foe fd_server_foe
  g_server_foe : mg "server_foe" = some (.ref f_server_foe)
  f_ready_rows : Addr
  fd_ready_rows : FuncData
  F_ready_rows : Fun K "ready_rows" "ready_rows" st_ready_rows f_ready_rows fd_ready_rows
  g_ready_rows : mg "ready_rows" = some (.ref f_ready_rows)
  f_ready_row : Addr
  fd_ready_row : FuncData
  F_ready_row : Fun K "ready_row" "ready_row" st_ready_row f_ready_row fd_ready_row
  g_ready_row : mg "ready_row" = some (.ref f_ready_row)
  f_ready_pays : Addr
  fd_ready_pays : FuncData
  F_ready_pays : Fun K "ready_pays" "ready_pays" st_ready_pays f_ready_pays fd_ready_pays
  g_ready_pays : mg "ready_pays" = some (.ref f_ready_pays)
  f__law_bag : Addr
  fd__law_bag : FuncData
  F__law_bag : Fun K "_law_bag" "_law_bag" st__law_bag f__law_bag fd__law_bag
  g__law_bag : mg "_law_bag" = some (.ref f__law_bag)
  f__law_draw : Addr
  fd__law_draw : FuncData
  F__law_draw : Fun K "_law_draw" "_law_draw" st__law_draw f__law_draw fd__law_draw
  g__law_draw : mg "_law_draw" = some (.ref f__law_draw)
  f__law_is : Addr
  fd__law_is : FuncData
  F__law_is : Fun K "_law_is" "_law_is" st__law_is f__law_is fd__law_is
  g__law_is : mg "_law_is" = some (.ref f__law_is)
  f__law_near : Addr
  fd__law_near : FuncData
  F__law_near : Fun K "_law_near" "_law_near" st__law_near f__law_near fd__law_near
  g__law_near : mg "_law_near" = some (.ref f__law_near)
  f__law_near_pay : Addr
  fd__law_near_pay : FuncData
  F__law_near_pay : Fun K "_law_near_pay" "_law_near_pay" st__law_near_pay f__law_near_pay fd__law_near_pay
  g__law_near_pay : mg "_law_near_pay" = some (.ref f__law_near_pay)
  f__law_hindsight : Addr
  fd__law_hindsight : FuncData
  F__law_hindsight : Fun K "_law_hindsight" "_law_hindsight" st__law_hindsight f__law_hindsight fd__law_hindsight
  g__law_hindsight : mg "_law_hindsight" = some (.ref f__law_hindsight)
  f__law_foe_row : Addr
  fd__law_foe_row : FuncData
  F__law_foe_row : Fun K "_law_foe_row" "_law_foe_row" st__law_foe_row f__law_foe_row fd__law_foe_row
  g__law_foe_row : mg "_law_foe_row" = some (.ref f__law_foe_row)
  f__law_tower : Addr
  fd__law_tower : FuncData
  F__law_tower : Fun K "_law_tower" "_law_tower" st__law_tower f__law_tower fd__law_tower
  g__law_tower : mg "_law_tower" = some (.ref f__law_tower)
  f__law_colours : Addr
  fd__law_colours : FuncData
  F__law_colours : Fun K "_law_colours" "_law_colours" st__law_colours f__law_colours fd__law_colours
  g__law_colours : mg "_law_colours" = some (.ref f__law_colours)
  f__law_end : Addr
  fd__law_end : FuncData
  F__law_end : Fun K "_law_end" "_law_end" st__law_end f__law_end fd__law_end
  g__law_end : mg "_law_end" = some (.ref f__law_end)
  f__law_bins : Addr
  fd__law_bins : FuncData
  F__law_bins : Fun K "_law_bins" "_law_bins" st__law_bins f__law_bins fd__law_bins
  g__law_bins : mg "_law_bins" = some (.ref f__law_bins)
  f__law_row : Addr
  fd__law_row : FuncData
  F__law_row : Fun K "_law_row" "_law_row" st__law_row f__law_row fd__law_row
  g__law_row : mg "_law_row" = some (.ref f__law_row)
  f__law_pays : Addr
  fd__law_pays : FuncData
  F__law_pays : Fun K "_law_pays" "_law_pays" st__law_pays f__law_pays fd__law_pays
  g__law_pays : mg "_law_pays" = some (.ref f__law_pays)
  f__law_told : Addr
  fd__law_told : FuncData
  F__law_told : Fun K "_law_told" "_law_told" st__law_told f__law_told fd__law_told
  g__law_told : mg "_law_told" = some (.ref f__law_told)
  f__law_is_ready : Addr
  fd__law_is_ready : FuncData
  F__law_is_ready : Fun K "_law_is_ready" "_law_is_ready" st__law_is_ready f__law_is_ready fd__law_is_ready
  g__law_is_ready : mg "_law_is_ready" = some (.ref f__law_is_ready)
  f__law_is_two : Addr
  fd__law_is_two : FuncData
  F__law_is_two : Fun K "_law_is_two" "_law_is_two" st__law_is_two f__law_is_two fd__law_is_two
  g__law_is_two : mg "_law_is_two" = some (.ref f__law_is_two)
  f__law_by_parts : Addr
  fd__law_by_parts : FuncData
  F__law_by_parts : Fun K "_law_by_parts" "_law_by_parts" st__law_by_parts f__law_by_parts fd__law_by_parts
  g__law_by_parts : mg "_law_by_parts" = some (.ref f__law_by_parts)
  f__law_are_examples_right : Addr
  fd__law_are_examples_right : FuncData
  F__law_are_examples_right : Fun K "_law_are_examples_right" "_law_are_examples_right" st__law_are_examples_right f__law_are_examples_right fd__law_are_examples_right
  g__law_are_examples_right : mg "_law_are_examples_right" = some (.ref f__law_are_examples_right)
  f_law : Addr
  fd_law : FuncData
  F_law : Fun K "law" "law" st_law f_law fd_law
  g_law : mg "law" = some (.ref f_law)
  z_abs : mg "abs" = none
  z_all : mg "all" = none
  z_bool : mg "bool" = none
  z_dict : mg "dict" = none
  z_enumerate : mg "enumerate" = none
  z_int : mg "int" = none
  z_isinstance : mg "isinstance" = none
  z_len : mg "len" = none
  z_list : mg "list" = none
  z_max : mg "max" = none
  z_min : mg "min" = none
  z_range : mg "range" = none
  z_reversed : mg "reversed" = none
  z_sorted : mg "sorted" = none
  z_str : mg "str" = none
  z_sum : mg "sum" = none
  z_tuple : mg "tuple" = none
  z_zip : mg "zip" = none
section
variable {P : Program} {w : World} {K : PySem.W.Frag} {mg : Str → Option Value} {base : Heap}
theorem b_next_fit (T : Txt K mg) : Binds K T.fd_next_fit ["room", "things"] [] := T.F_next_fit.binds (ps := ["room", "things"]) fun _ _ _ _ _ _ us hl => match us, hl with | [_, _], _ => rfl
theorem b_least_bins (T : Txt K mg) : Binds K T.fd_least_bins ["room", "things"] [] := T.F_least_bins.binds (ps := ["room", "things"]) fun _ _ _ _ _ _ us hl => match us, hl with | [_, _], _ => rfl
theorem b_best_packing (T : Txt K mg) : Binds K T.fd_best_packing ["room", "things"] [] := T.F_best_packing.binds (ps := ["room", "things"]) fun _ _ _ _ _ _ us hl => match us, hl with | [_, _], _ => rfl
theorem b_bin_hindsight (T : Txt K mg) : Binds K T.fd_bin_hindsight ["room", "things"] [] := T.F_bin_hindsight.binds (ps := ["room", "things"]) fun _ _ _ _ _ _ us hl => match us, hl with | [_, _], _ => rfl
theorem b_bin_foe (T : Txt K mg) : Binds K T.fd_bin_foe ["n"] [] := T.F_bin_foe.binds (ps := ["n"]) fun _ _ _ _ _ _ us hl => match us, hl with | [_], _ => rfl
theorem b_is_forest (T : Txt K mg) : Binds K T.fd_is_forest ["ties"] [] := T.F_is_forest.binds (ps := ["ties"]) fun _ _ _ _ _ _ us hl => match us, hl with | [_], _ => rfl
theorem b_least_colours (T : Txt K mg) : Binds K T.fd_least_colours ["ties"] [] := T.F_least_colours.binds (ps := ["ties"]) fun _ _ _ _ _ _ us hl => match us, hl with | [_], _ => rfl
theorem b_two_colours (T : Txt K mg) : Binds K T.fd_two_colours ["ties"] [] := T.F_two_colours.binds (ps := ["ties"]) fun _ _ _ _ _ _ us hl => match us, hl with | [_], _ => rfl
theorem b_colour_tower (T : Txt K mg) : Binds K T.fd_colour_tower ["c"] [] := T.F_colour_tower.binds (ps := ["c"]) fun _ _ _ _ _ _ us hl => match us, hl with | [_], _ => rfl
theorem b_put_at (T : Txt K mg) : Binds K T.fd_put_at ["state", "i", "x"] [] := T.F_put_at.binds (ps := ["state", "i", "x"]) fun _ _ _ _ _ _ us hl => match us, hl with | [_, _, _], _ => rfl
theorem b_near_step (T : Txt K mg) : Binds K T.fd_near_step ["state", "x"] [] := T.F_near_step.binds (ps := ["state", "x"]) fun _ _ _ _ _ _ us hl => match us, hl with | [_, _], _ => rfl
theorem b_both_step (T : Txt K mg) : Binds K T.fd_both_step ["state", "x"] [] := T.F_both_step.binds (ps := ["state", "x"]) fun _ _ _ _ _ _ us hl => match us, hl with | [_, _], _ => rfl
theorem b_step_of (T : Txt K mg) : Binds K T.fd_step_of ["word", "state", "x"] [] := T.F_step_of.binds (ps := ["word", "state", "x"]) fun _ _ _ _ _ _ us hl => match us, hl with | [_, _, _], _ => rfl
theorem b_paid_of (T : Txt K mg) : Binds K T.fd_paid_of ["word", "state", "row"] [] := T.F_paid_of.binds (ps := ["word", "state", "row"]) fun _ _ _ _ _ _ us hl => match us, hl with | [_, _, _], _ => rfl
theorem b_state_match (T : Txt K mg) : Binds K T.fd_state_match ["state", "other"] [] := T.F_state_match.binds (ps := ["state", "other"]) fun _ _ _ _ _ _ us hl => match us, hl with | [_, _], _ => rfl
theorem b_moved_state (T : Txt K mg) : Binds K T.fd_moved_state ["state", "i", "x"] [] := T.F_moved_state.binds (ps := ["state", "i", "x"]) fun _ _ _ _ _ _ us hl => match us, hl with | [_, _, _], _ => rfl
theorem b_greedy_trap (T : Txt K mg) : Binds K T.fd_greedy_trap ["state", "times"] [] := T.F_greedy_trap.binds (ps := ["state", "times"]) fun _ _ _ _ _ _ us hl => match us, hl with | [_, _], _ => rfl
theorem b_list_giving (T : Txt K mg) : Binds K T.fd_list_giving ["m", "jobs"] [] := T.F_list_giving.binds (ps := ["m", "jobs"]) fun _ _ _ _ _ _ us hl => match us, hl with | [_, _], _ => rfl
theorem b_machine_sums (T : Txt K mg) : Binds K T.fd_machine_sums ["m", "jobs", "giving"] [] := T.F_machine_sums.binds (ps := ["m", "jobs", "giving"]) fun _ _ _ _ _ _ us hl => match us, hl with | [_, _, _], _ => rfl
theorem b_giving_end (T : Txt K mg) : Binds K T.fd_giving_end ["m", "jobs", "giving"] [] := T.F_giving_end.binds (ps := ["m", "jobs", "giving"]) fun _ _ _ _ _ _ us hl => match us, hl with | [_, _, _], _ => rfl
theorem b_longest_first (T : Txt K mg) : Binds K T.fd_longest_first ["m", "jobs"] [] := T.F_longest_first.binds (ps := ["m", "jobs"]) fun _ _ _ _ _ _ us hl => match us, hl with | [_, _], _ => rfl
theorem b_sums_met (T : Txt K mg) : Binds K T.fd_sums_met ["m", "jobs"] [] := T.F_sums_met.binds (ps := ["m", "jobs"]) fun _ _ _ _ _ _ us hl => match us, hl with | [_, _], _ => rfl
theorem b_load_hindsight (T : Txt K mg) : Binds K T.fd_load_hindsight ["m", "jobs"] [] := T.F_load_hindsight.binds (ps := ["m", "jobs"]) fun _ _ _ _ _ _ us hl => match us, hl with | [_, _], _ => rfl
theorem b_load_foe (T : Txt K mg) : Binds K T.fd_load_foe ["m"] [] := T.F_load_foe.binds (ps := ["m"]) fun _ _ _ _ _ _ us hl => match us, hl with | [_], _ => rfl
theorem b_work_layers (T : Txt K mg) : Binds K T.fd_work_layers ["state", "row"] [] := T.F_work_layers.binds (ps := ["state", "row"]) fun _ _ _ _ _ _ us hl => match us, hl with | [_, _], _ => rfl
theorem b_server_hindsight (T : Txt K mg) : Binds K T.fd_server_hindsight ["state", "row"] [] := T.F_server_hindsight.binds (ps := ["state", "row"]) fun _ _ _ _ _ _ us hl => match us, hl with | [_, _], _ => rfl
theorem b_work_step (T : Txt K mg) : Binds K T.fd_work_step ["first", "past", "state", "x"] [] := T.F_work_step.binds (ps := ["first", "past", "state", "x"]) fun _ _ _ _ _ _ us hl => match us, hl with | [_, _, _, _], _ => rfl
theorem b_first_state (T : Txt K mg) : Binds K T.fd_first_state ["k", "apart"] [] := T.F_first_state.binds (ps := ["k", "apart"]) fun _ _ _ _ _ _ us hl => match us, hl with | [_, _], _ => rfl
theorem b_server_foe (T : Txt K mg) : Binds K T.fd_server_foe ["word", "k", "apart", "many"] [] := T.F_server_foe.binds (ps := ["word", "k", "apart", "many"]) fun _ _ _ _ _ _ us hl => match us, hl with | [_, _, _, _], _ => rfl
theorem b_ready_rows (T : Txt K mg) : Binds K T.fd_ready_rows [] [] := T.F_ready_rows.binds (ps := []) fun _ _ _ _ _ _ us hl => match us, hl with | [], _ => rfl
theorem b_ready_row (T : Txt K mg) : Binds K T.fd_ready_row ["word", "n"] [] := T.F_ready_row.binds (ps := ["word", "n"]) fun _ _ _ _ _ _ us hl => match us, hl with | [_, _], _ => rfl
theorem b_ready_pays (T : Txt K mg) : Binds K T.fd_ready_pays ["word", "n"] [] := T.F_ready_pays.binds (ps := ["word", "n"]) fun _ _ _ _ _ _ us hl => match us, hl with | [_, _], _ => rfl
theorem b__law_bag (T : Txt K mg) : Binds K T.fd__law_bag ["script"] [] := T.F__law_bag.binds (ps := ["script"]) fun _ _ _ _ _ _ us hl => match us, hl with | [_], _ => rfl
theorem b__law_draw (T : Txt K mg) : Binds K T.fd__law_draw ["bag", "m"] [] := T.F__law_draw.binds (ps := ["bag", "m"]) fun _ _ _ _ _ _ us hl => match us, hl with | [_, _], _ => rfl
theorem b__law_is (T : Txt K mg) : Binds K T.fd__law_is ["a", "b"] [] := T.F__law_is.binds (ps := ["a", "b"]) fun _ _ _ _ _ _ us hl => match us, hl with | [_, _], _ => rfl
theorem b__law_near (T : Txt K mg) : Binds K T.fd__law_near ["state", "x"] [] := T.F__law_near.binds (ps := ["state", "x"]) fun _ _ _ _ _ _ us hl => match us, hl with | [_, _], _ => rfl
theorem b__law_near_pay (T : Txt K mg) : Binds K T.fd__law_near_pay ["state", "row"] [] := T.F__law_near_pay.binds (ps := ["state", "row"]) fun _ _ _ _ _ _ us hl => match us, hl with | [_, _], _ => rfl
theorem b__law_hindsight (T : Txt K mg) : Binds K T.fd__law_hindsight ["state", "row"] [] := T.F__law_hindsight.binds (ps := ["state", "row"]) fun _ _ _ _ _ _ us hl => match us, hl with | [_, _], _ => rfl
theorem b__law_foe_row (T : Txt K mg) : Binds K T.fd__law_foe_row ["n", "many"] [] := T.F__law_foe_row.binds (ps := ["n", "many"]) fun _ _ _ _ _ _ us hl => match us, hl with | [_, _], _ => rfl
theorem b__law_tower (T : Txt K mg) : Binds K T.fd__law_tower ["c"] [] := T.F__law_tower.binds (ps := ["c"]) fun _ _ _ _ _ _ us hl => match us, hl with | [_], _ => rfl
theorem b__law_colours (T : Txt K mg) : Binds K T.fd__law_colours ["ties"] [] := T.F__law_colours.binds (ps := ["ties"]) fun _ _ _ _ _ _ us hl => match us, hl with | [_], _ => rfl
theorem b__law_end (T : Txt K mg) : Binds K T.fd__law_end ["m", "jobs"] [] := T.F__law_end.binds (ps := ["m", "jobs"]) fun _ _ _ _ _ _ us hl => match us, hl with | [_, _], _ => rfl
theorem b__law_bins (T : Txt K mg) : Binds K T.fd__law_bins ["room", "things"] [] := T.F__law_bins.binds (ps := ["room", "things"]) fun _ _ _ _ _ _ us hl => match us, hl with | [_, _], _ => rfl
theorem b__law_row (T : Txt K mg) : Binds K T.fd__law_row ["word", "n"] [] := T.F__law_row.binds (ps := ["word", "n"]) fun _ _ _ _ _ _ us hl => match us, hl with | [_, _], _ => rfl
theorem b__law_pays (T : Txt K mg) : Binds K T.fd__law_pays ["word", "n", "row"] [] := T.F__law_pays.binds (ps := ["word", "n", "row"]) fun _ _ _ _ _ _ us hl => match us, hl with | [_, _, _], _ => rfl
theorem b__law_told (T : Txt K mg) : Binds K T.fd__law_told ["word", "n"] [] := T.F__law_told.binds (ps := ["word", "n"]) fun _ _ _ _ _ _ us hl => match us, hl with | [_, _], _ => rfl
theorem b__law_is_ready (T : Txt K mg) : Binds K T.fd__law_is_ready ["word", "n", "named"] [] := T.F__law_is_ready.binds (ps := ["word", "n", "named"]) fun _ _ _ _ _ _ us hl => match us, hl with | [_, _, _], _ => rfl
theorem b__law_is_two (T : Txt K mg) : Binds K T.fd__law_is_two ["ties", "told"] [] := T.F__law_is_two.binds (ps := ["ties", "told"]) fun _ _ _ _ _ _ us hl => match us, hl with | [_, _], _ => rfl
theorem b__law_by_parts (T : Txt K mg) : Binds K T.fd__law_by_parts ["word", "n"] [] := T.F__law_by_parts.binds (ps := ["word", "n"]) fun _ _ _ _ _ _ us hl => match us, hl with | [_, _], _ => rfl
theorem b__law_are_examples_right (T : Txt K mg) : Binds K T.fd__law_are_examples_right [] [] := T.F__law_are_examples_right.binds (ps := []) fun _ _ _ _ _ _ us hl => match us, hl with | [], _ => rfl
theorem b_law (T : Txt K mg) : Binds K T.fd_law ["script"] [] := T.F_law.binds (ps := ["script"]) fun _ _ _ _ _ _ us hl => match us, hl with | [_], _ => rfl
/-! next_fit -/
def d_next_fit : FDen := runFn 2 5 (sSeq (sPar 2 3 (dOwn (dLst dNil)) (dC (.int 0))) (sSeq (sFor (iAny (dVar 1)) (gSet 4) (sSeq (sIf (dTest (dApp2 pGt (dVar 4) (dVar 3))) (sSeq (sExpr (dMeth isL pAppend (dVar 2) (dCons (dTup dNil) dNil))) (sAsg (dVar 0) (gSet 3))) sNil) (sSeq (sPutA (dApp2 pAdd (dApp2 pIxA (dVar 2) (dApp pNeg (dCons (dC (.int 1)) dNil))) (dTup (dCons (dVar 4) dNil))) (dVar 2) (dApp pNeg (dCons (dC (.int 1)) dNil))) (sAsg (dApp2 pSub (dVar 3) (dVar 4)) (gSet 3))))) (sRet (dApp pTuple (dCons (dVar 2) dNil)))))
theorem len_next_fit : LenD 2 d_next_fit := lenD_run
theorem ok_next_fit (T : Txt K mg) : FnOk P w K mg base CX0 1 T.f_next_fit T.fd_next_fit ["room", "things"] (spD K 2 d_next_fit) :=
  fn_den T.F_next_fit sc_next_fit rfl rfl fun cdv A outer s H E hr => (xss_cons (xs_par (i := 2) (j := 3) rfl sc_next_fit.nd rfl rfl (by decide) rfl rfl (xl_own (xl_lst xa_nil)) xe_int rfl) (xss_cons (xs_for PassesOwn.never rfl (xi_any (xe_var (pv 1))) (xg_name (i := 4) sc_next_fit.nd rfl (.inl rfl)) (xss_cons (xs_if (xb_cmp op_gt pr_cmpI (xe_var (pv 4)) (xe_var (pv 3)) (nomark _)) (xss_cons (xs_expr (xe_bm PySem.F.plainAttrs_list PySem.F.slot_list_append PySem.F.type_list_append mt_append ty_list pr_append (xe_var (pv 2)) (xa_cons (xe_tup xa_nil) xa_nil))) (xss_one (xs_set (i := 3) sc_next_fit.nd rfl (.inl rfl) (xe_var (pv 0))))) xss_nil) (xss_cons (xs_putA (hu_of hr) (xe_op op_addD pr_add (xe_ixA (hu_of hr) (xe_var (pv 2)) (xe_un un_neg pr_neg xe_int)) (xe_tup (xa_cons (xe_var (pv 4)) xa_nil))) (xe_var (pv 2)) (xe_un un_neg pr_neg xe_int)) (xss_one (xs_set (i := 3) sc_next_fit.nd rfl (.inl rfl) (xe_op op_sub pr_sub (xe_var (pv 3)) (xe_var (pv 4)))))))) (xss_one (xs_ret (xe_callTy call_tupleX pr_tuple rfl T.z_tuple boot_tupleX (xa_cons (xe_var (pv 2)) xa_nil))))))
/-! least_bins -/
def d_least_bins : FDen := runFn 2 11 (sSeq (sPar 2 3 (dOwn (dLst (dCons (dC (.int 1)) dNil))) (dOwn (dLst (dCons (dTup (dCons (dC (.int 0)) (dCons (dVar 0) (dCons (dC .non) dNil)))) dNil)))) (sSeq (sFor (iAny (dVar 1)) (gSet 4) (sExpr (dMeth isL pAppend (dVar 2) (dCons (dApp2 pMulT (dApp2 pIxA (dVar 2) (dApp pNeg (dCons (dC (.int 1)) dNil))) (dC (.int 2))) dNil)))) (sSeq (sForT (iRng2D (dCons (dC (.int 1)) (dCons (dApp2 pIxA (dVar 2) (dApp pNeg (dCons (dC (.int 1)) dNil))) dNil))) (gSet 5) (sSeq (sAsg (dOwn (dLst dNil)) (gSet 6)) (sSeq (sFor (iEnumD (dCons (dVar 1) dNil)) (gTupD 2 (gsCons (gSet 7) (gsCons (gSet 4) gsNil))) (sIf (dTest (dApp2 (pEqD false) (dApp2 pMod (dApp2 pFdiv (dVar 5) (dApp2 pIxA (dVar 2) (dVar 7))) (dC (.int 2))) (dC (.int 1)))) (sSeq (sAsg (dApp2 pIxA (dVar 3) (dApp2 pSub (dVar 5) (dApp2 pIxA (dVar 2) (dVar 7)))) (gTupD 3 (gsCons (gSet 8) (gsCons (gSet 9) (gsCons (gSet 10) gsNil))))) (sExpr (dMeth isL pAppend (dVar 6) (dCons (dIf (dTest (dApp2 pLe (dApp2 pAdd (dVar 9) (dVar 4)) (dVar 0))) (dTup (dCons (dVar 8) (dCons (dApp2 pAdd (dVar 9) (dVar 4)) (dCons (dVar 7) dNil)))) (dTup (dCons (dApp2 pAdd (dVar 8) (dC (.int 1))) (dCons (dVar 4) (dCons (dVar 7) dNil))))) dNil)))) sNil)) (sExpr (dMeth isL pAppend (dVar 3) (dCons (dApp pMin (dCons (dVar 6) dNil)) dNil)))))) (sRet (dTup (dCons (dVar 2) (dCons (dVar 3) dNil)))))))
theorem len_least_bins : LenD 2 d_least_bins := lenD_run
theorem ok_least_bins (T : Txt K mg) : FnOk P w K mg base CX0 1 T.f_least_bins T.fd_least_bins ["room", "things"] (spD K 2 d_least_bins) :=
  fn_den T.F_least_bins sc_least_bins rfl rfl fun cdv A outer s H E hr => (xss_cons (xs_par (i := 2) (j := 3) rfl sc_least_bins.nd rfl rfl (by decide) rfl rfl (xl_own (xl_lst (xa_cons xe_int xa_nil))) (xl_own (xl_lst (xa_cons (xe_tup (xa_cons xe_int (xa_cons (xe_var (pv 0)) (xa_cons xe_non xa_nil)))) xa_nil))) rfl) (xss_cons (xs_for PassesOwn.never rfl (xi_any (xe_var (pv 1))) (xg_name (i := 4) sc_least_bins.nd rfl (.inl rfl)) (xss_one (xs_expr (xe_bm PySem.F.plainAttrs_list PySem.F.slot_list_append PySem.F.type_list_append mt_append ty_list pr_append (xe_var (pv 2)) (xa_cons (xe_op op_mulT pr_mulT (xe_ixA (hu_of hr) (xe_var (pv 2)) (xe_un un_neg pr_neg xe_int)) xe_int) xa_nil))))) (xss_cons (xs_forT PassesOwn.never rfl (xi_rng2 rfl T.z_range (xa_cons xe_int (xa_cons (xe_ixA (hu_of hr) (xe_var (pv 2)) (xe_un un_neg pr_neg xe_int)) xa_nil))) (xg_name (i := 5) sc_least_bins.nd rfl (.inl rfl)) (xss_cons (xs_set (i := 6) sc_least_bins.nd rfl (.inl rfl) (xl_own (xl_lst xa_nil))) (xss_cons (xs_for PassesOwn.never rfl (xi_enum rfl T.z_enumerate (xa_cons (xe_var (pv 1)) xa_nil)) (xg_tup rfl (xgs_cons (xg_name (i := 7) sc_least_bins.nd rfl (.inl rfl)) (xgs_cons (xg_name (i := 4) sc_least_bins.nd rfl (.inl rfl)) xgs_nil))) (xss_one (xs_if (xb_cmp (op_eqD (hu64 hr)) pr_eqD (xe_op op_modN pr_mod (xe_op op_fdD pr_fdiv (xe_var (pv 5)) (xe_ixA (hu_of hr) (xe_var (pv 2)) (xe_var (pv 7)))) xe_int) xe_int (nomark _)) (xss_cons (xs_asg (xe_ixA (hu_of hr) (xe_var (pv 3)) (xe_op op_sub pr_sub (xe_var (pv 5)) (xe_ixA (hu_of hr) (xe_var (pv 2)) (xe_var (pv 7))))) (xg_tup rfl (xgs_cons (xg_name (i := 8) sc_least_bins.nd rfl (.inl rfl)) (xgs_cons (xg_name (i := 9) sc_least_bins.nd rfl (.inl rfl)) (xgs_cons (xg_name (i := 10) sc_least_bins.nd rfl (.inl rfl)) xgs_nil))))) (xss_one (xs_expr (xe_bm PySem.F.plainAttrs_list PySem.F.slot_list_append PySem.F.type_list_append mt_append ty_list pr_append (xe_var (pv 6)) (xa_cons (xe_if (xb_cmp op_le pr_cmpI (xe_op op_addD pr_add (xe_var (pv 9)) (xe_var (pv 4))) (xe_var (pv 0)) (nomark _)) (xe_tup (xa_cons (xe_var (pv 8)) (xa_cons (xe_op op_addD pr_add (xe_var (pv 9)) (xe_var (pv 4))) (xa_cons (xe_var (pv 7)) xa_nil)))) (xe_tup (xa_cons (xe_op op_addD pr_add (xe_var (pv 8)) xe_int) (xa_cons (xe_var (pv 4)) (xa_cons (xe_var (pv 7)) xa_nil))))) xa_nil))))) xss_nil))) (xss_one (xs_expr (xe_bm PySem.F.plainAttrs_list PySem.F.slot_list_append PySem.F.type_list_append mt_append ty_list pr_append (xe_var (pv 3)) (xa_cons (xe_callB (call_minX rfl (hu100 hr)) pr_min rfl T.z_min boot_minX (xa_cons (xe_var (pv 6)) xa_nil)) xa_nil))))))) (xss_one (xs_ret (xe_tup (xa_cons (xe_var (pv 2)) (xa_cons (xe_var (pv 3)) xa_nil))))))))
/-! best_packing -/
def d_best_packing : FDen := runFn 2 10 (sSeq (sAsg (dApp d_least_bins (dCons (dVar 0) (dCons (dVar 1) dNil))) (gTupD 2 (gsCons (gSet 2) (gsCons (gSet 3) gsNil)))) (sSeq (sPar3 4 5 6 (dApp2 pSub (dApp pLenD (dCons (dVar 3) dNil)) (dC (.int 1))) (dOwn (dLst dNil)) (dTup dNil)) (sSeq (whileGo (dTest (dApp2 pGt (dVar 4) (dC (.int 0)))) (sSeq (sAsg (dApp2 pIxA (dVar 3) (dVar 4)) (gTupD 3 (gsCons (gSet 7) (gsCons (gSet 8) (gsCons (gSet 9) gsNil))))) (sSeq (sPar 6 4 (dApp2 pAdd (dVar 6) (dTup (dCons (dApp2 pIxA (dVar 1) (dVar 9)) dNil))) (dApp2 pSub (dVar 4) (dApp2 pIxA (dVar 2) (dVar 9)))) (sIf (dTest (dApp2 (pEqD false) (dVar 8) (dApp2 pIxA (dVar 1) (dVar 9)))) (sSeq (sExpr (dMeth isL pAppend (dVar 5) (dCons (dVar 6) dNil))) (sAsg (dTup dNil) (gSet 6))) sNil))) 1000) (sRet (dApp pTuple (dCons (dVar 5) dNil))))))
theorem len_best_packing : LenD 2 d_best_packing := lenD_run
theorem ok_best_packing (T : Txt K mg) : FnOk P w K mg base CX0 2 T.f_best_packing T.fd_best_packing ["room", "things"] (spD K 2 d_best_packing) :=
  fn_den T.F_best_packing sc_best_packing rfl rfl fun cdv A outer s H E hr => (xss_cons (xs_asg (xe_callF (ok_least_bins T) len_least_bins (hr.mono (by decide)) rfl T.g_least_bins T.F_least_bins.kp (b_least_bins T) (xa_cons (xe_var (pv 0)) (xa_cons (xe_var (pv 1)) xa_nil))) (xg_tup rfl (xgs_cons (xg_name (i := 2) sc_best_packing.nd rfl (.inl rfl)) (xgs_cons (xg_name (i := 3) sc_best_packing.nd rfl (.inl rfl)) xgs_nil)))) (xss_cons (xs_par3 (i := 4) (j := 5) (l := 6) rfl sc_best_packing.nd rfl rfl rfl (by decide) (by decide) (by decide) rfl rfl rfl (xe_op op_sub pr_sub (xe_callB call_lenX pr_len rfl T.z_len boot_lenX (xa_cons (xe_var (pv 3)) xa_nil)) xe_int) (xl_own (xl_lst xa_nil)) (xe_tup xa_nil) rfl) (xss_cons (xs_while 1000 PassesOwn.never (xb_cmp op_gt pr_cmpI (xe_var (pv 4)) xe_int (nomark _)) (xss_cons (xs_asg (xe_ixA (hu_of hr) (xe_var (pv 3)) (xe_var (pv 4))) (xg_tup rfl (xgs_cons (xg_name (i := 7) sc_best_packing.nd rfl (.inl rfl)) (xgs_cons (xg_name (i := 8) sc_best_packing.nd rfl (.inl rfl)) (xgs_cons (xg_name (i := 9) sc_best_packing.nd rfl (.inl rfl)) xgs_nil))))) (xss_cons (xs_par (i := 6) (j := 4) rfl sc_best_packing.nd rfl rfl (by decide) rfl rfl (xe_op op_addD pr_add (xe_var (pv 6)) (xe_tup (xa_cons (xe_ixA (hu_of hr) (xe_var (pv 1)) (xe_var (pv 9))) xa_nil))) (xe_op op_sub pr_sub (xe_var (pv 4)) (xe_ixA (hu_of hr) (xe_var (pv 2)) (xe_var (pv 9)))) rfl) (xss_one (xs_if (xb_cmp (op_eqD (hu64 hr)) pr_eqD (xe_var (pv 8)) (xe_ixA (hu_of hr) (xe_var (pv 1)) (xe_var (pv 9))) (nomark _)) (xss_cons (xs_expr (xe_bm PySem.F.plainAttrs_list PySem.F.slot_list_append PySem.F.type_list_append mt_append ty_list pr_append (xe_var (pv 5)) (xa_cons (xe_var (pv 6)) xa_nil))) (xss_one (xs_set (i := 6) sc_best_packing.nd rfl (.inl rfl) (xe_tup xa_nil)))) xss_nil))))) (xss_one (xs_ret (xe_callTy call_tupleX pr_tuple rfl T.z_tuple boot_tupleX (xa_cons (xe_var (pv 5)) xa_nil)))))))
/-! bin_hindsight -/
def d_bin_hindsight : FDen := runFn 2 2 (sRet (dApp pLenD (dCons (dApp (dPure d_best_packing) (dCons (dVar 0) (dCons (dVar 1) dNil))) dNil)))
theorem len_bin_hindsight : LenD 2 d_bin_hindsight := lenD_run
theorem ok_bin_hindsight (T : Txt K mg) : FnOk P w K mg base CX0 3 T.f_bin_hindsight T.fd_bin_hindsight ["room", "things"] (spD K 2 d_bin_hindsight) :=
  fn_den T.F_bin_hindsight sc_bin_hindsight rfl rfl fun cdv A outer s H E hr => (xss_one (xs_ret (xe_callB call_lenX pr_len rfl T.z_len boot_lenX (xa_cons (xe_callF (fn_pure (ok_best_packing T)) (lenD_pure len_best_packing) (hr.mono (by decide)) rfl T.g_best_packing T.F_best_packing.kp (b_best_packing T) (xa_cons (xe_var (pv 0)) (xa_cons (xe_var (pv 1)) xa_nil))) xa_nil))))
/-! bin_foe -/
def d_bin_foe : FDen := runFn 1 1 (sRet (dApp2 pMulT (dTup (dCons (dVar 0) (dCons (dC (.int 1)) dNil))) (dApp2 pMulT (dC (.int 2)) (dVar 0))))
theorem len_bin_foe : LenD 1 d_bin_foe := lenD_run
theorem ok_bin_foe (T : Txt K mg) : FnOk P w K mg base CX0 1 T.f_bin_foe T.fd_bin_foe ["n"] (spD K 1 d_bin_foe) :=
  fn_den T.F_bin_foe sc_bin_foe rfl rfl fun cdv A outer s H E hr => (xss_one (xs_ret (xe_op op_mulT pr_mulT (xe_tup (xa_cons (xe_var (pv 0)) (xa_cons xe_int xa_nil))) (xe_op op_mulT pr_mulT xe_int (xe_var (pv 0))))))
/-! is_forest -/
def d_is_forest : FDen := runFn 1 7 (sSeq (sAsg (dFl (dLst dNil)) (gSet 1)) (sSeq (sFor (iEnumD (dCons (dVar 0) dNil)) (gTupD 2 (gsCons (gSet 2) (gsCons (gSet 3) gsNil))) (sSeq (sAsg (dFl (dComp [5] (iAny (dVar 3)) (gSet 5) bYes (dApp2 pIxA (dVar 1) (dVar 5)))) (gSet 4)) (sSeq (sIf (dTest (dApp2 pLt (dApp pLenD (dCons (dApp pDictP (dCons (dFl (dComp [6] (iAny (dVar 4)) (gSet 6) bYes (dTup (dCons (dVar 6) (dCons (dC (.bl true)) dNil))))) dNil)) dNil)) (dApp pLenD (dCons (dVar 4) dNil)))) (sRet (dC (.bl false))) sNil) (sAsg (dFl (dLApp pCat (dCons (dFl (dComp [6] (iAny (dVar 1)) (gSet 6) bYes (dIf (dTest (dApp2 (pInA false) (dVar 6) (dVar 4))) (dVar 2) (dVar 6)))) (dCons (dFl (dLst (dCons (dVar 2) dNil))) dNil)))) (gSet 1))))) (sRet (dC (.bl true)))))
theorem len_is_forest : LenD 1 d_is_forest := lenD_run
theorem ok_is_forest (T : Txt K mg) : FnOk P w K mg base CX0 1 T.f_is_forest T.fd_is_forest ["ties"] (spD K 1 d_is_forest) :=
  fn_den T.F_is_forest sc_is_forest rfl rfl fun cdv A outer s H E hr => (xss_cons (xs_set (i := 1) sc_is_forest.nd rfl (.inr rfl) (xl_fl (xl_lst xa_nil))) (xss_cons (xs_for PassesOwn.never rfl (xi_enum rfl T.z_enumerate (xa_cons (xe_var (pv 0)) xa_nil)) (xg_tup rfl (xgs_cons (xg_name (i := 2) sc_is_forest.nd rfl (.inr rfl)) (xgs_cons (xg_name (i := 3) sc_is_forest.nd rfl (.inl rfl)) xgs_nil))) (xss_cons (xs_set (i := 4) sc_is_forest.nd rfl (.inr rfl) (xl_fl (xl_comp (own := [("j", 5)]) rfl sc_is_forest.nd (xi_any (xe_var (pv 3))) (blkOk_by (by rfl)) (fun _ _ _ _ _ => (pg_name (i := 5) sc_is_forest.nd rfl (.inl rfl))) (tgok_name (by decide)) (fun _ _ _ _ _ => xts_nil) (fun _ _ _ _ _ => (xe_ixA (hu_of hr) (xe_var (pv 1)) (xe_var (pv 5))))))) (xss_cons (xs_if (xb_cmp op_lt pr_cmpI (xe_callB call_lenX pr_len rfl T.z_len boot_lenX (xa_cons (xe_callTy (call_dictP rfl) pr_dictP rfl T.z_dict boot_dictX (xa_cons (xl_fl (xl_comp (own := [("part", 6)]) rfl sc_is_forest.nd (xi_any (xe_var (pv 4))) (blkOk_by (by rfl)) (fun _ _ _ _ _ => (pg_name (i := 6) sc_is_forest.nd rfl (.inl rfl))) (tgok_name (by decide)) (fun _ _ _ _ _ => xts_nil) (fun _ _ _ _ _ => (xe_tup (xa_cons (xe_var (pv 6)) (xa_cons xe_bl xa_nil)))))) xa_nil)) xa_nil)) (xe_callB call_lenX pr_len rfl T.z_len boot_lenX (xa_cons (xe_var (pv 4)) xa_nil)) (nomark _)) (xss_one (xs_ret xe_bl)) xss_nil) (xss_one (xs_set (i := 1) sc_is_forest.nd rfl (.inr rfl) (xl_fl (xl_op op_cat pr_cat (xl_fl (xl_comp (own := [("part", 6)]) rfl sc_is_forest.nd (xi_any (xe_var (pv 1))) (blkOk_by (by rfl)) (fun _ _ _ _ _ => (pg_name (i := 6) sc_is_forest.nd rfl (.inl rfl))) (tgok_name (by decide)) (fun _ _ _ _ _ => xts_nil) (fun _ _ _ _ _ => (xe_if (xb_cmp (op_inA (hu_of hr)) pr_inA (xe_var (pv 6)) (xe_var (pv 4)) rfl) (xe_var (pv 2)) (xe_var (pv 6)))))) (xl_fl (xl_lst (xa_cons (xe_var (pv 2)) xa_nil)))))))))) (xss_one (xs_ret xe_bl))))
/-! least_colours -/
def d_least_colours : FDen := runFn 1 6 (sSeq (sAsg (dOwn (dLst dNil)) (gSet 1)) (sSeq (sFor (iAny (dVar 0)) (gSet 2) (sSeq (sAsg (dFl (dComp [4] (iAny (dVar 2)) (gSet 4) bYes (dApp2 pIxA (dVar 1) (dVar 4)))) (gSet 3)) (sExpr (dMeth isL pAppend (dVar 1) (dCons (dApp pMin (dCons (dFl (dComp [5] (iRng1D (dCons (dApp2 pAdd (dApp pLenD (dCons (dVar 2) dNil)) (dC (.int 1))) dNil)) (gSet 5) (dTest (dApp2 (pInA true) (dVar 5) (dVar 3))) (dVar 5))) dNil)) dNil))))) (sRet (dApp pTuple (dCons (dVar 1) dNil)))))
theorem len_least_colours : LenD 1 d_least_colours := lenD_run
theorem ok_least_colours (T : Txt K mg) : FnOk P w K mg base CX0 1 T.f_least_colours T.fd_least_colours ["ties"] (spD K 1 d_least_colours) :=
  fn_den T.F_least_colours sc_least_colours rfl rfl fun cdv A outer s H E hr => (xss_cons (xs_set (i := 1) sc_least_colours.nd rfl (.inr rfl) (xl_own (xl_lst xa_nil))) (xss_cons (xs_for PassesOwn.never rfl (xi_any (xe_var (pv 0))) (xg_name (i := 2) sc_least_colours.nd rfl (.inl rfl)) (xss_cons (xs_set (i := 3) sc_least_colours.nd rfl (.inr rfl) (xl_fl (xl_comp (own := [("j", 4)]) rfl sc_least_colours.nd (xi_any (xe_var (pv 2))) (blkOk_by (by rfl)) (fun _ _ _ _ _ => (pg_name (i := 4) sc_least_colours.nd rfl (.inl rfl))) (tgok_name (by decide)) (fun _ _ _ _ _ => xts_nil) (fun _ _ _ _ _ => (xe_ixA (hu_of hr) (xe_var (pv 1)) (xe_var (pv 4))))))) (xss_one (xs_expr (xe_bm PySem.F.plainAttrs_list PySem.F.slot_list_append PySem.F.type_list_append mt_append ty_list pr_append (xe_var (pv 1)) (xa_cons (xe_callB (call_minX rfl (hu100 hr)) pr_min rfl T.z_min boot_minX (xa_cons (xl_fl (xl_comp (own := [("colour", 5)]) rfl sc_least_colours.nd (xi_rng1 rfl T.z_range (xa_cons (xe_op op_addD pr_add (xe_callB call_lenX pr_len rfl T.z_len boot_lenX (xa_cons (xe_var (pv 2)) xa_nil)) xe_int) xa_nil)) (blkOk_by (by rfl)) (fun _ _ _ _ _ => (pg_name (i := 5) sc_least_colours.nd rfl (.inl rfl))) (tgok_name (by decide)) (fun _ _ _ _ _ => (xts_one (xb_cmp (op_notInA (hu_of hr)) pr_inA (xe_var (pv 5)) (xe_var (pv 3)) rfl))) (fun _ _ _ _ _ => (xe_var (pv 5))))) xa_nil)) xa_nil)))))) (xss_one (xs_ret (xe_callTy call_tupleX pr_tuple rfl T.z_tuple boot_tupleX (xa_cons (xe_var (pv 1)) xa_nil))))))
/-! two_colours -/
def d_two_colours : FDen := runFn 1 10 (sSeq (sAsg (dTup (dCons (dFl (dLst dNil)) (dCons (dFl (dLst dNil)) dNil))) (gTupD 2 (gsCons (gSet 1) (gsCons (gSet 2) gsNil)))) (sSeq (sFor (iEnumD (dCons (dVar 0) dNil)) (gTupD 2 (gsCons (gSet 3) (gsCons (gSet 4) gsNil))) (sSeq (sAsg (dFl (dComp [7] (iAny (dVar 4)) (gSet 7) (dTest (dApp2 (pEqD false) (dApp2 pIxA (dVar 2) (dVar 7)) (dC (.int 0)))) (dApp2 pIxA (dVar 1) (dVar 7)))) (gSet 5)) (sSeq (sAsg (dFl (dComp [7] (iAny (dVar 4)) (gSet 7) bYes (dApp2 pIxA (dVar 1) (dVar 7)))) (gSet 6)) (sSeq (sAsg (dFl (dLApp pCat (dCons (dFl (dComp [8, 9] (iZipD (dCons (dVar 2) (dCons (dVar 1) dNil))) (gTupD 2 (gsCons (gSet 8) (gsCons (gSet 9) gsNil))) bYes (dIf (dTest (dApp2 (pInA false) (dVar 9) (dVar 5))) (dApp2 pSub (dC (.int 1)) (dVar 8)) (dVar 8)))) (dCons (dFl (dLst (dCons (dC (.int 0)) dNil))) dNil)))) (gSet 2)) (sAsg (dFl (dLApp pCat (dCons (dFl (dComp [9] (iAny (dVar 1)) (gSet 9) bYes (dIf (dTest (dApp2 (pInA false) (dVar 9) (dVar 6))) (dVar 3) (dVar 9)))) (dCons (dFl (dLst (dCons (dVar 3) dNil))) dNil)))) (gSet 1)))))) (sRet (dApp pTuple (dCons (dVar 2) dNil)))))
theorem len_two_colours : LenD 1 d_two_colours := lenD_run
theorem ok_two_colours (T : Txt K mg) : FnOk P w K mg base CX0 1 T.f_two_colours T.fd_two_colours ["ties"] (spD K 1 d_two_colours) :=
  fn_den T.F_two_colours sc_two_colours rfl rfl fun cdv A outer s H E hr => (xss_cons (xs_asg (xe_tup (xa_cons (xl_fl (xl_lst xa_nil)) (xa_cons (xl_fl (xl_lst xa_nil)) xa_nil))) (xg_tup rfl (xgs_cons (xg_name (i := 1) sc_two_colours.nd rfl (.inr rfl)) (xgs_cons (xg_name (i := 2) sc_two_colours.nd rfl (.inr rfl)) xgs_nil)))) (xss_cons (xs_for PassesOwn.never rfl (xi_enum rfl T.z_enumerate (xa_cons (xe_var (pv 0)) xa_nil)) (xg_tup rfl (xgs_cons (xg_name (i := 3) sc_two_colours.nd rfl (.inr rfl)) (xgs_cons (xg_name (i := 4) sc_two_colours.nd rfl (.inl rfl)) xgs_nil))) (xss_cons (xs_set (i := 5) sc_two_colours.nd rfl (.inr rfl) (xl_fl (xl_comp (own := [("j", 7)]) rfl sc_two_colours.nd (xi_any (xe_var (pv 4))) (blkOk_by (by rfl)) (fun _ _ _ _ _ => (pg_name (i := 7) sc_two_colours.nd rfl (.inl rfl))) (tgok_name (by decide)) (fun _ _ _ _ _ => (xts_one (xb_cmp (op_eqD (hu64 hr)) pr_eqD (xe_ixA (hu_of hr) (xe_var (pv 2)) (xe_var (pv 7))) xe_int (nomark _)))) (fun _ _ _ _ _ => (xe_ixA (hu_of hr) (xe_var (pv 1)) (xe_var (pv 7))))))) (xss_cons (xs_set (i := 6) sc_two_colours.nd rfl (.inr rfl) (xl_fl (xl_comp (own := [("j", 7)]) rfl sc_two_colours.nd (xi_any (xe_var (pv 4))) (blkOk_by (by rfl)) (fun _ _ _ _ _ => (pg_name (i := 7) sc_two_colours.nd rfl (.inl rfl))) (tgok_name (by decide)) (fun _ _ _ _ _ => xts_nil) (fun _ _ _ _ _ => (xe_ixA (hu_of hr) (xe_var (pv 1)) (xe_var (pv 7))))))) (xss_cons (xs_set (i := 2) sc_two_colours.nd rfl (.inr rfl) (xl_fl (xl_op op_cat pr_cat (xl_fl (xl_comp (own := [("colour", 8), ("part", 9)]) rfl sc_two_colours.nd (xi_zip rfl T.z_zip (xa_cons (xe_var (pv 2)) (xa_cons (xe_var (pv 1)) xa_nil))) (blkOk_by (by rfl)) (fun _ _ _ _ _ => (pg_tup rfl (pgs_cons (pg_name (i := 8) sc_two_colours.nd rfl (.inl rfl)) (pgs_cons (pg_name (i := 9) sc_two_colours.nd rfl (.inl rfl)) pgs_nil)))) (tgok_tup (tgsok_cons (tgok_name (by decide)) (tgsok_cons (tgok_name (by decide)) tgsok_nil))) (fun _ _ _ _ _ => xts_nil) (fun _ _ _ _ _ => (xe_if (xb_cmp (op_inA (hu_of hr)) pr_inA (xe_var (pv 9)) (xe_var (pv 5)) rfl) (xe_op op_sub pr_sub xe_int (xe_var (pv 8))) (xe_var (pv 8)))))) (xl_fl (xl_lst (xa_cons xe_int xa_nil)))))) (xss_one (xs_set (i := 1) sc_two_colours.nd rfl (.inr rfl) (xl_fl (xl_op op_cat pr_cat (xl_fl (xl_comp (own := [("part", 9)]) rfl sc_two_colours.nd (xi_any (xe_var (pv 1))) (blkOk_by (by rfl)) (fun _ _ _ _ _ => (pg_name (i := 9) sc_two_colours.nd rfl (.inl rfl))) (tgok_name (by decide)) (fun _ _ _ _ _ => xts_nil) (fun _ _ _ _ _ => (xe_if (xb_cmp (op_inA (hu_of hr)) pr_inA (xe_var (pv 9)) (xe_var (pv 6)) rfl) (xe_var (pv 3)) (xe_var (pv 9)))))) (xl_fl (xl_lst (xa_cons (xe_var (pv 3)) xa_nil))))))))))) (xss_one (xs_ret (xe_callTy call_tupleX pr_tuple rfl T.z_tuple boot_tupleX (xa_cons (xe_var (pv 2)) xa_nil))))))
/-! colour_tower -/
def d_colour_tower : Nat → FDen
  | 0 => fun _ _ => none
  | n + 1 => runFn 1 7 (sSeq (sPar 1 2 (dOwn (dLst dNil)) (dOwn (dLst dNil))) (sSeq (sFor (iRng1D (dCons (dVar 0) dNil)) (gSet 3) (sSeq (sAsg (dApp pLenD (dCons (dVar 1) dNil)) (gSet 4)) (sSeq (sExpr (dMeth isL pExtend (dVar 1) (dCons (dFl (dComp [5] (iAny (dApp (dPure (d_colour_tower n)) (dCons (dVar 3) dNil))) (gSet 5) bYes (dApp pTuple (dCons (dFl (dComp [6] (iAny (dVar 5)) (gSet 6) bYes (dApp2 pAdd (dVar 6) (dVar 4)))) dNil)))) dNil))) (sExpr (dMeth isL pAppend (dVar 2) (dCons (dApp2 pSub (dApp pLenD (dCons (dVar 1) dNil)) (dC (.int 1))) dNil)))))) (sRet (dApp2 pAdd (dApp pTuple (dCons (dVar 1) dNil)) (dTup (dCons (dApp pTuple (dCons (dVar 2) dNil)) dNil))))))
theorem len_colour_tower : ∀ n, LenD 1 (d_colour_tower n)
  | 0 => lenD_none
  | _ + 1 => lenD_run
theorem ok_colour_tower (T : Txt K mg) : ∀ n, FnOk P w K mg base CX0 (n + 0) T.f_colour_tower T.fd_colour_tower ["c"] (spD K 1 (d_colour_tower n))
  | 0 => fn_zero
  | n + 1 => by
    have ih := ok_colour_tower T n
    exact fn_den T.F_colour_tower sc_colour_tower rfl rfl fun cdv A outer s H E hr => (xss_cons (xs_par (i := 1) (j := 2) rfl sc_colour_tower.nd rfl rfl (by decide) rfl rfl (xl_own (xl_lst xa_nil)) (xl_own (xl_lst xa_nil)) rfl) (xss_cons (xs_for PassesOwn.never rfl (xi_rng1 rfl T.z_range (xa_cons (xe_var (pv 0)) xa_nil)) (xg_name (i := 3) sc_colour_tower.nd rfl (.inl rfl)) (xss_cons (xs_set (i := 4) sc_colour_tower.nd rfl (.inr rfl) (xe_callB call_lenX pr_len rfl T.z_len boot_lenX (xa_cons (xe_var (pv 1)) xa_nil))) (xss_cons (xs_expr (xe_bm PySem.F.plainAttrs_list PySem.F.slot_list_extend PySem.F.type_list_extend mt_extend ty_list pr_extend (xe_var (pv 1)) (xa_cons (xl_fl (xl_comp (own := [("own", 5)]) rfl sc_colour_tower.nd (xi_any (xe_callF (fn_pure ih) (lenD_pure (len_colour_tower n)) (hr.mono (by omega)) rfl T.g_colour_tower T.F_colour_tower.kp (b_colour_tower T) (xa_cons (xe_var (pv 3)) xa_nil))) (blkOk_by (by rfl)) (fun _ _ _ _ _ => (pg_name (i := 5) sc_colour_tower.nd rfl (.inl rfl))) (tgok_name (by decide)) (fun _ _ _ _ _ => xts_nil) (fun _ _ _ _ _ => (xe_callTy call_tupleX pr_tuple rfl T.z_tuple boot_tupleX (xa_cons (xl_fl (xl_comp (own := [("j", 6)]) rfl sc_colour_tower.nd (xi_any (xe_var (pv 5))) (blkOk_by (by rfl)) (fun _ _ _ _ _ => (pg_name (i := 6) sc_colour_tower.nd rfl (.inl rfl))) (tgok_name (by decide)) (fun _ _ _ _ _ => xts_nil) (fun _ _ _ _ _ => (xe_op op_addD pr_add (xe_var (pv 6)) (xe_var (pv 4)))))) xa_nil))))) xa_nil))) (xss_one (xs_expr (xe_bm PySem.F.plainAttrs_list PySem.F.slot_list_append PySem.F.type_list_append mt_append ty_list pr_append (xe_var (pv 2)) (xa_cons (xe_op op_sub pr_sub (xe_callB call_lenX pr_len rfl T.z_len boot_lenX (xa_cons (xe_var (pv 1)) xa_nil)) xe_int) xa_nil))))))) (xss_one (xs_ret (xe_op op_addD pr_add (xe_callTy call_tupleX pr_tuple rfl T.z_tuple boot_tupleX (xa_cons (xe_var (pv 1)) xa_nil)) (xe_tup (xa_cons (xe_callTy call_tupleX pr_tuple rfl T.z_tuple boot_tupleX (xa_cons (xe_var (pv 2)) xa_nil)) xa_nil)))))))
/-! put_at -/
def d_put_at : FDen := runFn 3 3 (sRet (dApp pTuple (dCons (dFl (dLApp pSorted (dCons (dApp2 pAdd (dApp2 pAdd (dSlA (dVar 0) oNo (oYes (dVar 1))) (dTup (dCons (dVar 2) dNil))) (dSlA (dVar 0) (oYes (dApp2 pAdd (dVar 1) (dC (.int 1)))) oNo)) dNil))) dNil)))
theorem len_put_at : LenD 3 d_put_at := lenD_run
theorem ok_put_at (T : Txt K mg) : FnOk P w K mg base CX0 1 T.f_put_at T.fd_put_at ["state", "i", "x"] (spD K 3 d_put_at) :=
  fn_den T.F_put_at sc_put_at rfl rfl fun cdv A outer s H E hr => (xss_one (xs_ret (xe_callTy call_tupleX pr_tuple rfl T.z_tuple boot_tupleX (xa_cons (xl_fl (xl_callB cr_sortedX pr_sorted rfl T.z_sorted boot_sortedX (xa_cons (xe_op op_addD pr_add (xe_op op_addD pr_add (xe_slA (xe_var (pv 0)) xo_no (xo_yes (xe_var (pv 1)))) (xe_tup (xa_cons (xe_var (pv 2)) xa_nil))) (xe_slA (xe_var (pv 0)) (xo_yes (xe_op op_addD pr_add (xe_var (pv 1)) xe_int)) xo_no)) xa_nil))) xa_nil))))
/-! near_step -/
def d_near_step : FDen := runFn 2 5 (sSeq (sAsg (dFl (dComp [4] (iAny (dVar 0)) (gSet 4) bYes (dApp pAbs (dCons (dApp2 pSub (dVar 4) (dVar 1)) dNil)))) (gSet 2)) (sSeq (sAsg (dMeth isL pIndex (dVar 2) (dCons (dApp pMin (dCons (dVar 2) dNil)) dNil)) (gSet 3)) (sRet (dTup (dCons (dApp (dPure d_put_at) (dCons (dVar 0) (dCons (dVar 3) (dCons (dVar 1) dNil)))) (dCons (dApp2 pIxA (dVar 2) (dVar 3)) dNil))))))
theorem len_near_step : LenD 2 d_near_step := lenD_run
theorem ok_near_step (T : Txt K mg) : FnOk P w K mg base CX0 2 T.f_near_step T.fd_near_step ["state", "x"] (spD K 2 d_near_step) :=
  fn_den T.F_near_step sc_near_step rfl rfl fun cdv A outer s H E hr => (xss_cons (xs_lcAsg (i := 2) (own := [("place", 4)]) (fun q => fl_ok q) rfl sc_near_step.nd rfl rfl rfl (xi_any (xe_var (pv 0))) (blkOk_by (by rfl)) (fun _ _ _ _ _ => (pg_name (i := 4) sc_near_step.nd rfl (.inl rfl))) (tgok_name (by decide)) (fun _ _ _ _ _ => xts_nil) (fun _ _ _ _ _ => (xe_callB call_abs pr_abs rfl T.z_abs boot_absX (xa_cons (xe_op op_sub pr_sub (xe_var (pv 4)) (xe_var (pv 1))) xa_nil)))) (xss_cons (xs_set (i := 3) sc_near_step.nd rfl (.inl rfl) (xe_bm PySem.F.plainAttrs_list PySem.F.slot_list_index PySem.F.type_list_index mt_index ty_list pr_index (xe_var (pv 2)) (xa_cons (xe_callB (call_minX rfl (hu100 hr)) pr_min rfl T.z_min boot_minX (xa_cons (xe_var (pv 2)) xa_nil)) xa_nil))) (xss_one (xs_ret (xe_tup (xa_cons (xe_callF (fn_pure (ok_put_at T)) (lenD_pure len_put_at) (hr.mono (by decide)) rfl T.g_put_at T.F_put_at.kp (b_put_at T) (xa_cons (xe_var (pv 0)) (xa_cons (xe_var (pv 3)) (xa_cons (xe_var (pv 1)) xa_nil)))) (xa_cons (xe_ixA (hu_of hr) (xe_var (pv 2)) (xe_var (pv 3))) xa_nil)))))))
/-! both_step -/
def d_both_step : FDen := runFn 2 6 (sSeq (sAsg (dApp pLenD (dCons (dFl (dComp [5] (iAny (dVar 0)) (gSet 5) (dTest (dApp2 pLt (dVar 5) (dVar 1))) (dVar 5))) dNil)) (gSet 2)) (sSeq (sIf (dTest (dApp2 (pEqD false) (dVar 2) (dC (.int 0)))) (sRet (dTup (dCons (dApp (dPure d_put_at) (dCons (dVar 0) (dCons (dC (.int 0)) (dCons (dVar 1) dNil)))) (dCons (dApp2 pSub (dApp2 pIxA (dVar 0) (dC (.int 0))) (dVar 1)) dNil)))) sNil) (sSeq (sIf (dTest (dApp2 (pEqD false) (dVar 2) (dApp pLenD (dCons (dVar 0) dNil)))) (sRet (dTup (dCons (dApp (dPure d_put_at) (dCons (dVar 0) (dCons (dApp2 pSub (dVar 2) (dC (.int 1))) (dCons (dVar 1) dNil)))) (dCons (dApp2 pSub (dVar 1) (dApp2 pIxA (dVar 0) (dApp pNeg (dCons (dC (.int 1)) dNil)))) dNil)))) sNil) (sSeq (sAsg (dApp pMin2 (dCons (dApp2 pSub (dVar 1) (dApp2 pIxA (dVar 0) (dApp2 pSub (dVar 2) (dC (.int 1))))) (dCons (dApp2 pSub (dApp2 pIxA (dVar 0) (dVar 2)) (dVar 1)) dNil))) (gSet 3)) (sSeq (sAsg (dTup (dCons (dApp2 pAdd (dApp2 pIxA (dVar 0) (dApp2 pSub (dVar 2) (dC (.int 1)))) (dVar 3)) (dCons (dApp2 pSub (dApp2 pIxA (dVar 0) (dVar 2)) (dVar 3)) dNil))) (gSet 4)) (sRet (dTup (dCons (dApp pTuple (dCons (dFl (dLApp pSorted (dCons (dApp2 pAdd (dApp2 pAdd (dSlA (dVar 0) oNo (oYes (dApp2 pSub (dVar 2) (dC (.int 1))))) (dVar 4)) (dSlA (dVar 0) (oYes (dApp2 pAdd (dVar 2) (dC (.int 1)))) oNo)) dNil))) dNil)) (dCons (dApp2 pMulT (dC (.int 2)) (dVar 3)) dNil)))))))))
theorem len_both_step : LenD 2 d_both_step := lenD_run
theorem ok_both_step (T : Txt K mg) : FnOk P w K mg base CX0 2 T.f_both_step T.fd_both_step ["state", "x"] (spD K 2 d_both_step) :=
  fn_den T.F_both_step sc_both_step rfl rfl fun cdv A outer s H E hr => (xss_cons (xs_set (i := 2) sc_both_step.nd rfl (.inl rfl) (xe_callB call_lenX pr_len rfl T.z_len boot_lenX (xa_cons (xl_fl (xl_comp (own := [("place", 5)]) rfl sc_both_step.nd (xi_any (xe_var (pv 0))) (blkOk_by (by rfl)) (fun _ _ _ _ _ => (pg_name (i := 5) sc_both_step.nd rfl (.inl rfl))) (tgok_name (by decide)) (fun _ _ _ _ _ => (xts_one (xb_cmp op_lt pr_cmpI (xe_var (pv 5)) (xe_var (pv 1)) (nomark _)))) (fun _ _ _ _ _ => (xe_var (pv 5))))) xa_nil))) (xss_cons (xs_if (xb_cmp (op_eqD (hu64 hr)) pr_eqD (xe_var (pv 2)) xe_int (nomark _)) (xss_one (xs_ret (xe_tup (xa_cons (xe_callF (fn_pure (ok_put_at T)) (lenD_pure len_put_at) (hr.mono (by decide)) rfl T.g_put_at T.F_put_at.kp (b_put_at T) (xa_cons (xe_var (pv 0)) (xa_cons xe_int (xa_cons (xe_var (pv 1)) xa_nil)))) (xa_cons (xe_op op_sub pr_sub (xe_ixA (hu_of hr) (xe_var (pv 0)) xe_int) (xe_var (pv 1))) xa_nil))))) xss_nil) (xss_cons (xs_if (xb_cmp (op_eqD (hu64 hr)) pr_eqD (xe_var (pv 2)) (xe_callB call_lenX pr_len rfl T.z_len boot_lenX (xa_cons (xe_var (pv 0)) xa_nil)) (nomark _)) (xss_one (xs_ret (xe_tup (xa_cons (xe_callF (fn_pure (ok_put_at T)) (lenD_pure len_put_at) (hr.mono (by decide)) rfl T.g_put_at T.F_put_at.kp (b_put_at T) (xa_cons (xe_var (pv 0)) (xa_cons (xe_op op_sub pr_sub (xe_var (pv 2)) xe_int) (xa_cons (xe_var (pv 1)) xa_nil)))) (xa_cons (xe_op op_sub pr_sub (xe_var (pv 1)) (xe_ixA (hu_of hr) (xe_var (pv 0)) (xe_un un_neg pr_neg xe_int))) xa_nil))))) xss_nil) (xss_cons (xs_set (i := 3) sc_both_step.nd rfl (.inl rfl) (xe_callB (call_min2 rfl) pr_min2 rfl T.z_min boot_minX (xa_cons (xe_op op_sub pr_sub (xe_var (pv 1)) (xe_ixA (hu_of hr) (xe_var (pv 0)) (xe_op op_sub pr_sub (xe_var (pv 2)) xe_int))) (xa_cons (xe_op op_sub pr_sub (xe_ixA (hu_of hr) (xe_var (pv 0)) (xe_var (pv 2))) (xe_var (pv 1))) xa_nil)))) (xss_cons (xs_set (i := 4) sc_both_step.nd rfl (.inl rfl) (xe_tup (xa_cons (xe_op op_addD pr_add (xe_ixA (hu_of hr) (xe_var (pv 0)) (xe_op op_sub pr_sub (xe_var (pv 2)) xe_int)) (xe_var (pv 3))) (xa_cons (xe_op op_sub pr_sub (xe_ixA (hu_of hr) (xe_var (pv 0)) (xe_var (pv 2))) (xe_var (pv 3))) xa_nil)))) (xss_one (xs_ret (xe_tup (xa_cons (xe_callTy call_tupleX pr_tuple rfl T.z_tuple boot_tupleX (xa_cons (xl_fl (xl_callB cr_sortedX pr_sorted rfl T.z_sorted boot_sortedX (xa_cons (xe_op op_addD pr_add (xe_op op_addD pr_add (xe_slA (xe_var (pv 0)) xo_no (xo_yes (xe_op op_sub pr_sub (xe_var (pv 2)) xe_int))) (xe_var (pv 4))) (xe_slA (xe_var (pv 0)) (xo_yes (xe_op op_addD pr_add (xe_var (pv 2)) xe_int)) xo_no)) xa_nil))) xa_nil)) (xa_cons (xe_op op_mulT pr_mulT xe_int (xe_var (pv 3))) xa_nil))))))))))
/-! step_of -/
def d_step_of : FDen := runFn 3 3 (sSeq (sIf (dTest (dApp2 (pInA false) (dVar 2) (dVar 1))) (sRet (dTup (dCons (dVar 1) (dCons (dC (.int 0)) dNil)))) sNil) (sRet (dIf (dTest (dApp2 (pEqD false) (dVar 0) (dC (.str "near")))) (dApp (dPure d_near_step) (dCons (dVar 1) (dCons (dVar 2) dNil))) (dApp (dPure d_both_step) (dCons (dVar 1) (dCons (dVar 2) dNil))))))
theorem len_step_of : LenD 3 d_step_of := lenD_run
theorem ok_step_of (T : Txt K mg) : FnOk P w K mg base CX0 3 T.f_step_of T.fd_step_of ["word", "state", "x"] (spD K 3 d_step_of) :=
  fn_den T.F_step_of sc_step_of rfl rfl fun cdv A outer s H E hr => (xss_cons (xs_if (xb_cmp (op_inA (hu_of hr)) pr_inA (xe_var (pv 2)) (xe_var (pv 1)) rfl) (xss_one (xs_ret (xe_tup (xa_cons (xe_var (pv 1)) (xa_cons xe_int xa_nil))))) xss_nil) (xss_one (xs_ret (xe_if (xb_cmp (op_eqD (hu64 hr)) pr_eqD (xe_var (pv 0)) xe_str (nomark _)) (xe_callF (fn_pure (ok_near_step T)) (lenD_pure len_near_step) (hr.mono (by decide)) rfl T.g_near_step T.F_near_step.kp (b_near_step T) (xa_cons (xe_var (pv 1)) (xa_cons (xe_var (pv 2)) xa_nil))) (xe_callF (fn_pure (ok_both_step T)) (lenD_pure len_both_step) (hr.mono (by decide)) rfl T.g_both_step T.F_both_step.kp (b_both_step T) (xa_cons (xe_var (pv 1)) (xa_cons (xe_var (pv 2)) xa_nil)))))))
/-! paid_of -/
def d_paid_of : FDen := runFn 3 6 (sSeq (sAsg (dC (.int 0)) (gSet 3)) (sSeq (sFor (iAny (dVar 2)) (gSet 4) (sSeq (sAsg (dApp (dPure d_step_of) (dCons (dVar 0) (dCons (dVar 1) (dCons (dVar 4) dNil)))) (gTupD 2 (gsCons (gSet 1) (gsCons (gSet 5) gsNil)))) (sAsg (dApp2 pAdd (dVar 3) (dVar 5)) (gSet 3)))) (sRet (dVar 3))))
theorem len_paid_of : LenD 3 d_paid_of := lenD_run
theorem ok_paid_of (T : Txt K mg) : FnOk P w K mg base CX0 4 T.f_paid_of T.fd_paid_of ["word", "state", "row"] (spD K 3 d_paid_of) :=
  fn_den T.F_paid_of sc_paid_of rfl rfl fun cdv A outer s H E hr => (xss_cons (xs_set (i := 3) sc_paid_of.nd rfl (.inl rfl) xe_int) (xss_cons (xs_for PassesOwn.never rfl (xi_any (xe_var (pv 2))) (xg_name (i := 4) sc_paid_of.nd rfl (.inl rfl)) (xss_cons (xs_asg (xe_callF (fn_pure (ok_step_of T)) (lenD_pure len_step_of) (hr.mono (by decide)) rfl T.g_step_of T.F_step_of.kp (b_step_of T) (xa_cons (xe_var (pv 0)) (xa_cons (xe_var (pv 1)) (xa_cons (xe_var (pv 4)) xa_nil)))) (xg_tup rfl (xgs_cons (xg_name (i := 1) sc_paid_of.nd rfl (.inl rfl)) (xgs_cons (xg_name (i := 5) sc_paid_of.nd rfl (.inl rfl)) xgs_nil)))) (xss_one (xs_set (i := 3) sc_paid_of.nd rfl (.inl rfl) (xe_op op_addD pr_add (xe_var (pv 3)) (xe_var (pv 5))))))) (xss_one (xs_ret (xe_var (pv 3))))))
/-! state_match -/
def d_state_match : FDen := runFn 2 4 (sRet (dApp pSum (dCons (dFl (dComp [2, 3] (iZipD (dCons (dFl (dLApp pSorted (dCons (dVar 0) dNil))) (dCons (dFl (dLApp pSorted (dCons (dVar 1) dNil))) dNil))) (gTupD 2 (gsCons (gSet 2) (gsCons (gSet 3) gsNil))) bYes (dApp pAbs (dCons (dApp2 pSub (dVar 2) (dVar 3)) dNil)))) dNil)))
theorem len_state_match : LenD 2 d_state_match := lenD_run
theorem ok_state_match (T : Txt K mg) : FnOk P w K mg base CX0 1 T.f_state_match T.fd_state_match ["state", "other"] (spD K 2 d_state_match) :=
  fn_den T.F_state_match sc_state_match rfl rfl fun cdv A outer s H E hr => (xss_one (xs_ret (xe_callB (cr_sumT rfl) pr_sum rfl T.z_sum boot_sumX (xa_cons (xl_fl (xl_comp (own := [("one", 2), ("two", 3)]) rfl sc_state_match.nd (xi_zip rfl T.z_zip (xa_cons (xl_fl (xl_callB cr_sortedX pr_sorted rfl T.z_sorted boot_sortedX (xa_cons (xe_var (pv 0)) xa_nil))) (xa_cons (xl_fl (xl_callB cr_sortedX pr_sorted rfl T.z_sorted boot_sortedX (xa_cons (xe_var (pv 1)) xa_nil))) xa_nil))) (blkOk_by (by rfl)) (fun _ _ _ _ _ => (pg_tup rfl (pgs_cons (pg_name (i := 2) sc_state_match.nd rfl (.inl rfl)) (pgs_cons (pg_name (i := 3) sc_state_match.nd rfl (.inl rfl)) pgs_nil)))) (tgok_tup (tgsok_cons (tgok_name (by decide)) (tgsok_cons (tgok_name (by decide)) tgsok_nil))) (fun _ _ _ _ _ => xts_nil) (fun _ _ _ _ _ => (xe_callB call_abs pr_abs rfl T.z_abs boot_absX (xa_cons (xe_op op_sub pr_sub (xe_var (pv 2)) (xe_var (pv 3))) xa_nil))))) xa_nil))))
/-! moved_state -/
def d_moved_state : FDen := runFn 3 3 (sRet (dApp (dPure d_put_at) (dCons (dVar 0) (dCons (dVar 1) (dCons (dVar 2) dNil)))))
theorem len_moved_state : LenD 3 d_moved_state := lenD_run
theorem ok_moved_state (T : Txt K mg) : FnOk P w K mg base CX0 2 T.f_moved_state T.fd_moved_state ["state", "i", "x"] (spD K 3 d_moved_state) :=
  fn_den T.F_moved_state sc_moved_state rfl rfl fun cdv A outer s H E hr => (xss_one (xs_ret (xe_callF (fn_pure (ok_put_at T)) (lenD_pure len_put_at) (hr.mono (by decide)) rfl T.g_put_at T.F_put_at.kp (b_put_at T) (xa_cons (xe_var (pv 0)) (xa_cons (xe_var (pv 1)) (xa_cons (xe_var (pv 2)) xa_nil))))))
/-! greedy_trap -/
def d_greedy_trap : FDen := runFn 2 2 (sRet (dApp2 pMulT (dTup (dCons (dApp2 pAdd (dApp2 pIxA (dVar 0) (dC (.int 0))) (dC (.int 1))) (dCons (dApp2 pIxA (dVar 0) (dC (.int 0))) dNil))) (dVar 1)))
theorem len_greedy_trap : LenD 2 d_greedy_trap := lenD_run
theorem ok_greedy_trap (T : Txt K mg) : FnOk P w K mg base CX0 1 T.f_greedy_trap T.fd_greedy_trap ["state", "times"] (spD K 2 d_greedy_trap) :=
  fn_den T.F_greedy_trap sc_greedy_trap rfl rfl fun cdv A outer s H E hr => (xss_one (xs_ret (xe_op op_mulT pr_mulT (xe_tup (xa_cons (xe_op op_addD pr_add (xe_ixA (hu_of hr) (xe_var (pv 0)) xe_int) xe_int) (xa_cons (xe_ixA (hu_of hr) (xe_var (pv 0)) xe_int) xa_nil))) (xe_var (pv 1)))))
/-! list_giving -/
def d_list_giving : FDen := runFn 2 6 (sSeq (sPar 2 3 (dOwn (dLApp pRep (dCons (dFl (dLst (dCons (dC (.int 0)) dNil))) (dCons (dVar 0) dNil)))) (dOwn (dLst dNil))) (sSeq (sFor (iAny (dVar 1)) (gSet 4) (sSeq (sAsg (dMeth isL pIndex (dVar 2) (dCons (dApp pMin (dCons (dVar 2) dNil)) dNil)) (gSet 5)) (sSeq (sPutA (dApp2 pAdd (dApp2 pIxA (dVar 2) (dVar 5)) (dVar 4)) (dVar 2) (dVar 5)) (sExpr (dMeth isL pAppend (dVar 3) (dCons (dVar 5) dNil)))))) (sRet (dApp pTuple (dCons (dVar 3) dNil)))))
theorem len_list_giving : LenD 2 d_list_giving := lenD_run
theorem ok_list_giving (T : Txt K mg) : FnOk P w K mg base CX0 1 T.f_list_giving T.fd_list_giving ["m", "jobs"] (spD K 2 d_list_giving) :=
  fn_den T.F_list_giving sc_list_giving rfl rfl fun cdv A outer s H E hr => (xss_cons (xs_par (i := 2) (j := 3) rfl sc_list_giving.nd rfl rfl (by decide) rfl rfl (xl_own (xl_op op_rep pr_rep (xl_fl (xl_lst (xa_cons xe_int xa_nil))) (xe_var (pv 0)))) (xl_own (xl_lst xa_nil)) rfl) (xss_cons (xs_for PassesOwn.never rfl (xi_any (xe_var (pv 1))) (xg_name (i := 4) sc_list_giving.nd rfl (.inl rfl)) (xss_cons (xs_set (i := 5) sc_list_giving.nd rfl (.inl rfl) (xe_bm PySem.F.plainAttrs_list PySem.F.slot_list_index PySem.F.type_list_index mt_index ty_list pr_index (xe_var (pv 2)) (xa_cons (xe_callB (call_minX rfl (hu100 hr)) pr_min rfl T.z_min boot_minX (xa_cons (xe_var (pv 2)) xa_nil)) xa_nil))) (xss_cons (xs_putA (hu_of hr) (xe_op op_addD pr_add (xe_ixA (hu_of hr) (xe_var (pv 2)) (xe_var (pv 5))) (xe_var (pv 4))) (xe_var (pv 2)) (xe_var (pv 5))) (xss_one (xs_expr (xe_bm PySem.F.plainAttrs_list PySem.F.slot_list_append PySem.F.type_list_append mt_append ty_list pr_append (xe_var (pv 3)) (xa_cons (xe_var (pv 5)) xa_nil))))))) (xss_one (xs_ret (xe_callTy call_tupleX pr_tuple rfl T.z_tuple boot_tupleX (xa_cons (xe_var (pv 3)) xa_nil))))))
/-! machine_sums -/
def d_machine_sums : FDen := runFn 3 6 (sSeq (sAsg (dOwn (dLApp pRep (dCons (dFl (dLst (dCons (dC (.int 0)) dNil))) (dCons (dVar 0) dNil)))) (gSet 3)) (sSeq (sFor (iZipD (dCons (dVar 1) (dCons (dVar 2) dNil))) (gTupD 2 (gsCons (gSet 4) (gsCons (gSet 5) gsNil))) (sPutA (dApp2 pAdd (dApp2 pIxA (dVar 3) (dVar 5)) (dVar 4)) (dVar 3) (dVar 5))) (sRet (dVar 3))))
theorem len_machine_sums : LenD 3 d_machine_sums := lenD_run
theorem ok_machine_sums (T : Txt K mg) : FnOk P w K mg base CX0 1 T.f_machine_sums T.fd_machine_sums ["m", "jobs", "giving"] (spD K 3 d_machine_sums) :=
  fn_den T.F_machine_sums sc_machine_sums rfl rfl fun cdv A outer s H E hr => (xss_cons (xs_set (i := 3) sc_machine_sums.nd rfl (.inl rfl) (xl_own (xl_op op_rep pr_rep (xl_fl (xl_lst (xa_cons xe_int xa_nil))) (xe_var (pv 0))))) (xss_cons (xs_for PassesOwn.never rfl (xi_zip rfl T.z_zip (xa_cons (xe_var (pv 1)) (xa_cons (xe_var (pv 2)) xa_nil))) (xg_tup rfl (xgs_cons (xg_name (i := 4) sc_machine_sums.nd rfl (.inl rfl)) (xgs_cons (xg_name (i := 5) sc_machine_sums.nd rfl (.inl rfl)) xgs_nil))) (xss_one (xs_putA (hu_of hr) (xe_op op_addD pr_add (xe_ixA (hu_of hr) (xe_var (pv 3)) (xe_var (pv 5))) (xe_var (pv 4))) (xe_var (pv 3)) (xe_var (pv 5))))) (xss_one (xs_ret (xe_var (pv 3))))))
/-! giving_end -/
def d_giving_end : FDen := runFn 3 3 (sRet (dApp pMax (dCons (dApp d_machine_sums (dCons (dVar 0) (dCons (dVar 1) (dCons (dVar 2) dNil)))) dNil)))
theorem len_giving_end : LenD 3 d_giving_end := lenD_run
theorem ok_giving_end (T : Txt K mg) : FnOk P w K mg base CX0 2 T.f_giving_end T.fd_giving_end ["m", "jobs", "giving"] (spD K 3 d_giving_end) :=
  fn_den T.F_giving_end sc_giving_end rfl rfl fun cdv A outer s H E hr => (xss_one (xs_ret (xe_callB (call_maxX rfl (hu100 hr)) pr_max rfl T.z_max boot_maxX (xa_cons (xe_callF (ok_machine_sums T) len_machine_sums (hr.mono (by decide)) rfl T.g_machine_sums T.F_machine_sums.kp (b_machine_sums T) (xa_cons (xe_var (pv 0)) (xa_cons (xe_var (pv 1)) (xa_cons (xe_var (pv 2)) xa_nil)))) xa_nil))))
/-! longest_first -/
def d_longest_first : FDen := runFn 2 3 (sSeq (sAsg (dRevT (dApp pTuple (dCons (dFl (dLApp pSorted (dCons (dVar 1) dNil))) dNil))) (gSet 2)) (sRet (dApp (dPure d_giving_end) (dCons (dVar 0) (dCons (dVar 2) (dCons (dApp (dPure d_list_giving) (dCons (dVar 0) (dCons (dVar 2) dNil))) dNil))))))
theorem len_longest_first : LenD 2 d_longest_first := lenD_run
theorem ok_longest_first (T : Txt K mg) : FnOk P w K mg base CX0 3 T.f_longest_first T.fd_longest_first ["m", "jobs"] (spD K 2 d_longest_first) :=
  fn_den T.F_longest_first sc_longest_first rfl rfl fun cdv A outer s H E hr => (xss_cons (xs_set (i := 2) sc_longest_first.nd rfl (.inl rfl) (xe_revT (xe_callTy call_tupleX pr_tuple rfl T.z_tuple boot_tupleX (xa_cons (xl_fl (xl_callB cr_sortedX pr_sorted rfl T.z_sorted boot_sortedX (xa_cons (xe_var (pv 1)) xa_nil))) xa_nil)))) (xss_one (xs_ret (xe_callF (fn_pure (ok_giving_end T)) (lenD_pure len_giving_end) (hr.mono (by decide)) rfl T.g_giving_end T.F_giving_end.kp (b_giving_end T) (xa_cons (xe_var (pv 0)) (xa_cons (xe_var (pv 2)) (xa_cons (xe_callF (fn_pure (ok_list_giving T)) (lenD_pure len_list_giving) (hr.mono (by decide)) rfl T.g_list_giving T.F_list_giving.kp (b_list_giving T) (xa_cons (xe_var (pv 0)) (xa_cons (xe_var (pv 2)) xa_nil))) xa_nil)))))))
/-! sums_met -/
def d_sums_met : FDen := runFn 2 10 (sSeq (sPar 2 3 (dDispT (dApp2 pMulT (dTup (dCons (dC (.int 0)) dNil)) (dVar 0)) (dTup (dCons (dApp2 pMulT (dTup (dCons (dC (.int 0)) dNil)) (dVar 0)) (dCons (dTup dNil) dNil)))) (dApp (dPure d_longest_first) (dCons (dVar 0) (dCons (dVar 1) dNil)))) (sSeq (sFor (iAny (dVar 1)) (gSet 4) (sSeq (sAsg dNewT (gSet 5)) (sSeq (sFor (iValsD (dVar 2)) (gTupD 2 (gsCons (gSet 6) (gsCons (gSet 7) gsNil))) (sFor (iRng1D (dCons (dVar 0) dNil)) (gSet 8) (sIf (dAnd (dTest (dApp2 pLe (dApp2 pAdd (dApp2 pIxA (dVar 6) (dVar 8)) (dVar 4)) (dVar 3))) (dTest (dApp2 (pInA true) (dApp2 pIxA (dVar 6) (dVar 8)) (dSlA (dVar 6) oNo (oYes (dVar 8)))))) (sSeq (sAsg (dApp2 pAdd (dApp2 pAdd (dSlA (dVar 6) oNo (oYes (dVar 8))) (dTup (dCons (dApp2 pAdd (dApp2 pIxA (dVar 6) (dVar 8)) (dVar 4)) dNil))) (dSlA (dVar 6) (oYes (dApp2 pAdd (dVar 8) (dC (.int 1)))) oNo)) (gSet 9)) (sPutA (dTup (dCons (dVar 9) (dCons (dApp2 pAdd (dVar 7) (dTup (dCons (dVar 8) dNil))) dNil))) (dVar 5) (dApp pTuple (dCons (dFl (dLApp pSorted (dCons (dVar 9) dNil))) dNil)))) sNil))) (sAsg (dVar 5) (gSet 2))))) (sRet (dVar 2))))
theorem len_sums_met : LenD 2 d_sums_met := lenD_run
theorem ok_sums_met (T : Txt K mg) : FnOk P w K mg base CX0 4 T.f_sums_met T.fd_sums_met ["m", "jobs"] (spD K 2 d_sums_met) :=
  fn_den T.F_sums_met sc_sums_met rfl rfl fun cdv A outer s H E hr => (xss_cons (xs_par (i := 2) (j := 3) rfl sc_sums_met.nd rfl rfl (by decide) rfl rfl (xe_dispT (hu_of hr) (xe_op op_mulT pr_mulT (xe_tup (xa_cons xe_int xa_nil)) (xe_var (pv 0))) (xe_tup (xa_cons (xe_op op_mulT pr_mulT (xe_tup (xa_cons xe_int xa_nil)) (xe_var (pv 0))) (xa_cons (xe_tup xa_nil) xa_nil)))) (xe_callF (fn_pure (ok_longest_first T)) (lenD_pure len_longest_first) (hr.mono (by decide)) rfl T.g_longest_first T.F_longest_first.kp (b_longest_first T) (xa_cons (xe_var (pv 0)) (xa_cons (xe_var (pv 1)) xa_nil))) rfl) (xss_cons (xs_for PassesOwn.never rfl (xi_any (xe_var (pv 1))) (xg_name (i := 4) sc_sums_met.nd rfl (.inl rfl)) (xss_cons (xs_set (i := 5) sc_sums_met.nd rfl (.inl rfl) xe_newT) (xss_cons (xs_for PassesOwn.never rfl (xi_values (xe_var (pv 2))) (xg_tup rfl (xgs_cons (xg_name (i := 6) sc_sums_met.nd rfl (.inl rfl)) (xgs_cons (xg_name (i := 7) sc_sums_met.nd rfl (.inl rfl)) xgs_nil))) (xss_one (xs_for PassesOwn.never rfl (xi_rng1 rfl T.z_range (xa_cons (xe_var (pv 0)) xa_nil)) (xg_name (i := 8) sc_sums_met.nd rfl (.inl rfl)) (xss_one (xs_if (xb_w (xw_and (xb_cmp op_le pr_cmpI (xe_op op_addD pr_add (xe_ixA (hu_of hr) (xe_var (pv 6)) (xe_var (pv 8))) (xe_var (pv 4))) (xe_var (pv 3)) (nomark _)) (xw_and1 (xb_cmp (op_notInA (hu_of hr)) pr_inA (xe_ixA (hu_of hr) (xe_var (pv 6)) (xe_var (pv 8))) (xe_slA (xe_var (pv 6)) xo_no (xo_yes (xe_var (pv 8)))) rfl)))) (xss_cons (xs_set (i := 9) sc_sums_met.nd rfl (.inl rfl) (xe_op op_addD pr_add (xe_op op_addD pr_add (xe_slA (xe_var (pv 6)) xo_no (xo_yes (xe_var (pv 8)))) (xe_tup (xa_cons (xe_op op_addD pr_add (xe_ixA (hu_of hr) (xe_var (pv 6)) (xe_var (pv 8))) (xe_var (pv 4))) xa_nil))) (xe_slA (xe_var (pv 6)) (xo_yes (xe_op op_addD pr_add (xe_var (pv 8)) xe_int)) xo_no))) (xss_one (xs_putA (hu_of hr) (xe_tup (xa_cons (xe_var (pv 9)) (xa_cons (xe_op op_addD pr_add (xe_var (pv 7)) (xe_tup (xa_cons (xe_var (pv 8)) xa_nil))) xa_nil))) (xe_var (pv 5)) (xe_callTy call_tupleX pr_tuple rfl T.z_tuple boot_tupleX (xa_cons (xl_fl (xl_callB cr_sortedX pr_sorted rfl T.z_sorted boot_sortedX (xa_cons (xe_var (pv 9)) xa_nil))) xa_nil))))) xss_nil))))) (xss_one (xs_set (i := 2) sc_sums_met.nd rfl (.inl rfl) (xe_var (pv 5))))))) (xss_one (xs_ret (xe_var (pv 2))))))
/-! load_hindsight -/
def d_load_hindsight : FDen := runFn 2 3 (sRet (dApp pMin (dCons (dFl (dComp [2] (iAny (dApp d_sums_met (dCons (dVar 0) (dCons (dVar 1) dNil)))) (gSet 2) bYes (dApp2 pIxA (dVar 2) (dApp pNeg (dCons (dC (.int 1)) dNil))))) dNil)))
theorem len_load_hindsight : LenD 2 d_load_hindsight := lenD_run
theorem ok_load_hindsight (T : Txt K mg) : FnOk P w K mg base CX0 5 T.f_load_hindsight T.fd_load_hindsight ["m", "jobs"] (spD K 2 d_load_hindsight) :=
  fn_den T.F_load_hindsight sc_load_hindsight rfl rfl fun cdv A outer s H E hr => (xss_one (xs_ret (xe_callB (call_minX rfl (hu100 hr)) pr_min rfl T.z_min boot_minX (xa_cons (xl_fl (xl_comp (own := [("key", 2)]) rfl sc_load_hindsight.nd (xi_any (xe_callF (ok_sums_met T) len_sums_met (hr.mono (by decide)) rfl T.g_sums_met T.F_sums_met.kp (b_sums_met T) (xa_cons (xe_var (pv 0)) (xa_cons (xe_var (pv 1)) xa_nil)))) (blkOk_by (by rfl)) (fun _ _ _ _ _ => (pg_name (i := 2) sc_load_hindsight.nd rfl (.inl rfl))) (tgok_name (by decide)) (fun _ _ _ _ _ => xts_nil) (fun _ _ _ _ _ => (xe_ixA (hu_of hr) (xe_var (pv 2)) (xe_un un_neg pr_neg xe_int))))) xa_nil))))
/-! load_foe -/
def d_load_foe : FDen := runFn 1 1 (sRet (dApp2 pAdd (dApp2 pMulT (dTup (dCons (dC (.int 1)) dNil)) (dApp2 pMulT (dVar 0) (dApp2 pSub (dVar 0) (dC (.int 1))))) (dTup (dCons (dVar 0) dNil))))
theorem len_load_foe : LenD 1 d_load_foe := lenD_run
theorem ok_load_foe (T : Txt K mg) : FnOk P w K mg base CX0 1 T.f_load_foe T.fd_load_foe ["m"] (spD K 1 d_load_foe) :=
  fn_den T.F_load_foe sc_load_foe rfl rfl fun cdv A outer s H E hr => (xss_one (xs_ret (xe_op op_addD pr_add (xe_op op_mulT pr_mulT (xe_tup (xa_cons xe_int xa_nil)) (xe_op op_mulT pr_mulT (xe_var (pv 0)) (xe_op op_sub pr_sub (xe_var (pv 0)) xe_int))) (xe_tup (xa_cons (xe_var (pv 0)) xa_nil)))))
/-! work_layers -/
def d_work_layers : FDen := runFn 2 10 (sSeq (sAsg (dOwn (dLst (dCons (dDispT (dVar 0) (dTup (dCons (dC (.int 0)) (dCons (dC .non) dNil)))) dNil))) (gSet 2)) (sSeq (sFor (iAny (dVar 1)) (gSet 3) (sSeq (sAsg dNewT (gSet 4)) (sSeq (sFor (iItemsD (dApp2 pIxA (dVar 2) (dApp pNeg (dCons (dC (.int 1)) dNil)))) (gTupD 2 (gsCons (gSet 5) (gsCons (gSet 6) gsNil))) (sFor (iRng1D (dCons (dApp pLenD (dCons (dVar 5) dNil)) dNil)) (gSet 7) (sSeq (sPar 8 9 (dApp (dPure d_moved_state) (dCons (dVar 5) (dCons (dVar 7) (dCons (dVar 3) dNil)))) (dApp2 pAdd (dApp2 pIxA (dVar 6) (dC (.int 0))) (dApp pAbs (dCons (dApp2 pSub (dApp2 pIxA (dVar 5) (dVar 7)) (dVar 3)) dNil)))) (sIf (dOr (dTest (dApp2 (pInA true) (dVar 8) (dVar 4))) (dTest (dApp2 pLt (dVar 9) (dApp2 pIxA (dApp2 pIxA (dVar 4) (dVar 8)) (dC (.int 0)))))) (sPutA (dTup (dCons (dVar 9) (dCons (dTup (dCons (dVar 5) (dCons (dVar 7) dNil))) dNil))) (dVar 4) (dVar 8)) sNil)))) (sExpr (dMeth isL pAppend (dVar 2) (dCons (dVar 4) dNil)))))) (sRet (dVar 2))))
theorem len_work_layers : LenD 2 d_work_layers := lenD_run
theorem ok_work_layers (T : Txt K mg) : FnOk P w K mg base CX0 3 T.f_work_layers T.fd_work_layers ["state", "row"] (spD K 2 d_work_layers) :=
  fn_den T.F_work_layers sc_work_layers rfl rfl fun cdv A outer s H E hr => (xss_cons (xs_set (i := 2) sc_work_layers.nd rfl (.inl rfl) (xl_own (xl_lst (xa_cons (xe_dispT (hu_of hr) (xe_var (pv 0)) (xe_tup (xa_cons xe_int (xa_cons xe_non xa_nil)))) xa_nil)))) (xss_cons (xs_for PassesOwn.never rfl (xi_any (xe_var (pv 1))) (xg_name (i := 3) sc_work_layers.nd rfl (.inl rfl)) (xss_cons (xs_set (i := 4) sc_work_layers.nd rfl (.inl rfl) xe_newT) (xss_cons (xs_for PassesOwn.never rfl (xi_items (xe_ixA (hu_of hr) (xe_var (pv 2)) (xe_un un_neg pr_neg xe_int))) (xg_tup rfl (xgs_cons (xg_name (i := 5) sc_work_layers.nd rfl (.inl rfl)) (xgs_cons (xg_name (i := 6) sc_work_layers.nd rfl (.inl rfl)) xgs_nil))) (xss_one (xs_for PassesOwn.never rfl (xi_rng1 rfl T.z_range (xa_cons (xe_callB call_lenX pr_len rfl T.z_len boot_lenX (xa_cons (xe_var (pv 5)) xa_nil)) xa_nil)) (xg_name (i := 7) sc_work_layers.nd rfl (.inl rfl)) (xss_cons (xs_par (i := 8) (j := 9) rfl sc_work_layers.nd rfl rfl (by decide) rfl rfl (xe_callF (fn_pure (ok_moved_state T)) (lenD_pure len_moved_state) (hr.mono (by decide)) rfl T.g_moved_state T.F_moved_state.kp (b_moved_state T) (xa_cons (xe_var (pv 5)) (xa_cons (xe_var (pv 7)) (xa_cons (xe_var (pv 3)) xa_nil)))) (xe_op op_addD pr_add (xe_ixA (hu_of hr) (xe_var (pv 6)) xe_int) (xe_callB call_abs pr_abs rfl T.z_abs boot_absX (xa_cons (xe_op op_sub pr_sub (xe_ixA (hu_of hr) (xe_var (pv 5)) (xe_var (pv 7))) (xe_var (pv 3))) xa_nil))) rfl) (xss_one (xs_if (xb_w (xw_or (xb_cmp (op_notInA (hu_of hr)) pr_inA (xe_var (pv 8)) (xe_var (pv 4)) rfl) (xw_or1 (xb_cmp op_lt pr_cmpI (xe_var (pv 9)) (xe_ixA (hu_of hr) (xe_ixA (hu_of hr) (xe_var (pv 4)) (xe_var (pv 8))) xe_int) (nomark _))))) (xss_one (xs_putA (hu_of hr) (xe_tup (xa_cons (xe_var (pv 9)) (xa_cons (xe_tup (xa_cons (xe_var (pv 5)) (xa_cons (xe_var (pv 7)) xa_nil))) xa_nil))) (xe_var (pv 4)) (xe_var (pv 8)))) xss_nil)))))) (xss_one (xs_expr (xe_bm PySem.F.plainAttrs_list PySem.F.slot_list_append PySem.F.type_list_append mt_append ty_list pr_append (xe_var (pv 2)) (xa_cons (xe_var (pv 4)) xa_nil))))))) (xss_one (xs_ret (xe_var (pv 2))))))
/-! server_hindsight -/
def d_server_hindsight : FDen := runFn 2 3 (sRet (dApp pMin (dCons (dFl (dComp [2] (iValsD (dApp2 pIxA (dApp d_work_layers (dCons (dVar 0) (dCons (dVar 1) dNil))) (dApp pNeg (dCons (dC (.int 1)) dNil)))) (gSet 2) bYes (dApp2 pIxA (dVar 2) (dC (.int 0))))) dNil)))
theorem len_server_hindsight : LenD 2 d_server_hindsight := lenD_run
theorem ok_server_hindsight (T : Txt K mg) : FnOk P w K mg base CX0 4 T.f_server_hindsight T.fd_server_hindsight ["state", "row"] (spD K 2 d_server_hindsight) :=
  fn_den T.F_server_hindsight sc_server_hindsight rfl rfl fun cdv A outer s H E hr => (xss_one (xs_ret (xe_callB (call_minX rfl (hu100 hr)) pr_min rfl T.z_min boot_minX (xa_cons (xl_fl (xl_comp (own := [("told", 2)]) rfl sc_server_hindsight.nd (xi_values (xe_ixA (hu_of hr) (xe_callF (ok_work_layers T) len_work_layers (hr.mono (by decide)) rfl T.g_work_layers T.F_work_layers.kp (b_work_layers T) (xa_cons (xe_var (pv 0)) (xa_cons (xe_var (pv 1)) xa_nil))) (xe_un un_neg pr_neg xe_int))) (blkOk_by (by rfl)) (fun _ _ _ _ _ => (pg_name (i := 2) sc_server_hindsight.nd rfl (.inl rfl))) (tgok_name (by decide)) (fun _ _ _ _ _ => xts_nil) (fun _ _ _ _ _ => (xe_ixA (hu_of hr) (xe_var (pv 2)) xe_int)))) xa_nil))))
/-! work_step -/
def d_work_step : FDen := runFn 4 13 (sSeq (sAsg (dFl (dComp [10, 11] (iItemsD (dApp2 pIxA (dApp d_work_layers (dCons (dVar 0) (dCons (dApp2 pAdd (dVar 1) (dTup (dCons (dVar 3) dNil))) dNil))) (dApp pNeg (dCons (dC (.int 1)) dNil)))) (gTupD 2 (gsCons (gSet 10) (gsCons (gSet 11) gsNil))) bYes (dTup (dCons (dVar 10) (dCons (dApp2 pIxA (dVar 11) (dC (.int 0))) dNil))))) (gSet 4)) (sSeq (sAsg (dC .non) (gSet 5)) (sSeq (sFor (iRng1D (dCons (dApp pLenD (dCons (dVar 2) dNil)) dNil)) (gSet 6) (sSeq (sAsg (dTup (dCons (dApp (dPure d_moved_state) (dCons (dVar 2) (dCons (dVar 6) (dCons (dVar 3) dNil)))) (dCons (dApp pAbs (dCons (dApp2 pSub (dApp2 pIxA (dVar 2) (dVar 6)) (dVar 3)) dNil)) dNil))) (gTupD 2 (gsCons (gSet 7) (gsCons (gSet 8) gsNil)))) (sSeq (sAsg (dApp2 pAdd (dVar 8) (dApp pMin (dCons (dFl (dComp [10, 12] (iAny (dVar 4)) (gTupD 2 (gsCons (gSet 10) (gsCons (gSet 12) gsNil))) bYes (dApp2 pAdd (dVar 12) (dApp (dPure d_state_match) (dCons (dVar 10) (dCons (dVar 7) dNil)))))) dNil))) (gSet 9)) (sIf (dOr (dTest (dApp2 (pIsN false) (dVar 5) (dC .non))) (dTest (dApp2 pLt (dVar 9) (dApp2 pIxA (dVar 5) (dC (.int 0)))))) (sAsg (dTup (dCons (dVar 9) (dCons (dVar 7) (dCons (dVar 8) dNil)))) (gSet 5)) sNil)))) (sRet (dSlA (dVar 5) (oYes (dC (.int 1))) oNo)))))
theorem len_work_step : LenD 4 d_work_step := lenD_run
theorem ok_work_step (T : Txt K mg) : FnOk P w K mg base CX0 4 T.f_work_step T.fd_work_step ["first", "past", "state", "x"] (spD K 4 d_work_step) :=
  fn_den T.F_work_step sc_work_step rfl rfl fun cdv A outer s H E hr => (xss_cons (xs_lcAsg (i := 4) (own := [("own", 10), ("told", 11)]) (fun q => fl_ok q) rfl sc_work_step.nd rfl rfl rfl (xi_items (xe_ixA (hu_of hr) (xe_callF (ok_work_layers T) len_work_layers (hr.mono (by decide)) rfl T.g_work_layers T.F_work_layers.kp (b_work_layers T) (xa_cons (xe_var (pv 0)) (xa_cons (xe_op op_addD pr_add (xe_var (pv 1)) (xe_tup (xa_cons (xe_var (pv 3)) xa_nil))) xa_nil))) (xe_un un_neg pr_neg xe_int))) (blkOk_by (by rfl)) (fun _ _ _ _ _ => (pg_tup rfl (pgs_cons (pg_name (i := 10) sc_work_step.nd rfl (.inl rfl)) (pgs_cons (pg_name (i := 11) sc_work_step.nd rfl (.inl rfl)) pgs_nil)))) (tgok_tup (tgsok_cons (tgok_name (by decide)) (tgsok_cons (tgok_name (by decide)) tgsok_nil))) (fun _ _ _ _ _ => xts_nil) (fun _ _ _ _ _ => (xe_tup (xa_cons (xe_var (pv 10)) (xa_cons (xe_ixA (hu_of hr) (xe_var (pv 11)) xe_int) xa_nil))))) (xss_cons (xs_set (i := 5) sc_work_step.nd rfl (.inl rfl) xe_non) (xss_cons (xs_for PassesOwn.never rfl (xi_rng1 rfl T.z_range (xa_cons (xe_callB call_lenX pr_len rfl T.z_len boot_lenX (xa_cons (xe_var (pv 2)) xa_nil)) xa_nil)) (xg_name (i := 6) sc_work_step.nd rfl (.inl rfl)) (xss_cons (xs_asg (xe_tup (xa_cons (xe_callF (fn_pure (ok_moved_state T)) (lenD_pure len_moved_state) (hr.mono (by decide)) rfl T.g_moved_state T.F_moved_state.kp (b_moved_state T) (xa_cons (xe_var (pv 2)) (xa_cons (xe_var (pv 6)) (xa_cons (xe_var (pv 3)) xa_nil)))) (xa_cons (xe_callB call_abs pr_abs rfl T.z_abs boot_absX (xa_cons (xe_op op_sub pr_sub (xe_ixA (hu_of hr) (xe_var (pv 2)) (xe_var (pv 6))) (xe_var (pv 3))) xa_nil)) xa_nil))) (xg_tup rfl (xgs_cons (xg_name (i := 7) sc_work_step.nd rfl (.inr rfl)) (xgs_cons (xg_name (i := 8) sc_work_step.nd rfl (.inl rfl)) xgs_nil)))) (xss_cons (xs_set (i := 9) sc_work_step.nd rfl (.inl rfl) (xe_op op_addD pr_add (xe_var (pv 8)) (xe_callB (call_minX rfl (hu100 hr)) pr_min rfl T.z_min boot_minX (xa_cons (xl_fl (xl_comp (own := [("own", 10), ("cost", 12)]) rfl sc_work_step.nd (xi_any (xe_var (pv 4))) (blkOk_by (by rfl)) (fun _ _ _ _ _ => (pg_tup rfl (pgs_cons (pg_name (i := 10) sc_work_step.nd rfl (.inl rfl)) (pgs_cons (pg_name (i := 12) sc_work_step.nd rfl (.inl rfl)) pgs_nil)))) (tgok_tup (tgsok_cons (tgok_name (by decide)) (tgsok_cons (tgok_name (by decide)) tgsok_nil))) (fun _ _ _ _ _ => xts_nil) (fun _ _ _ _ _ => (xe_op op_addD pr_add (xe_var (pv 12)) (xe_callF (fn_pure (ok_state_match T)) (lenD_pure len_state_match) (hr.mono (by decide)) rfl T.g_state_match T.F_state_match.kp (b_state_match T) (xa_cons (xe_var (pv 10)) (xa_cons (xe_var (pv 7)) xa_nil))))))) xa_nil)))) (xss_one (xs_if (xb_w (xw_or (xb_cmp op_isN pr_isN (xe_var (pv 5)) xe_non (nomark _)) (xw_or1 (xb_cmp op_lt pr_cmpI (xe_var (pv 9)) (xe_ixA (hu_of hr) (xe_var (pv 5)) xe_int) (nomark _))))) (xss_one (xs_set (i := 5) sc_work_step.nd rfl (.inl rfl) (xe_tup (xa_cons (xe_var (pv 9)) (xa_cons (xe_var (pv 7)) (xa_cons (xe_var (pv 8)) xa_nil)))))) xss_nil))))) (xss_one (xs_ret (xe_slA (xe_var (pv 5)) (xo_yes xe_int) xo_no))))))
/-! first_state -/
def d_first_state : FDen := runFn 2 3 (sRet (dApp pTuple (dCons (dFl (dComp [2] (iRng1D (dCons (dVar 0) dNil)) (gSet 2) bYes (dApp2 pMulT (dVar 1) (dVar 2)))) dNil)))
theorem len_first_state : LenD 2 d_first_state := lenD_run
theorem ok_first_state (T : Txt K mg) : FnOk P w K mg base CX0 1 T.f_first_state T.fd_first_state ["k", "apart"] (spD K 2 d_first_state) :=
  fn_den T.F_first_state sc_first_state rfl rfl fun cdv A outer s H E hr => (xss_one (xs_ret (xe_callTy call_tupleX pr_tuple rfl T.z_tuple boot_tupleX (xa_cons (xl_fl (xl_comp (own := [("i", 2)]) rfl sc_first_state.nd (xi_rng1 rfl T.z_range (xa_cons (xe_var (pv 0)) xa_nil)) (blkOk_by (by rfl)) (fun _ _ _ _ _ => (pg_name (i := 2) sc_first_state.nd rfl (.inl rfl))) (tgok_name (by decide)) (fun _ _ _ _ _ => xts_nil) (fun _ _ _ _ _ => (xe_op op_mulT pr_mulT (xe_var (pv 1)) (xe_var (pv 2)))))) xa_nil))))
/-! server_foe -/
def d_server_foe : FDen := runFn 4 10 (sSeq (sPar 4 5 (dApp (dPure d_first_state) (dCons (dVar 1) (dCons (dVar 2) dNil))) (dTup dNil)) (sSeq (sAsg (dVar 4) (gSet 6)) (sSeq (sFor (iRng1D (dCons (dVar 3) dNil)) (gSet 7) (sSeq (sAsg (dApp pMin (dCons (dFl (dComp [9] (iRng1D (dCons (dApp2 pAdd (dVar 1) (dC (.int 1))) dNil)) (gSet 9) (dTest (dApp2 (pInA true) (dApp2 pMulT (dVar 2) (dVar 9)) (dVar 6))) (dApp2 pMulT (dVar 2) (dVar 9)))) dNil)) (gSet 8)) (sSeq (sAsg (dIf (dTest (dApp2 (pEqD false) (dVar 0) (dC (.str "work")))) (dApp2 pIxA (dApp (dPure d_work_step) (dCons (dVar 4) (dCons (dVar 5) (dCons (dVar 6) (dCons (dVar 8) dNil))))) (dC (.int 0))) (dApp2 pIxA (dApp (dPure d_step_of) (dCons (dVar 0) (dCons (dVar 6) (dCons (dVar 8) dNil)))) (dC (.int 0)))) (gSet 6)) (sAsg (dApp2 pAdd (dVar 5) (dTup (dCons (dVar 8) dNil))) (gSet 5))))) (sRet (dVar 5)))))
theorem len_server_foe : LenD 4 d_server_foe := lenD_run
theorem ok_server_foe (T : Txt K mg) : FnOk P w K mg base CX0 5 T.f_server_foe T.fd_server_foe ["word", "k", "apart", "many"] (spD K 4 d_server_foe) :=
  fn_den T.F_server_foe sc_server_foe rfl rfl fun cdv A outer s H E hr => (xss_cons (xs_par (i := 4) (j := 5) rfl sc_server_foe.nd rfl rfl (by decide) rfl rfl (xe_callF (fn_pure (ok_first_state T)) (lenD_pure len_first_state) (hr.mono (by decide)) rfl T.g_first_state T.F_first_state.kp (b_first_state T) (xa_cons (xe_var (pv 1)) (xa_cons (xe_var (pv 2)) xa_nil))) (xe_tup xa_nil) rfl) (xss_cons (xs_set (i := 6) sc_server_foe.nd rfl (.inr rfl) (xe_var (pv 4))) (xss_cons (xs_for PassesOwn.never rfl (xi_rng1 rfl T.z_range (xa_cons (xe_var (pv 3)) xa_nil)) (xg_name (i := 7) sc_server_foe.nd rfl (.inl rfl)) (xss_cons (xs_set (i := 8) sc_server_foe.nd rfl (.inl rfl) (xe_callB (call_minX rfl (hu100 hr)) pr_min rfl T.z_min boot_minX (xa_cons (xl_fl (xl_comp (own := [("i", 9)]) rfl sc_server_foe.nd (xi_rng1 rfl T.z_range (xa_cons (xe_op op_addD pr_add (xe_var (pv 1)) xe_int) xa_nil)) (blkOk_by (by rfl)) (fun _ _ _ _ _ => (pg_name (i := 9) sc_server_foe.nd rfl (.inl rfl))) (tgok_name (by decide)) (fun _ _ _ _ _ => (xts_one (xb_cmp (op_notInA (hu_of hr)) pr_inA (xe_op op_mulT pr_mulT (xe_var (pv 2)) (xe_var (pv 9))) (xe_var (pv 6)) rfl))) (fun _ _ _ _ _ => (xe_op op_mulT pr_mulT (xe_var (pv 2)) (xe_var (pv 9)))))) xa_nil))) (xss_cons (xs_set (i := 6) sc_server_foe.nd rfl (.inr rfl) (xe_if (xb_cmp (op_eqD (hu64 hr)) pr_eqD (xe_var (pv 0)) xe_str (nomark _)) (xe_ixA (hu_of hr) (xe_callF (fn_pure (ok_work_step T)) (lenD_pure len_work_step) (hr.mono (by decide)) rfl T.g_work_step T.F_work_step.kp (b_work_step T) (xa_cons (xe_var (pv 4)) (xa_cons (xe_var (pv 5)) (xa_cons (xe_var (pv 6)) (xa_cons (xe_var (pv 8)) xa_nil))))) xe_int) (xe_ixA (hu_of hr) (xe_callF (fn_pure (ok_step_of T)) (lenD_pure len_step_of) (hr.mono (by decide)) rfl T.g_step_of T.F_step_of.kp (b_step_of T) (xa_cons (xe_var (pv 0)) (xa_cons (xe_var (pv 6)) (xa_cons (xe_var (pv 8)) xa_nil)))) xe_int))) (xss_one (xs_set (i := 5) sc_server_foe.nd rfl (.inl rfl) (xe_op op_addD pr_add (xe_var (pv 5)) (xe_tup (xa_cons (xe_var (pv 8)) xa_nil)))))))) (xss_one (xs_ret (xe_var (pv 5)))))))
/-! ready_rows -/
def d_ready_rows : FDen := runFn 0 0 (sRet (dTup (dCons (dC (.str "bins")) (dCons (dC (.str "foe")) (dCons (dC (.str "jobs")) (dCons (dC (.str "tower")) (dCons (dC (.str "walk")) dNil)))))))
theorem len_ready_rows : LenD 0 d_ready_rows := lenD_run
theorem ok_ready_rows (T : Txt K mg) : FnOk P w K mg base CX0 1 T.f_ready_rows T.fd_ready_rows [] (spD K 0 d_ready_rows) :=
  fn_den T.F_ready_rows sc_ready_rows rfl rfl fun cdv A outer s H E hr => (xss_one (xs_ret (xe_tup (xa_cons xe_str (xa_cons xe_str (xa_cons xe_str (xa_cons xe_str (xa_cons xe_str xa_nil))))))))
/-! ready_row -/
def d_ready_row : FDen := runFn 2 2 (sSeq (sIf (dTest (dApp2 (pEqD false) (dVar 0) (dC (.str "walk")))) (sRet (dApp (dPure d_greedy_trap) (dCons (dTup (dCons (dC (.int 0)) (dCons (dApp2 pAdd (dVar 1) (dC (.int 2))) dNil))) (dCons (dVar 1) dNil)))) sNil) (sSeq (sIf (dTest (dApp2 (pEqD false) (dVar 0) (dC (.str "foe")))) (sRet (dApp (dPure d_server_foe) (dCons (dC (.str "near")) (dCons (dC (.int 2)) (dCons (dVar 1) (dCons (dC (.int 8)) dNil)))))) sNil) (sSeq (sIf (dTest (dApp2 (pEqD false) (dVar 0) (dC (.str "jobs")))) (sRet (dApp (dPure d_load_foe) (dCons (dVar 1) dNil))) sNil) (sRet (dIf (dTest (dApp2 (pEqD false) (dVar 0) (dC (.str "bins")))) (dApp (dPure d_bin_foe) (dCons (dVar 1) dNil)) (dApp (dPure (d_colour_tower 8)) (dCons (dVar 1) dNil)))))))
theorem len_ready_row : LenD 2 d_ready_row := lenD_run
theorem ok_ready_row (T : Txt K mg) : FnOk P w K mg base CX0 9 T.f_ready_row T.fd_ready_row ["word", "n"] (spD K 2 d_ready_row) :=
  fn_den T.F_ready_row sc_ready_row rfl rfl fun cdv A outer s H E hr => (xss_cons (xs_if (xb_cmp (op_eqD (hu64 hr)) pr_eqD (xe_var (pv 0)) xe_str (nomark _)) (xss_one (xs_ret (xe_callF (fn_pure (ok_greedy_trap T)) (lenD_pure len_greedy_trap) (hr.mono (by decide)) rfl T.g_greedy_trap T.F_greedy_trap.kp (b_greedy_trap T) (xa_cons (xe_tup (xa_cons xe_int (xa_cons (xe_op op_addD pr_add (xe_var (pv 1)) xe_int) xa_nil))) (xa_cons (xe_var (pv 1)) xa_nil))))) xss_nil) (xss_cons (xs_if (xb_cmp (op_eqD (hu64 hr)) pr_eqD (xe_var (pv 0)) xe_str (nomark _)) (xss_one (xs_ret (xe_callF (fn_pure (ok_server_foe T)) (lenD_pure len_server_foe) (hr.mono (by decide)) rfl T.g_server_foe T.F_server_foe.kp (b_server_foe T) (xa_cons xe_str (xa_cons xe_int (xa_cons (xe_var (pv 1)) (xa_cons xe_int xa_nil))))))) xss_nil) (xss_cons (xs_if (xb_cmp (op_eqD (hu64 hr)) pr_eqD (xe_var (pv 0)) xe_str (nomark _)) (xss_one (xs_ret (xe_callF (fn_pure (ok_load_foe T)) (lenD_pure len_load_foe) (hr.mono (by decide)) rfl T.g_load_foe T.F_load_foe.kp (b_load_foe T) (xa_cons (xe_var (pv 1)) xa_nil)))) xss_nil) (xss_one (xs_ret (xe_if (xb_cmp (op_eqD (hu64 hr)) pr_eqD (xe_var (pv 0)) xe_str (nomark _)) (xe_callF (fn_pure (ok_bin_foe T)) (lenD_pure len_bin_foe) (hr.mono (by decide)) rfl T.g_bin_foe T.F_bin_foe.kp (b_bin_foe T) (xa_cons (xe_var (pv 1)) xa_nil)) (xe_callF (fn_pure (ok_colour_tower T 8)) (lenD_pure (len_colour_tower 8)) (hr.mono (by decide)) rfl T.g_colour_tower T.F_colour_tower.kp (b_colour_tower T) (xa_cons (xe_var (pv 1)) xa_nil))))))))
/-! ready_pays -/
def d_ready_pays : FDen := runFn 2 2 (sSeq (sIf (dTest (dApp2 (pEqD false) (dVar 0) (dC (.str "walk")))) (sRet (dTup (dCons (dApp2 pMulT (dC (.int 2)) (dVar 1)) (dCons (dApp2 pAdd (dVar 1) (dC (.int 1))) dNil)))) sNil) (sSeq (sIf (dTest (dApp2 (pEqD false) (dVar 0) (dC (.str "foe")))) (sRet (dTup (dCons (dApp2 pMulT (dC (.int 8)) (dVar 1)) (dCons (dApp2 pMulT (dC (.int 2)) (dVar 1)) dNil)))) sNil) (sSeq (sIf (dTest (dApp2 (pEqD false) (dVar 0) (dC (.str "jobs")))) (sRet (dTup (dCons (dApp2 pSub (dApp2 pMulT (dC (.int 2)) (dVar 1)) (dC (.int 1))) (dCons (dVar 1) dNil)))) sNil) (sRet (dIf (dTest (dApp2 (pEqD false) (dVar 0) (dC (.str "bins")))) (dTup (dCons (dApp2 pMulT (dC (.int 2)) (dVar 1)) (dCons (dApp2 pAdd (dVar 1) (dC (.int 1))) dNil))) (dTup (dCons (dApp2 pAdd (dVar 1) (dC (.int 1))) (dCons (dC (.int 2)) dNil))))))))
theorem len_ready_pays : LenD 2 d_ready_pays := lenD_run
theorem ok_ready_pays (T : Txt K mg) : FnOk P w K mg base CX0 1 T.f_ready_pays T.fd_ready_pays ["word", "n"] (spD K 2 d_ready_pays) :=
  fn_den T.F_ready_pays sc_ready_pays rfl rfl fun cdv A outer s H E hr => (xss_cons (xs_if (xb_cmp (op_eqD (hu64 hr)) pr_eqD (xe_var (pv 0)) xe_str (nomark _)) (xss_one (xs_ret (xe_tup (xa_cons (xe_op op_mulT pr_mulT xe_int (xe_var (pv 1))) (xa_cons (xe_op op_addD pr_add (xe_var (pv 1)) xe_int) xa_nil))))) xss_nil) (xss_cons (xs_if (xb_cmp (op_eqD (hu64 hr)) pr_eqD (xe_var (pv 0)) xe_str (nomark _)) (xss_one (xs_ret (xe_tup (xa_cons (xe_op op_mulT pr_mulT xe_int (xe_var (pv 1))) (xa_cons (xe_op op_mulT pr_mulT xe_int (xe_var (pv 1))) xa_nil))))) xss_nil) (xss_cons (xs_if (xb_cmp (op_eqD (hu64 hr)) pr_eqD (xe_var (pv 0)) xe_str (nomark _)) (xss_one (xs_ret (xe_tup (xa_cons (xe_op op_sub pr_sub (xe_op op_mulT pr_mulT xe_int (xe_var (pv 1))) xe_int) (xa_cons (xe_var (pv 1)) xa_nil))))) xss_nil) (xss_one (xs_ret (xe_if (xb_cmp (op_eqD (hu64 hr)) pr_eqD (xe_var (pv 0)) xe_str (nomark _)) (xe_tup (xa_cons (xe_op op_mulT pr_mulT xe_int (xe_var (pv 1))) (xa_cons (xe_op op_addD pr_add (xe_var (pv 1)) xe_int) xa_nil))) (xe_tup (xa_cons (xe_op op_addD pr_add (xe_var (pv 1)) xe_int) (xa_cons xe_int xa_nil)))))))))
/-! _law_bag -/
def d__law_bag : FDen := runFn 1 4 (sSeq (sAsg (dFl (dComp [3] (iAny (dSlA (dVar 0) oNo (oYes (dC (.int 63))))) (gSet 3) bYes (dApp2 pMod (dApp pInt (dCons (dApp pAbs (dCons (dVar 3) dNil)) dNil)) (dApp2 pPow (dC (.int 10)) (dC (.int 64)))))) (gSet 1)) (sSeq (sAsg (dApp2 pAdd (dC (.int 97531)) (dApp pLenD (dCons (dVar 1) dNil))) (gSet 2)) (sSeq (sFor (iAny (dVar 1)) (gSet 3) (sAsg (dApp2 pMod (dApp pInt (dCons (dApp2 pAdd (dApp2 pAdd (dApp2 pMulT (dVar 2) (dC (.int 48271))) (dApp2 pMod (dApp pInt (dCons (dVar 3) dNil)) (dC (.int 2147483629)))) (dC (.int 7))) dNil)) (dC (.int 2147483647))) (gSet 2))) (sRet (dOwn (dLst (dCons (dOwn (dListRev (dVar 1))) (dCons (dC (.int 0)) (dCons (dVar 2) dNil)))))))))
theorem len__law_bag : LenD 1 d__law_bag := lenD_run
theorem ok__law_bag (T : Txt K mg) : FnOk P w K mg base CX0 1 T.f__law_bag T.fd__law_bag ["script"] (spD K 1 d__law_bag) :=
  fn_den T.F__law_bag sc__law_bag rfl rfl fun cdv A outer s H E hr => (xss_cons (xs_lcAsg (i := 1) (own := [("c", 3)]) (fun q => fl_ok q) rfl sc__law_bag.nd rfl rfl rfl (xi_any (xe_slA (xe_var (pv 0)) xo_no (xo_yes xe_int))) (blkOk_by (by rfl)) (fun _ _ _ _ _ => (pg_name (i := 3) sc__law_bag.nd rfl (.inl rfl))) (tgok_name (by decide)) (fun _ _ _ _ _ => xts_nil) (fun _ _ _ _ _ => (xe_op op_modN pr_mod (xe_callTy call_int1 pr_int rfl T.z_int boot_intX (xa_cons (xe_callB call_abs pr_abs rfl T.z_abs boot_absX (xa_cons (xe_var (pv 3)) xa_nil)) xa_nil)) (xe_op op_pow pr_pow xe_int xe_int)))) (xss_cons (xs_set (i := 2) sc__law_bag.nd rfl (.inl rfl) (xe_op op_addD pr_add xe_int (xe_callB call_lenX pr_len rfl T.z_len boot_lenX (xa_cons (xe_var (pv 1)) xa_nil)))) (xss_cons (xs_for PassesOwn.never rfl (xi_any (xe_var (pv 1))) (xg_name (i := 3) sc__law_bag.nd rfl (.inl rfl)) (xss_one (xs_set (i := 2) sc__law_bag.nd rfl (.inl rfl) (xe_op op_modN pr_mod (xe_callTy call_int1 pr_int rfl T.z_int boot_intX (xa_cons (xe_op op_addD pr_add (xe_op op_addD pr_add (xe_op op_mulT pr_mulT (xe_var (pv 2)) xe_int) (xe_op op_modN pr_mod (xe_callTy call_int1 pr_int rfl T.z_int boot_intX (xa_cons (xe_var (pv 3)) xa_nil)) xe_int)) xe_int) xa_nil)) xe_int)))) (xss_one (xs_ret (xl_own (xl_lst (xa_cons (xl_own (xl_listRev rfl rfl T.z_list rfl T.z_reversed (xe_var (pv 1)))) (xa_cons xe_int (xa_cons (xe_var (pv 2)) xa_nil))))))))))
/-! _law_draw -/
def d__law_draw : FDen := runFn 2 4 (sSeq (sFor (iRng1D (dCons (dC (.int 64)) dNil)) (gSet 2) (sSeq (sIf (dOr (dTest (dApp2 pGt (dApp2 pIxA (dVar 0) (dC (.int 1))) (dC (.int 0)))) (dTest (dApp2 (pEqD false) (dApp2 pIxA (dVar 0) (dC (.int 0))) (dFl (dLst dNil))))) sBrk sNil) (sSeq (sAsg (dMeth isL pPop (dApp2 pIxA (dVar 0) (dC (.int 0))) dNil) (gSet 3)) (sPutA (dIf (dTest (dApp2 pGt (dVar 3) (dApp2 pPow (dC (.int 10)) (dC (.int 9))))) (dVar 3) (dC (.int 0))) (dVar 0) (dC (.int 1)))))) (sSeq (sIf (dTest (dApp2 pGt (dApp2 pIxA (dVar 0) (dC (.int 1))) (dC (.int 0)))) (sSeq (sAsg (dApp2 pMod (dApp pInt (dCons (dApp2 pIxA (dVar 0) (dC (.int 1))) dNil)) (dVar 1)) (gSet 3)) (sSeq (sPutA (dApp2 pFdiv (dApp2 pIxA (dVar 0) (dC (.int 1))) (dVar 1)) (dVar 0) (dC (.int 1))) (sRet (dVar 3)))) sNil) (sSeq (sPutA (dApp2 pMod (dApp pInt (dCons (dApp2 pAdd (dApp2 pMulT (dApp2 pIxA (dVar 0) (dC (.int 2))) (dC (.int 48271))) (dC (.int 11))) dNil)) (dC (.int 2147483647))) (dVar 0) (dC (.int 2))) (sRet (dApp2 pMod (dApp pInt (dCons (dApp2 pFdiv (dApp2 pMod (dApp pInt (dCons (dApp2 pMulT (dApp2 pIxA (dVar 0) (dC (.int 2))) (dApp2 pIxA (dVar 0) (dC (.int 2)))) dNil)) (dC (.int 2147483629))) (dC (.int 7))) dNil)) (dVar 1))))))
theorem len__law_draw : LenD 2 d__law_draw := lenD_run
theorem ok__law_draw (T : Txt K mg) : FnOk P w K mg base CX0 1 T.f__law_draw T.fd__law_draw ["bag", "m"] (spD K 2 d__law_draw) :=
  fn_den T.F__law_draw sc__law_draw rfl rfl fun cdv A outer s H E hr => (xss_cons (xs_for PassesOwn.never rfl (xi_rng1 rfl T.z_range (xa_cons xe_int xa_nil)) (xg_name (i := 2) sc__law_draw.nd rfl (.inl rfl)) (xss_cons (xs_if (xb_w (xw_or (xb_cmp op_gt pr_cmpI (xe_ixA (hu_of hr) (xe_var (pv 0)) xe_int) xe_int (nomark _)) (xw_or1 (xb_cmp (op_eqD (hu64 hr)) pr_eqD (xe_ixA (hu_of hr) (xe_var (pv 0)) xe_int) (xl_fl (xl_lst xa_nil)) (nomark _))))) (xss_one xs_break) xss_nil) (xss_cons (xs_set (i := 3) sc__law_draw.nd rfl (.inl rfl) (xe_bm0 PySem.F.plainAttrs_list PySem.F.slot_list_pop PySem.F.type_list_pop mt_pop ty_list pr_pop (xe_ixA (hu_of hr) (xe_var (pv 0)) xe_int))) (xss_one (xs_putA (hu_of hr) (xe_if (xb_cmp op_gt pr_cmpI (xe_var (pv 3)) (xe_op op_pow pr_pow xe_int xe_int) (nomark _)) (xe_var (pv 3)) xe_int) (xe_var (pv 0)) xe_int))))) (xss_cons (xs_if (xb_cmp op_gt pr_cmpI (xe_ixA (hu_of hr) (xe_var (pv 0)) xe_int) xe_int (nomark _)) (xss_cons (xs_set (i := 3) sc__law_draw.nd rfl (.inl rfl) (xe_op op_modN pr_mod (xe_callTy call_int1 pr_int rfl T.z_int boot_intX (xa_cons (xe_ixA (hu_of hr) (xe_var (pv 0)) xe_int) xa_nil)) (xe_var (pv 1)))) (xss_cons (xs_putA (hu_of hr) (xe_op op_fdD pr_fdiv (xe_ixA (hu_of hr) (xe_var (pv 0)) xe_int) (xe_var (pv 1))) (xe_var (pv 0)) xe_int) (xss_one (xs_ret (xe_var (pv 3)))))) xss_nil) (xss_cons (xs_putA (hu_of hr) (xe_op op_modN pr_mod (xe_callTy call_int1 pr_int rfl T.z_int boot_intX (xa_cons (xe_op op_addD pr_add (xe_op op_mulT pr_mulT (xe_ixA (hu_of hr) (xe_var (pv 0)) xe_int) xe_int) xe_int) xa_nil)) xe_int) (xe_var (pv 0)) xe_int) (xss_one (xs_ret (xe_op op_modN pr_mod (xe_callTy call_int1 pr_int rfl T.z_int boot_intX (xa_cons (xe_op op_fdD pr_fdiv (xe_op op_modN pr_mod (xe_callTy call_int1 pr_int rfl T.z_int boot_intX (xa_cons (xe_op op_mulT pr_mulT (xe_ixA (hu_of hr) (xe_var (pv 0)) xe_int) (xe_ixA (hu_of hr) (xe_var (pv 0)) xe_int)) xa_nil)) xe_int) xe_int) xa_nil)) (xe_var (pv 1))))))))
/-! _law_is -/
def d__law_is : Nat → FDen
  | 0 => fun _ _ => none
  | n + 1 => runFn 2 4 (sSeq (sIf (dTest (dIsi "tuple" (dVar 1))) (sRet (dAndV (dIsi "tuple" (dVar 0)) (dAndV (dApp2 (pEqD false) (dApp pLenD (dCons (dVar 0) dNil)) (dApp pLenD (dCons (dVar 1) dNil))) (dApp pAll (dCons (dFl (dComp [2, 3] (iZipD (dCons (dVar 0) (dCons (dVar 1) dNil))) (gTupD 2 (gsCons (gSet 2) (gsCons (gSet 3) gsNil))) bYes (dApp (dPure (d__law_is n)) (dCons (dVar 2) (dCons (dVar 3) dNil))))) dNil))))) sNil) (sSeq (sIf (dOr (dTest (dApp2 (pIsN false) (dVar 1) (dC .non))) (dTest (dApp2 (pEqD true) (dIsi "bool" (dVar 0)) (dIsi "bool" (dVar 1))))) (sRet (dAndV (dApp2 (pIsN false) (dVar 1) (dC .non)) (dApp2 (pIsN false) (dVar 0) (dC .non)))) sNil) (sRet (dAndV (dIf (dTest (dIsi "str" (dVar 1))) (dIsi "str" (dVar 0)) (dIsi "int" (dVar 0))) (dApp2 (pEqD false) (dVar 0) (dVar 1))))))
theorem len__law_is : ∀ n, LenD 2 (d__law_is n)
  | 0 => lenD_none
  | _ + 1 => lenD_run
theorem ok__law_is (T : Txt K mg) : ∀ n, FnOk P w K mg base CX0 (n + 0) T.f__law_is T.fd__law_is ["a", "b"] (spD K 2 (d__law_is n))
  | 0 => fn_zero
  | n + 1 => by
    have ih := ok__law_is T n
    exact fn_den T.F__law_is sc__law_is rfl rfl fun cdv A outer s H E hr => (xss_cons (xs_if (xb_val (xe_isi rfl T.z_isinstance boot_isinstanceX (xe_var (pv 1)) (pe_tyN rfl T.z_tuple boot_tupleX) (by decide))) (xss_one (xs_ret (xe_and (xe_isi rfl T.z_isinstance boot_isinstanceX (xe_var (pv 0)) (pe_tyN rfl T.z_tuple boot_tupleX) (by decide)) (xe_and (xe_cmp (op_eqD (hu64 hr)) pr_eqD (xe_callB call_lenX pr_len rfl T.z_len boot_lenX (xa_cons (xe_var (pv 0)) xa_nil)) (xe_callB call_lenX pr_len rfl T.z_len boot_lenX (xa_cons (xe_var (pv 1)) xa_nil)) (nomark _)) (xe_one (xe_callB (cr_all rfl) pr_allB rfl T.z_all boot_allX (xa_cons (xl_fl (xl_comp (own := [("x", 2), ("y", 3)]) rfl sc__law_is.nd (xi_zip rfl T.z_zip (xa_cons (xe_var (pv 0)) (xa_cons (xe_var (pv 1)) xa_nil))) (blkOk_by (by rfl)) (fun _ _ _ _ _ => (pg_tup rfl (pgs_cons (pg_name (i := 2) sc__law_is.nd rfl (.inl rfl)) (pgs_cons (pg_name (i := 3) sc__law_is.nd rfl (.inl rfl)) pgs_nil)))) (tgok_tup (tgsok_cons (tgok_name (by decide)) (tgsok_cons (tgok_name (by decide)) tgsok_nil))) (fun _ _ _ _ _ => xts_nil) (fun _ _ _ _ _ => (xe_callF (fn_pure ih) (lenD_pure (len__law_is n)) (hr.mono (by omega)) rfl T.g__law_is T.F__law_is.kp (b__law_is T) (xa_cons (xe_var (pv 2)) (xa_cons (xe_var (pv 3)) xa_nil)))))) xa_nil))))))) xss_nil) (xss_cons (xs_if (xb_w (xw_or (xb_cmp op_isN pr_isN (xe_var (pv 1)) xe_non (nomark _)) (xw_or1 (xb_cmp (op_neD (hu64 hr)) pr_neD (xe_isi rfl T.z_isinstance boot_isinstanceX (xe_var (pv 0)) (pe_tyN rfl T.z_bool boot_boolX) (by decide)) (xe_isi rfl T.z_isinstance boot_isinstanceX (xe_var (pv 1)) (pe_tyN rfl T.z_bool boot_boolX) (by decide)) (nomark _))))) (xss_one (xs_ret (xe_and (xe_cmp op_isN pr_isN (xe_var (pv 1)) xe_non (nomark _)) (xe_one (xe_cmp op_isN pr_isN (xe_var (pv 0)) xe_non (nomark _)))))) xss_nil) (xss_one (xs_ret (xe_and (xe_if (xb_val (xe_isi rfl T.z_isinstance boot_isinstanceX (xe_var (pv 1)) (pe_tyN rfl T.z_str boot_strX) (by decide))) (xe_isi rfl T.z_isinstance boot_isinstanceX (xe_var (pv 0)) (pe_tyN rfl T.z_str boot_strX) (by decide)) (xe_isi rfl T.z_isinstance boot_isinstanceX (xe_var (pv 0)) (pe_tyN rfl T.z_int boot_intX) (by decide))) (xe_one (xe_cmp (op_eqD (hu64 hr)) pr_eqD (xe_var (pv 0)) (xe_var (pv 1)) (nomark _))))))))
/-! _law_near -/
def d__law_near : FDen := runFn 2 7 (sSeq (sAsg (dC (.int 0)) (gSet 2)) (sSeq (sFor (iEnumD (dCons (dVar 0) dNil)) (gTupD 2 (gsCons (gSet 3) (gsCons (gSet 4) gsNil))) (sIf (dTest (dApp2 pLt (dApp pAbs (dCons (dApp2 pSub (dVar 4) (dVar 1)) dNil)) (dApp pAbs (dCons (dApp2 pSub (dApp2 pIxA (dVar 0) (dVar 2)) (dVar 1)) dNil)))) (sAsg (dVar 3) (gSet 2)) sNil)) (sSeq (sAsg (dFl (dComp [3, 4] (iEnumD (dCons (dVar 0) dNil)) (gTupD 2 (gsCons (gSet 3) (gsCons (gSet 4) gsNil))) (dTest (dApp2 (pEqD true) (dVar 3) (dVar 2))) (dVar 4))) (gSet 5)) (sSeq (sAsg (dApp pLenD (dCons (dFl (dComp [4] (iAny (dVar 5)) (gSet 4) (dTest (dApp2 pLt (dVar 4) (dVar 1))) (dVar 4))) dNil)) (gSet 6)) (sRet (dTup (dCons (dApp pTuple (dCons (dFl (dLApp pCat (dCons (dFl (dLApp pCat (dCons (dSlA (dVar 5) oNo (oYes (dVar 6))) (dCons (dFl (dLst (dCons (dVar 1) dNil))) dNil)))) (dCons (dSlA (dVar 5) (oYes (dVar 6)) oNo) dNil)))) dNil)) (dCons (dApp pAbs (dCons (dApp2 pSub (dApp2 pIxA (dVar 0) (dVar 2)) (dVar 1)) dNil)) dNil))))))))
theorem len__law_near : LenD 2 d__law_near := lenD_run
theorem ok__law_near (T : Txt K mg) : FnOk P w K mg base CX0 1 T.f__law_near T.fd__law_near ["state", "x"] (spD K 2 d__law_near) :=
  fn_den T.F__law_near sc__law_near rfl rfl fun cdv A outer s H E hr => (xss_cons (xs_set (i := 2) sc__law_near.nd rfl (.inr rfl) xe_int) (xss_cons (xs_for PassesOwn.never rfl (xi_enum rfl T.z_enumerate (xa_cons (xe_var (pv 0)) xa_nil)) (xg_tup rfl (xgs_cons (xg_name (i := 3) sc__law_near.nd rfl (.inl rfl)) (xgs_cons (xg_name (i := 4) sc__law_near.nd rfl (.inl rfl)) xgs_nil))) (xss_one (xs_if (xb_cmp op_lt pr_cmpI (xe_callB call_abs pr_abs rfl T.z_abs boot_absX (xa_cons (xe_op op_sub pr_sub (xe_var (pv 4)) (xe_var (pv 1))) xa_nil)) (xe_callB call_abs pr_abs rfl T.z_abs boot_absX (xa_cons (xe_op op_sub pr_sub (xe_ixA (hu_of hr) (xe_var (pv 0)) (xe_var (pv 2))) (xe_var (pv 1))) xa_nil)) (nomark _)) (xss_one (xs_set (i := 2) sc__law_near.nd rfl (.inr rfl) (xe_var (pv 3)))) xss_nil))) (xss_cons (xs_lcAsg (i := 5) (own := [("i", 3), ("p", 4)]) (fun q => fl_ok q) rfl sc__law_near.nd rfl rfl rfl (xi_enum rfl T.z_enumerate (xa_cons (xe_var (pv 0)) xa_nil)) (blkOk_by (by rfl)) (fun _ _ _ _ _ => (pg_tup rfl (pgs_cons (pg_name (i := 3) sc__law_near.nd rfl (.inl rfl)) (pgs_cons (pg_name (i := 4) sc__law_near.nd rfl (.inl rfl)) pgs_nil)))) (tgok_tup (tgsok_cons (tgok_name (by decide)) (tgsok_cons (tgok_name (by decide)) tgsok_nil))) (fun _ _ _ _ _ => (xts_one (xb_cmp (op_neD (hu64 hr)) pr_neD (xe_var (pv 3)) (xe_var (pv 2)) (nomark _)))) (fun _ _ _ _ _ => (xe_var (pv 4)))) (xss_cons (xs_set (i := 6) sc__law_near.nd rfl (.inl rfl) (xe_callB call_lenX pr_len rfl T.z_len boot_lenX (xa_cons (xl_fl (xl_comp (own := [("p", 4)]) rfl sc__law_near.nd (xi_any (xe_var (pv 5))) (blkOk_by (by rfl)) (fun _ _ _ _ _ => (pg_name (i := 4) sc__law_near.nd rfl (.inl rfl))) (tgok_name (by decide)) (fun _ _ _ _ _ => (xts_one (xb_cmp op_lt pr_cmpI (xe_var (pv 4)) (xe_var (pv 1)) (nomark _)))) (fun _ _ _ _ _ => (xe_var (pv 4))))) xa_nil))) (xss_one (xs_ret (xe_tup (xa_cons (xe_callTy call_tupleX pr_tuple rfl T.z_tuple boot_tupleX (xa_cons (xl_fl (xl_op op_cat pr_cat (xl_fl (xl_op op_cat pr_cat (xe_slA (xe_var (pv 5)) xo_no (xo_yes (xe_var (pv 6)))) (xl_fl (xl_lst (xa_cons (xe_var (pv 1)) xa_nil))))) (xe_slA (xe_var (pv 5)) (xo_yes (xe_var (pv 6))) xo_no))) xa_nil)) (xa_cons (xe_callB call_abs pr_abs rfl T.z_abs boot_absX (xa_cons (xe_op op_sub pr_sub (xe_ixA (hu_of hr) (xe_var (pv 0)) (xe_var (pv 2))) (xe_var (pv 1))) xa_nil)) xa_nil)))))))))
/-! _law_near_pay -/
def d__law_near_pay : FDen := runFn 2 5 (sSeq (sAsg (dC (.int 0)) (gSet 2)) (sSeq (sFor (iAny (dVar 1)) (gSet 3) (sSeq (sAsg (dApp (dPure d__law_near) (dCons (dVar 0) (dCons (dVar 3) dNil))) (gTupD 2 (gsCons (gSet 0) (gsCons (gSet 4) gsNil)))) (sAsg (dApp2 pAdd (dVar 2) (dVar 4)) (gSet 2)))) (sRet (dVar 2))))
theorem len__law_near_pay : LenD 2 d__law_near_pay := lenD_run
theorem ok__law_near_pay (T : Txt K mg) : FnOk P w K mg base CX0 2 T.f__law_near_pay T.fd__law_near_pay ["state", "row"] (spD K 2 d__law_near_pay) :=
  fn_den T.F__law_near_pay sc__law_near_pay rfl rfl fun cdv A outer s H E hr => (xss_cons (xs_set (i := 2) sc__law_near_pay.nd rfl (.inl rfl) xe_int) (xss_cons (xs_for PassesOwn.never rfl (xi_any (xe_var (pv 1))) (xg_name (i := 3) sc__law_near_pay.nd rfl (.inl rfl)) (xss_cons (xs_asg (xe_callF (fn_pure (ok__law_near T)) (lenD_pure len__law_near) (hr.mono (by decide)) rfl T.g__law_near T.F__law_near.kp (b__law_near T) (xa_cons (xe_var (pv 0)) (xa_cons (xe_var (pv 3)) xa_nil))) (xg_tup rfl (xgs_cons (xg_name (i := 0) sc__law_near_pay.nd rfl (.inl rfl)) (xgs_cons (xg_name (i := 4) sc__law_near_pay.nd rfl (.inl rfl)) xgs_nil)))) (xss_one (xs_set (i := 2) sc__law_near_pay.nd rfl (.inl rfl) (xe_op op_addD pr_add (xe_var (pv 2)) (xe_var (pv 4))))))) (xss_one (xs_ret (xe_var (pv 2))))))
/-! _law_hindsight -/
def d__law_hindsight : FDen := runFn 2 12 (sSeq (sAsg (dC (.bl true)) (gSet 2)) (sSeq (sAsg (dFl (dLst (dCons (dTup (dCons (dApp2 pIxA (dVar 0) (dC (.int 0))) (dCons (dApp2 pIxA (dVar 0) (dC (.int 1))) (dCons (dC (.int 0)) dNil)))) dNil))) (gSet 3)) (sSeq (sFor (iAny (dVar 1)) (gSet 4) (sSeq (sAsg dNewK (gSet 5)) (sSeq (sFor (iAny (dVar 3)) (gTupD 3 (gsCons (gSet 6) (gsCons (gSet 7) (gsCons (gSet 8) gsNil)))) (sFor (iAny (dTup (dCons (dTup (dCons (dVar 6) (dCons (dVar 7) dNil))) (dCons (dTup (dCons (dVar 7) (dCons (dVar 6) dNil))) dNil)))) (gTupD 2 (gsCons (gSet 9) (gsCons (gSet 10) gsNil))) (sSeq (sAsg (dApp2 pAdd (dVar 8) (dApp pAbs (dCons (dApp2 pSub (dVar 10) (dVar 4)) dNil))) (gSet 11)) (sIf (dOr (dTest (dApp2 (pInA true) (dVar 9) (dVar 5))) (dTest (dApp2 pGt (dApp2 pIxA (dVar 5) (dVar 9)) (dVar 11)))) (sPutA (dVar 11) (dVar 5) (dVar 9)) sNil)))) (sSeq (sAsg (dFl (dComp [6] (iAny (dVar 5)) (gSet 6) bYes (dTup (dCons (dVar 6) (dCons (dVar 4) (dCons (dApp2 pIxA (dVar 5) (dVar 6)) dNil)))))) (gSet 3)) (sAsg (dC (.bl false)) (gSet 2)))))) (sRet (dIf (dNot (dTest (dVar 2))) (dApp pMin (dCons (dFl (dComp [6, 7, 8] (iAny (dVar 3)) (gTupD 3 (gsCons (gSet 6) (gsCons (gSet 7) (gsCons (gSet 8) gsNil)))) bYes (dApp pInt (dCons (dVar 8) dNil)))) dNil)) (dC (.int 0)))))))
theorem len__law_hindsight : LenD 2 d__law_hindsight := lenD_run
theorem ok__law_hindsight (T : Txt K mg) : FnOk P w K mg base CX0 1 T.f__law_hindsight T.fd__law_hindsight ["state", "row"] (spD K 2 d__law_hindsight) :=
  fn_den T.F__law_hindsight sc__law_hindsight rfl rfl fun cdv A outer s H E hr => (xss_cons (xs_set (i := 2) sc__law_hindsight.nd rfl (.inl rfl) xe_bl) (xss_cons (xs_set (i := 3) sc__law_hindsight.nd rfl (.inl rfl) (xl_fl (xl_lst (xa_cons (xe_tup (xa_cons (xe_ixA (hu_of hr) (xe_var (pv 0)) xe_int) (xa_cons (xe_ixA (hu_of hr) (xe_var (pv 0)) xe_int) (xa_cons xe_int xa_nil)))) xa_nil)))) (xss_cons (xs_for PassesOwn.never rfl (xi_any (xe_var (pv 1))) (xg_name (i := 4) sc__law_hindsight.nd rfl (.inr rfl)) (xss_cons (xs_set (i := 5) sc__law_hindsight.nd rfl (.inr rfl) xe_newK) (xss_cons (xs_for PassesOwn.never rfl (xi_any (xe_var (pv 3))) (xg_tup rfl (xgs_cons (xg_name (i := 6) sc__law_hindsight.nd rfl (.inl rfl)) (xgs_cons (xg_name (i := 7) sc__law_hindsight.nd rfl (.inl rfl)) (xgs_cons (xg_name (i := 8) sc__law_hindsight.nd rfl (.inl rfl)) xgs_nil)))) (xss_one (xs_for PassesOwn.never rfl (xi_any (xe_tup (xa_cons (xe_tup (xa_cons (xe_var (pv 6)) (xa_cons (xe_var (pv 7)) xa_nil))) (xa_cons (xe_tup (xa_cons (xe_var (pv 7)) (xa_cons (xe_var (pv 6)) xa_nil))) xa_nil)))) (xg_tup rfl (xgs_cons (xg_name (i := 9) sc__law_hindsight.nd rfl (.inl rfl)) (xgs_cons (xg_name (i := 10) sc__law_hindsight.nd rfl (.inl rfl)) xgs_nil))) (xss_cons (xs_set (i := 11) sc__law_hindsight.nd rfl (.inl rfl) (xe_op op_addD pr_add (xe_var (pv 8)) (xe_callB call_abs pr_abs rfl T.z_abs boot_absX (xa_cons (xe_op op_sub pr_sub (xe_var (pv 10)) (xe_var (pv 4))) xa_nil)))) (xss_one (xs_if (xb_w (xw_or (xb_cmp (op_notInA (hu_of hr)) pr_inA (xe_var (pv 9)) (xe_var (pv 5)) rfl) (xw_or1 (xb_cmp op_gt pr_cmpI (xe_ixA (hu_of hr) (xe_var (pv 5)) (xe_var (pv 9))) (xe_var (pv 11)) (nomark _))))) (xss_one (xs_putA (hu_of hr) (xe_var (pv 11)) (xe_var (pv 5)) (xe_var (pv 9)))) xss_nil)))))) (xss_cons (xs_lcAsg (i := 3) (own := [("p", 6)]) (fun q => fl_ok q) rfl sc__law_hindsight.nd rfl rfl rfl (xi_any (xe_var (pv 5))) (blkOk_by (by rfl)) (fun _ _ _ _ _ => (pg_name (i := 6) sc__law_hindsight.nd rfl (.inl rfl))) (tgok_name (by decide)) (fun _ _ _ _ _ => xts_nil) (fun _ _ _ _ _ => (xe_tup (xa_cons (xe_var (pv 6)) (xa_cons (xe_var (pv 4)) (xa_cons (xe_ixA (hu_of hr) (xe_var (pv 5)) (xe_var (pv 6))) xa_nil)))))) (xss_one (xs_set (i := 2) sc__law_hindsight.nd rfl (.inl rfl) xe_bl)))))) (xss_one (xs_ret (xe_if (xb_not (xb_val (xe_var (pv 2)))) (xe_callB (call_minX rfl (hu100 hr)) pr_min rfl T.z_min boot_minX (xa_cons (xl_fl (xl_comp (own := [("p", 6), ("q", 7), ("cost", 8)]) rfl sc__law_hindsight.nd (xi_any (xe_var (pv 3))) (blkOk_by (by rfl)) (fun _ _ _ _ _ => (pg_tup rfl (pgs_cons (pg_name (i := 6) sc__law_hindsight.nd rfl (.inl rfl)) (pgs_cons (pg_name (i := 7) sc__law_hindsight.nd rfl (.inl rfl)) (pgs_cons (pg_name (i := 8) sc__law_hindsight.nd rfl (.inl rfl)) pgs_nil))))) (tgok_tup (tgsok_cons (tgok_name (by decide)) (tgsok_cons (tgok_name (by decide)) (tgsok_cons (tgok_name (by decide)) tgsok_nil)))) (fun _ _ _ _ _ => xts_nil) (fun _ _ _ _ _ => (xe_callTy call_int1 pr_int rfl T.z_int boot_intX (xa_cons (xe_var (pv 8)) xa_nil))))) xa_nil)) xe_int))))))
/-! _law_foe_row -/
def d__law_foe_row : FDen := runFn 2 8 (sSeq (sAsg (dTup (dCons (dTup (dCons (dC (.int 0)) (dCons (dVar 0) dNil))) (dCons (dOwn (dLst dNil)) dNil))) (gTupD 2 (gsCons (gSet 2) (gsCons (gSet 3) gsNil)))) (sSeq (sFor (iRng1D (dCons (dVar 1) dNil)) (gSet 4) (sSeq (sAsg (dFl (dComp [7] (iAny (dTup (dCons (dC (.int 0)) (dCons (dVar 0) (dCons (dApp2 pMulT (dC (.int 2)) (dVar 0)) dNil))))) (gSet 7) (dTest (dApp2 (pInA true) (dVar 7) (dVar 2))) (dVar 7))) (gSet 5)) (sSeq (sExpr (dMeth isL pAppend (dVar 3) (dCons (dApp2 pIxA (dVar 5) (dC (.int 0))) dNil))) (sAsg (dApp (dPure d__law_near) (dCons (dVar 2) (dCons (dApp2 pIxA (dVar 5) (dC (.int 0))) dNil))) (gTupD 2 (gsCons (gSet 2) (gsCons (gSet 6) gsNil))))))) (sRet (dApp pTuple (dCons (dVar 3) dNil)))))
theorem len__law_foe_row : LenD 2 d__law_foe_row := lenD_run
theorem ok__law_foe_row (T : Txt K mg) : FnOk P w K mg base CX0 2 T.f__law_foe_row T.fd__law_foe_row ["n", "many"] (spD K 2 d__law_foe_row) :=
  fn_den T.F__law_foe_row sc__law_foe_row rfl rfl fun cdv A outer s H E hr => (xss_cons (xs_asg (xe_tup (xa_cons (xe_tup (xa_cons xe_int (xa_cons (xe_var (pv 0)) xa_nil))) (xa_cons (xl_own (xl_lst xa_nil)) xa_nil))) (xg_tup rfl (xgs_cons (xg_name (i := 2) sc__law_foe_row.nd rfl (.inr rfl)) (xgs_cons (xg_name (i := 3) sc__law_foe_row.nd rfl (.inl rfl)) xgs_nil)))) (xss_cons (xs_for PassesOwn.never rfl (xi_rng1 rfl T.z_range (xa_cons (xe_var (pv 1)) xa_nil)) (xg_name (i := 4) sc__law_foe_row.nd rfl (.inl rfl)) (xss_cons (xs_lcAsg (i := 5) (own := [("p", 7)]) (fun q => fl_ok q) rfl sc__law_foe_row.nd rfl rfl rfl (xi_any (xe_tup (xa_cons xe_int (xa_cons (xe_var (pv 0)) (xa_cons (xe_op op_mulT pr_mulT xe_int (xe_var (pv 0))) xa_nil))))) (blkOk_by (by rfl)) (fun _ _ _ _ _ => (pg_name (i := 7) sc__law_foe_row.nd rfl (.inl rfl))) (tgok_name (by decide)) (fun _ _ _ _ _ => (xts_one (xb_cmp (op_notInA (hu_of hr)) pr_inA (xe_var (pv 7)) (xe_var (pv 2)) rfl))) (fun _ _ _ _ _ => (xe_var (pv 7)))) (xss_cons (xs_expr (xe_bm PySem.F.plainAttrs_list PySem.F.slot_list_append PySem.F.type_list_append mt_append ty_list pr_append (xe_var (pv 3)) (xa_cons (xe_ixA (hu_of hr) (xe_var (pv 5)) xe_int) xa_nil))) (xss_one (xs_asg (xe_callF (fn_pure (ok__law_near T)) (lenD_pure len__law_near) (hr.mono (by decide)) rfl T.g__law_near T.F__law_near.kp (b__law_near T) (xa_cons (xe_var (pv 2)) (xa_cons (xe_ixA (hu_of hr) (xe_var (pv 5)) xe_int) xa_nil))) (xg_tup rfl (xgs_cons (xg_name (i := 2) sc__law_foe_row.nd rfl (.inr rfl)) (xgs_cons (xg_name (i := 6) sc__law_foe_row.nd rfl (.inl rfl)) xgs_nil)))))))) (xss_one (xs_ret (xe_callTy call_tupleX pr_tuple rfl T.z_tuple boot_tupleX (xa_cons (xe_var (pv 3)) xa_nil))))))
/-! _law_tower -/
def d__law_tower : Nat → FDen
  | 0 => fun _ _ => none
  | n + 1 => runFn 1 7 (sSeq (sPar 1 2 (dOwn (dLst dNil)) (dOwn (dLst dNil))) (sSeq (sFor (iRng1D (dCons (dVar 0) dNil)) (gSet 3) (sSeq (sAsg (dApp pLenD (dCons (dVar 1) dNil)) (gSet 4)) (sSeq (sFor (iAny (dApp (dPure (d__law_tower n)) (dCons (dVar 3) dNil))) (gSet 5) (sExpr (dMeth isL pAppend (dVar 1) (dCons (dApp pTuple (dCons (dFl (dComp [6] (iAny (dVar 5)) (gSet 6) bYes (dApp2 pAdd (dVar 4) (dVar 6)))) dNil)) dNil)))) (sExpr (dMeth isL pAppend (dVar 2) (dCons (dApp2 pSub (dApp pLenD (dCons (dVar 1) dNil)) (dC (.int 1))) dNil)))))) (sSeq (sExpr (dMeth isL pAppend (dVar 1) (dCons (dApp pTuple (dCons (dVar 2) dNil)) dNil))) (sRet (dApp pTuple (dCons (dVar 1) dNil))))))
theorem len__law_tower : ∀ n, LenD 1 (d__law_tower n)
  | 0 => lenD_none
  | _ + 1 => lenD_run
theorem ok__law_tower (T : Txt K mg) : ∀ n, FnOk P w K mg base CX0 (n + 0) T.f__law_tower T.fd__law_tower ["c"] (spD K 1 (d__law_tower n))
  | 0 => fn_zero
  | n + 1 => by
    have ih := ok__law_tower T n
    exact fn_den T.F__law_tower sc__law_tower rfl rfl fun cdv A outer s H E hr => (xss_cons (xs_par (i := 1) (j := 2) rfl sc__law_tower.nd rfl rfl (by decide) rfl rfl (xl_own (xl_lst xa_nil)) (xl_own (xl_lst xa_nil)) rfl) (xss_cons (xs_for PassesOwn.never rfl (xi_rng1 rfl T.z_range (xa_cons (xe_var (pv 0)) xa_nil)) (xg_name (i := 3) sc__law_tower.nd rfl (.inl rfl)) (xss_cons (xs_set (i := 4) sc__law_tower.nd rfl (.inr rfl) (xe_callB call_lenX pr_len rfl T.z_len boot_lenX (xa_cons (xe_var (pv 1)) xa_nil))) (xss_cons (xs_for PassesOwn.never rfl (xi_any (xe_callF (fn_pure ih) (lenD_pure (len__law_tower n)) (hr.mono (by omega)) rfl T.g__law_tower T.F__law_tower.kp (b__law_tower T) (xa_cons (xe_var (pv 3)) xa_nil))) (xg_name (i := 5) sc__law_tower.nd rfl (.inl rfl)) (xss_one (xs_expr (xe_bm PySem.F.plainAttrs_list PySem.F.slot_list_append PySem.F.type_list_append mt_append ty_list pr_append (xe_var (pv 1)) (xa_cons (xe_callTy call_tupleX pr_tuple rfl T.z_tuple boot_tupleX (xa_cons (xl_fl (xl_comp (own := [("j", 6)]) rfl sc__law_tower.nd (xi_any (xe_var (pv 5))) (blkOk_by (by rfl)) (fun _ _ _ _ _ => (pg_name (i := 6) sc__law_tower.nd rfl (.inl rfl))) (tgok_name (by decide)) (fun _ _ _ _ _ => xts_nil) (fun _ _ _ _ _ => (xe_op op_addD pr_add (xe_var (pv 4)) (xe_var (pv 6)))))) xa_nil)) xa_nil))))) (xss_one (xs_expr (xe_bm PySem.F.plainAttrs_list PySem.F.slot_list_append PySem.F.type_list_append mt_append ty_list pr_append (xe_var (pv 2)) (xa_cons (xe_op op_sub pr_sub (xe_callB call_lenX pr_len rfl T.z_len boot_lenX (xa_cons (xe_var (pv 1)) xa_nil)) xe_int) xa_nil))))))) (xss_cons (xs_expr (xe_bm PySem.F.plainAttrs_list PySem.F.slot_list_append PySem.F.type_list_append mt_append ty_list pr_append (xe_var (pv 1)) (xa_cons (xe_callTy call_tupleX pr_tuple rfl T.z_tuple boot_tupleX (xa_cons (xe_var (pv 2)) xa_nil)) xa_nil))) (xss_one (xs_ret (xe_callTy call_tupleX pr_tuple rfl T.z_tuple boot_tupleX (xa_cons (xe_var (pv 1)) xa_nil)))))))
/-! _law_colours -/
def d__law_colours : FDen := runFn 1 7 (sSeq (sAsg (dOwn (dLst dNil)) (gSet 1)) (sSeq (sFor (iAny (dVar 0)) (gSet 2) (sSeq (sAsg (dFl (dComp [6] (iAny (dVar 2)) (gSet 6) bYes (dApp2 pIxA (dVar 1) (dVar 6)))) (gSet 3)) (sSeq (sAsg (dC (.int 0)) (gSet 4)) (sSeq (sFor (iRng1D (dCons (dApp pLenD (dCons (dVar 3) dNil)) dNil)) (gSet 5) (sIf (dTest (dApp2 (pInA false) (dVar 4) (dVar 3))) (sAsg (dApp2 pAdd (dVar 4) (dC (.int 1))) (gSet 4)) sNil)) (sExpr (dMeth isL pAppend (dVar 1) (dCons (dVar 4) dNil))))))) (sRet (dVar 1))))
theorem len__law_colours : LenD 1 d__law_colours := lenD_run
theorem ok__law_colours (T : Txt K mg) : FnOk P w K mg base CX0 1 T.f__law_colours T.fd__law_colours ["ties"] (spD K 1 d__law_colours) :=
  fn_den T.F__law_colours sc__law_colours rfl rfl fun cdv A outer s H E hr => (xss_cons (xs_set (i := 1) sc__law_colours.nd rfl (.inr rfl) (xl_own (xl_lst xa_nil))) (xss_cons (xs_for PassesOwn.never rfl (xi_any (xe_var (pv 0))) (xg_name (i := 2) sc__law_colours.nd rfl (.inl rfl)) (xss_cons (xs_lcAsg (i := 3) (own := [("j", 6)]) (fun q => fl_ok q) rfl sc__law_colours.nd rfl rfl rfl (xi_any (xe_var (pv 2))) (blkOk_by (by rfl)) (fun _ _ _ _ _ => (pg_name (i := 6) sc__law_colours.nd rfl (.inl rfl))) (tgok_name (by decide)) (fun _ _ _ _ _ => xts_nil) (fun _ _ _ _ _ => (xe_ixA (hu_of hr) (xe_var (pv 1)) (xe_var (pv 6))))) (xss_cons (xs_set (i := 4) sc__law_colours.nd rfl (.inl rfl) xe_int) (xss_cons (xs_for PassesOwn.never rfl (xi_rng1 rfl T.z_range (xa_cons (xe_callB call_lenX pr_len rfl T.z_len boot_lenX (xa_cons (xe_var (pv 3)) xa_nil)) xa_nil)) (xg_name (i := 5) sc__law_colours.nd rfl (.inl rfl)) (xss_one (xs_if (xb_cmp (op_inA (hu_of hr)) pr_inA (xe_var (pv 4)) (xe_var (pv 3)) rfl) (xss_one (xs_set (i := 4) sc__law_colours.nd rfl (.inl rfl) (xe_op op_addD pr_add (xe_var (pv 4)) xe_int))) xss_nil))) (xss_one (xs_expr (xe_bm PySem.F.plainAttrs_list PySem.F.slot_list_append PySem.F.type_list_append mt_append ty_list pr_append (xe_var (pv 1)) (xa_cons (xe_var (pv 4)) xa_nil)))))))) (xss_one (xs_ret (xe_var (pv 1))))))
/-! _law_end -/
def d__law_end : FDen := runFn 2 8 (sSeq (sAsg (dOwn (dLApp pRep (dCons (dFl (dLst (dCons (dC (.int 0)) dNil))) (dCons (dVar 0) dNil)))) (gSet 2)) (sSeq (sFor (iAny (dVar 1)) (gSet 3) (sSeq (sAsg (dC (.int 0)) (gSet 4)) (sSeq (sFor (iRng1D (dCons (dVar 0) dNil)) (gSet 5) (sIf (dTest (dApp2 pLt (dApp2 pIxA (dVar 2) (dVar 5)) (dApp2 pIxA (dVar 2) (dVar 4)))) (sAsg (dVar 5) (gSet 4)) sNil)) (sPutA (dApp2 pAdd (dApp2 pIxA (dVar 2) (dVar 4)) (dVar 3)) (dVar 2) (dVar 4))))) (sSeq (sAsg (dC (.int 0)) (gSet 6)) (sSeq (sFor (iAny (dVar 2)) (gSet 7) (sAsg (dIf (dTest (dApp2 pGt (dVar 7) (dVar 6))) (dVar 7) (dVar 6)) (gSet 6))) (sRet (dVar 6))))))
theorem len__law_end : LenD 2 d__law_end := lenD_run
theorem ok__law_end (T : Txt K mg) : FnOk P w K mg base CX0 1 T.f__law_end T.fd__law_end ["m", "jobs"] (spD K 2 d__law_end) :=
  fn_den T.F__law_end sc__law_end rfl rfl fun cdv A outer s H E hr => (xss_cons (xs_set (i := 2) sc__law_end.nd rfl (.inl rfl) (xl_own (xl_op op_rep pr_rep (xl_fl (xl_lst (xa_cons xe_int xa_nil))) (xe_var (pv 0))))) (xss_cons (xs_for PassesOwn.never rfl (xi_any (xe_var (pv 1))) (xg_name (i := 3) sc__law_end.nd rfl (.inl rfl)) (xss_cons (xs_set (i := 4) sc__law_end.nd rfl (.inl rfl) xe_int) (xss_cons (xs_for PassesOwn.never rfl (xi_rng1 rfl T.z_range (xa_cons (xe_var (pv 0)) xa_nil)) (xg_name (i := 5) sc__law_end.nd rfl (.inl rfl)) (xss_one (xs_if (xb_cmp op_lt pr_cmpI (xe_ixA (hu_of hr) (xe_var (pv 2)) (xe_var (pv 5))) (xe_ixA (hu_of hr) (xe_var (pv 2)) (xe_var (pv 4))) (nomark _)) (xss_one (xs_set (i := 4) sc__law_end.nd rfl (.inl rfl) (xe_var (pv 5)))) xss_nil))) (xss_one (xs_putA (hu_of hr) (xe_op op_addD pr_add (xe_ixA (hu_of hr) (xe_var (pv 2)) (xe_var (pv 4))) (xe_var (pv 3))) (xe_var (pv 2)) (xe_var (pv 4))))))) (xss_cons (xs_set (i := 6) sc__law_end.nd rfl (.inl rfl) xe_int) (xss_cons (xs_for PassesOwn.never rfl (xi_any (xe_var (pv 2))) (xg_name (i := 7) sc__law_end.nd rfl (.inl rfl)) (xss_one (xs_set (i := 6) sc__law_end.nd rfl (.inl rfl) (xe_if (xb_cmp op_gt pr_cmpI (xe_var (pv 7)) (xe_var (pv 6)) (nomark _)) (xe_var (pv 7)) (xe_var (pv 6)))))) (xss_one (xs_ret (xe_var (pv 6))))))))
/-! _law_bins -/
def d__law_bins : FDen := runFn 2 5 (sSeq (sAsg (dTup (dCons (dC (.int 0)) (dCons (dC (.int 0)) dNil))) (gTupD 2 (gsCons (gSet 2) (gsCons (gSet 3) gsNil)))) (sSeq (sFor (iAny (dVar 1)) (gSet 4) (sSeq (sIf (dTest (dApp2 pGt (dVar 4) (dVar 3))) (sPar 2 3 (dApp2 pAdd (dVar 2) (dC (.int 1))) (dVar 0)) sNil) (sAsg (dApp2 pSub (dVar 3) (dVar 4)) (gSet 3)))) (sRet (dVar 2))))
theorem len__law_bins : LenD 2 d__law_bins := lenD_run
theorem ok__law_bins (T : Txt K mg) : FnOk P w K mg base CX0 1 T.f__law_bins T.fd__law_bins ["room", "things"] (spD K 2 d__law_bins) :=
  fn_den T.F__law_bins sc__law_bins rfl rfl fun cdv A outer s H E hr => (xss_cons (xs_asg (xe_tup (xa_cons xe_int (xa_cons xe_int xa_nil))) (xg_tup rfl (xgs_cons (xg_name (i := 2) sc__law_bins.nd rfl (.inl rfl)) (xgs_cons (xg_name (i := 3) sc__law_bins.nd rfl (.inl rfl)) xgs_nil)))) (xss_cons (xs_for PassesOwn.never rfl (xi_any (xe_var (pv 1))) (xg_name (i := 4) sc__law_bins.nd rfl (.inl rfl)) (xss_cons (xs_if (xb_cmp op_gt pr_cmpI (xe_var (pv 4)) (xe_var (pv 3)) (nomark _)) (xss_one (xs_par (i := 2) (j := 3) rfl sc__law_bins.nd rfl rfl (by decide) rfl rfl (xe_op op_addD pr_add (xe_var (pv 2)) xe_int) (xe_var (pv 0)) rfl)) xss_nil) (xss_one (xs_set (i := 3) sc__law_bins.nd rfl (.inl rfl) (xe_op op_sub pr_sub (xe_var (pv 3)) (xe_var (pv 4))))))) (xss_one (xs_ret (xe_var (pv 2))))))
/-! _law_row -/
def d__law_row : FDen := runFn 2 2 (sSeq (sIf (dTest (dApp2 (pEqD false) (dVar 0) (dC (.str "walk")))) (sRet (dApp2 pMulT (dTup (dCons (dC (.int 1)) (dCons (dC (.int 0)) dNil))) (dVar 1))) sNil) (sSeq (sIf (dTest (dApp2 (pEqD false) (dVar 0) (dC (.str "foe")))) (sRet (dApp (dPure d__law_foe_row) (dCons (dVar 1) (dCons (dC (.int 8)) dNil)))) sNil) (sSeq (sIf (dTest (dApp2 (pEqD false) (dVar 0) (dC (.str "jobs")))) (sRet (dApp2 pAdd (dApp2 pMulT (dTup (dCons (dC (.int 1)) dNil)) (dApp2 pMulT (dVar 1) (dApp2 pSub (dVar 1) (dC (.int 1))))) (dTup (dCons (dVar 1) dNil)))) sNil) (sSeq (sIf (dTest (dApp2 (pEqD false) (dVar 0) (dC (.str "bins")))) (sRet (dApp2 pMulT (dTup (dCons (dVar 1) (dCons (dC (.int 1)) dNil))) (dApp2 pMulT (dC (.int 2)) (dVar 1)))) sNil) (sRet (dApp (dPure (d__law_tower 8)) (dCons (dVar 1) dNil)))))))
theorem len__law_row : LenD 2 d__law_row := lenD_run
theorem ok__law_row (T : Txt K mg) : FnOk P w K mg base CX0 9 T.f__law_row T.fd__law_row ["word", "n"] (spD K 2 d__law_row) :=
  fn_den T.F__law_row sc__law_row rfl rfl fun cdv A outer s H E hr => (xss_cons (xs_if (xb_cmp (op_eqD (hu64 hr)) pr_eqD (xe_var (pv 0)) xe_str (nomark _)) (xss_one (xs_ret (xe_op op_mulT pr_mulT (xe_tup (xa_cons xe_int (xa_cons xe_int xa_nil))) (xe_var (pv 1))))) xss_nil) (xss_cons (xs_if (xb_cmp (op_eqD (hu64 hr)) pr_eqD (xe_var (pv 0)) xe_str (nomark _)) (xss_one (xs_ret (xe_callF (fn_pure (ok__law_foe_row T)) (lenD_pure len__law_foe_row) (hr.mono (by decide)) rfl T.g__law_foe_row T.F__law_foe_row.kp (b__law_foe_row T) (xa_cons (xe_var (pv 1)) (xa_cons xe_int xa_nil))))) xss_nil) (xss_cons (xs_if (xb_cmp (op_eqD (hu64 hr)) pr_eqD (xe_var (pv 0)) xe_str (nomark _)) (xss_one (xs_ret (xe_op op_addD pr_add (xe_op op_mulT pr_mulT (xe_tup (xa_cons xe_int xa_nil)) (xe_op op_mulT pr_mulT (xe_var (pv 1)) (xe_op op_sub pr_sub (xe_var (pv 1)) xe_int))) (xe_tup (xa_cons (xe_var (pv 1)) xa_nil))))) xss_nil) (xss_cons (xs_if (xb_cmp (op_eqD (hu64 hr)) pr_eqD (xe_var (pv 0)) xe_str (nomark _)) (xss_one (xs_ret (xe_op op_mulT pr_mulT (xe_tup (xa_cons (xe_var (pv 1)) (xa_cons xe_int xa_nil))) (xe_op op_mulT pr_mulT xe_int (xe_var (pv 1)))))) xss_nil) (xss_one (xs_ret (xe_callF (fn_pure (ok__law_tower T 8)) (lenD_pure (len__law_tower 8)) (hr.mono (by decide)) rfl T.g__law_tower T.F__law_tower.kp (b__law_tower T) (xa_cons (xe_var (pv 1)) xa_nil))))))))
/-! _law_pays -/
def d__law_pays : FDen := runFn 3 5 (sSeq (sIf (dTest (dApp2 (pEqD false) (dVar 0) (dC (.str "walk")))) (sRet (dTup (dCons (dApp (dPure d__law_near_pay) (dCons (dTup (dCons (dC (.int 0)) (dCons (dApp2 pAdd (dVar 1) (dC (.int 2))) dNil))) (dCons (dVar 2) dNil))) (dCons (dApp (dPure d__law_hindsight) (dCons (dTup (dCons (dC (.int 0)) (dCons (dApp2 pAdd (dVar 1) (dC (.int 2))) dNil))) (dCons (dVar 2) dNil))) dNil)))) sNil) (sSeq (sIf (dTest (dApp2 (pEqD false) (dVar 0) (dC (.str "foe")))) (sRet (dTup (dCons (dApp (dPure d__law_near_pay) (dCons (dTup (dCons (dC (.int 0)) (dCons (dVar 1) dNil))) (dCons (dVar 2) dNil))) (dCons (dApp (dPure d__law_hindsight) (dCons (dTup (dCons (dC (.int 0)) (dCons (dVar 1) dNil))) (dCons (dVar 2) dNil))) dNil)))) sNil) (sSeq (sIf (dTest (dApp2 (pEqD false) (dVar 0) (dC (.str "jobs")))) (sRet (dTup (dCons (dApp (dPure d__law_end) (dCons (dVar 1) (dCons (dVar 2) dNil))) (dCons (dApp2 pFdiv (dApp pSum (dCons (dVar 2) dNil)) (dVar 1)) dNil)))) sNil) (sSeq (sIf (dTest (dApp2 (pEqD false) (dVar 0) (dC (.str "bins")))) (sRet (dTup (dCons (dApp (dPure d__law_bins) (dCons (dApp2 pMulT (dC (.int 2)) (dVar 1)) (dCons (dVar 2) dNil))) (dCons (dApp2 pFdiv (dApp pSum (dCons (dVar 2) dNil)) (dApp2 pMulT (dC (.int 2)) (dVar 1))) dNil)))) sNil) (sSeq (sAsg (dC (.int 0)) (gSet 3)) (sSeq (sFor (iAny (dApp d__law_colours (dCons (dVar 2) dNil))) (gSet 4) (sAsg (dIf (dTest (dApp2 pGt (dVar 4) (dVar 3))) (dVar 4) (dVar 3)) (gSet 3))) (sRet (dTup (dCons (dApp2 pAdd (dVar 3) (dC (.int 1))) (dCons (dC (.int 2)) dNil))))))))))
theorem len__law_pays : LenD 3 d__law_pays := lenD_run
theorem ok__law_pays (T : Txt K mg) : FnOk P w K mg base CX0 3 T.f__law_pays T.fd__law_pays ["word", "n", "row"] (spD K 3 d__law_pays) :=
  fn_den T.F__law_pays sc__law_pays rfl rfl fun cdv A outer s H E hr => (xss_cons (xs_if (xb_cmp (op_eqD (hu64 hr)) pr_eqD (xe_var (pv 0)) xe_str (nomark _)) (xss_one (xs_ret (xe_tup (xa_cons (xe_callF (fn_pure (ok__law_near_pay T)) (lenD_pure len__law_near_pay) (hr.mono (by decide)) rfl T.g__law_near_pay T.F__law_near_pay.kp (b__law_near_pay T) (xa_cons (xe_tup (xa_cons xe_int (xa_cons (xe_op op_addD pr_add (xe_var (pv 1)) xe_int) xa_nil))) (xa_cons (xe_var (pv 2)) xa_nil))) (xa_cons (xe_callF (fn_pure (ok__law_hindsight T)) (lenD_pure len__law_hindsight) (hr.mono (by decide)) rfl T.g__law_hindsight T.F__law_hindsight.kp (b__law_hindsight T) (xa_cons (xe_tup (xa_cons xe_int (xa_cons (xe_op op_addD pr_add (xe_var (pv 1)) xe_int) xa_nil))) (xa_cons (xe_var (pv 2)) xa_nil))) xa_nil))))) xss_nil) (xss_cons (xs_if (xb_cmp (op_eqD (hu64 hr)) pr_eqD (xe_var (pv 0)) xe_str (nomark _)) (xss_one (xs_ret (xe_tup (xa_cons (xe_callF (fn_pure (ok__law_near_pay T)) (lenD_pure len__law_near_pay) (hr.mono (by decide)) rfl T.g__law_near_pay T.F__law_near_pay.kp (b__law_near_pay T) (xa_cons (xe_tup (xa_cons xe_int (xa_cons (xe_var (pv 1)) xa_nil))) (xa_cons (xe_var (pv 2)) xa_nil))) (xa_cons (xe_callF (fn_pure (ok__law_hindsight T)) (lenD_pure len__law_hindsight) (hr.mono (by decide)) rfl T.g__law_hindsight T.F__law_hindsight.kp (b__law_hindsight T) (xa_cons (xe_tup (xa_cons xe_int (xa_cons (xe_var (pv 1)) xa_nil))) (xa_cons (xe_var (pv 2)) xa_nil))) xa_nil))))) xss_nil) (xss_cons (xs_if (xb_cmp (op_eqD (hu64 hr)) pr_eqD (xe_var (pv 0)) xe_str (nomark _)) (xss_one (xs_ret (xe_tup (xa_cons (xe_callF (fn_pure (ok__law_end T)) (lenD_pure len__law_end) (hr.mono (by decide)) rfl T.g__law_end T.F__law_end.kp (b__law_end T) (xa_cons (xe_var (pv 1)) (xa_cons (xe_var (pv 2)) xa_nil))) (xa_cons (xe_op op_fdD pr_fdiv (xe_callB (cr_sumT rfl) pr_sum rfl T.z_sum boot_sumX (xa_cons (xe_var (pv 2)) xa_nil)) (xe_var (pv 1))) xa_nil))))) xss_nil) (xss_cons (xs_if (xb_cmp (op_eqD (hu64 hr)) pr_eqD (xe_var (pv 0)) xe_str (nomark _)) (xss_one (xs_ret (xe_tup (xa_cons (xe_callF (fn_pure (ok__law_bins T)) (lenD_pure len__law_bins) (hr.mono (by decide)) rfl T.g__law_bins T.F__law_bins.kp (b__law_bins T) (xa_cons (xe_op op_mulT pr_mulT xe_int (xe_var (pv 1))) (xa_cons (xe_var (pv 2)) xa_nil))) (xa_cons (xe_op op_fdD pr_fdiv (xe_callB (cr_sumT rfl) pr_sum rfl T.z_sum boot_sumX (xa_cons (xe_var (pv 2)) xa_nil)) (xe_op op_mulT pr_mulT xe_int (xe_var (pv 1)))) xa_nil))))) xss_nil) (xss_cons (xs_set (i := 3) sc__law_pays.nd rfl (.inl rfl) xe_int) (xss_cons (xs_for PassesOwn.never rfl (xi_any (xe_callF (ok__law_colours T) len__law_colours (hr.mono (by decide)) rfl T.g__law_colours T.F__law_colours.kp (b__law_colours T) (xa_cons (xe_var (pv 2)) xa_nil))) (xg_name (i := 4) sc__law_pays.nd rfl (.inl rfl)) (xss_one (xs_set (i := 3) sc__law_pays.nd rfl (.inl rfl) (xe_if (xb_cmp op_gt pr_cmpI (xe_var (pv 4)) (xe_var (pv 3)) (nomark _)) (xe_var (pv 4)) (xe_var (pv 3)))))) (xss_one (xs_ret (xe_tup (xa_cons (xe_op op_addD pr_add (xe_var (pv 3)) xe_int) (xa_cons xe_int xa_nil)))))))))))
/-! _law_told -/
def d__law_told : FDen := runFn 2 2 (sSeq (sIf (dTest (dApp2 (pEqD false) (dVar 0) (dC (.str "bins")))) (sRet (dTup (dCons (dApp2 pMulT (dC (.int 2)) (dVar 1)) (dCons (dApp2 pAdd (dVar 1) (dC (.int 1))) dNil)))) sNil) (sSeq (sIf (dTest (dApp2 (pEqD false) (dVar 0) (dC (.str "foe")))) (sRet (dTup (dCons (dApp2 pMulT (dC (.int 8)) (dVar 1)) (dCons (dApp2 pMulT (dC (.int 2)) (dVar 1)) dNil)))) sNil) (sSeq (sIf (dTest (dApp2 (pEqD false) (dVar 0) (dC (.str "jobs")))) (sRet (dTup (dCons (dApp2 pSub (dApp2 pMulT (dC (.int 2)) (dVar 1)) (dC (.int 1))) (dCons (dVar 1) dNil)))) sNil) (sRet (dIf (dTest (dApp2 (pEqD false) (dVar 0) (dC (.str "tower")))) (dTup (dCons (dApp2 pAdd (dVar 1) (dC (.int 1))) (dCons (dC (.int 2)) dNil))) (dTup (dCons (dApp2 pMulT (dC (.int 2)) (dVar 1)) (dCons (dApp2 pAdd (dVar 1) (dC (.int 1))) dNil))))))))
theorem len__law_told : LenD 2 d__law_told := lenD_run
theorem ok__law_told (T : Txt K mg) : FnOk P w K mg base CX0 1 T.f__law_told T.fd__law_told ["word", "n"] (spD K 2 d__law_told) :=
  fn_den T.F__law_told sc__law_told rfl rfl fun cdv A outer s H E hr => (xss_cons (xs_if (xb_cmp (op_eqD (hu64 hr)) pr_eqD (xe_var (pv 0)) xe_str (nomark _)) (xss_one (xs_ret (xe_tup (xa_cons (xe_op op_mulT pr_mulT xe_int (xe_var (pv 1))) (xa_cons (xe_op op_addD pr_add (xe_var (pv 1)) xe_int) xa_nil))))) xss_nil) (xss_cons (xs_if (xb_cmp (op_eqD (hu64 hr)) pr_eqD (xe_var (pv 0)) xe_str (nomark _)) (xss_one (xs_ret (xe_tup (xa_cons (xe_op op_mulT pr_mulT xe_int (xe_var (pv 1))) (xa_cons (xe_op op_mulT pr_mulT xe_int (xe_var (pv 1))) xa_nil))))) xss_nil) (xss_cons (xs_if (xb_cmp (op_eqD (hu64 hr)) pr_eqD (xe_var (pv 0)) xe_str (nomark _)) (xss_one (xs_ret (xe_tup (xa_cons (xe_op op_sub pr_sub (xe_op op_mulT pr_mulT xe_int (xe_var (pv 1))) xe_int) (xa_cons (xe_var (pv 1)) xa_nil))))) xss_nil) (xss_one (xs_ret (xe_if (xb_cmp (op_eqD (hu64 hr)) pr_eqD (xe_var (pv 0)) xe_str (nomark _)) (xe_tup (xa_cons (xe_op op_addD pr_add (xe_var (pv 1)) xe_int) (xa_cons xe_int xa_nil))) (xe_tup (xa_cons (xe_op op_mulT pr_mulT xe_int (xe_var (pv 1))) (xa_cons (xe_op op_addD pr_add (xe_var (pv 1)) xe_int) xa_nil)))))))))
/-! _law_is_ready -/
def d__law_is_ready : FDen := runFn 3 7 (sSeq (sAsg (dApp (dPure d__law_row) (dCons (dVar 0) (dCons (dVar 1) dNil))) (gSet 3)) (sSeq (sAsg (dApp (dPure d__law_pays) (dCons (dVar 0) (dCons (dVar 1) (dCons (dVar 3) dNil)))) (gSet 4)) (sSeq (sIf (dOr (dTest (dApp2 (pEqD true) (dVar 4) (dApp (dPure d__law_told) (dCons (dVar 0) (dCons (dVar 1) dNil))))) (dTest (dApp2 pGt (dApp2 pIxA (dVar 4) (dC (.int 1))) (dApp2 pIxA (dVar 4) (dC (.int 0)))))) (sRet (dC (.bl false))) sNil) (sSeq (sAsg (dIf (dTest (dVar 2)) (dApp (dPure d_ready_row) (dCons (dVar 0) (dCons (dVar 1) dNil))) (dApp (dPure d_ready_row) (dCons (dVar 0) (dCons (dVar 1) dNil)))) (gSet 5)) (sSeq (sAsg (dIf (dTest (dVar 2)) (dApp (dPure d_ready_pays) (dCons (dVar 0) (dCons (dVar 1) dNil))) (dApp (dPure d_ready_pays) (dCons (dVar 0) (dCons (dVar 1) dNil)))) (gSet 6)) (sRet (dAndV (dApp (dPure (d__law_is 6)) (dCons (dVar 5) (dCons (dVar 3) dNil))) (dApp (dPure (d__law_is 6)) (dCons (dVar 6) (dCons (dVar 4) dNil))))))))))
theorem len__law_is_ready : LenD 3 d__law_is_ready := lenD_run
theorem ok__law_is_ready (T : Txt K mg) : FnOk P w K mg base CX0 10 T.f__law_is_ready T.fd__law_is_ready ["word", "n", "named"] (spD K 3 d__law_is_ready) :=
  fn_den T.F__law_is_ready sc__law_is_ready rfl rfl fun cdv A outer s H E hr => (xss_cons (xs_set (i := 3) sc__law_is_ready.nd rfl (.inl rfl) (xe_callF (fn_pure (ok__law_row T)) (lenD_pure len__law_row) (hr.mono (by decide)) rfl T.g__law_row T.F__law_row.kp (b__law_row T) (xa_cons (xe_var (pv 0)) (xa_cons (xe_var (pv 1)) xa_nil)))) (xss_cons (xs_set (i := 4) sc__law_is_ready.nd rfl (.inl rfl) (xe_callF (fn_pure (ok__law_pays T)) (lenD_pure len__law_pays) (hr.mono (by decide)) rfl T.g__law_pays T.F__law_pays.kp (b__law_pays T) (xa_cons (xe_var (pv 0)) (xa_cons (xe_var (pv 1)) (xa_cons (xe_var (pv 3)) xa_nil))))) (xss_cons (xs_if (xb_w (xw_or (xb_cmp (op_neD (hu64 hr)) pr_neD (xe_var (pv 4)) (xe_callF (fn_pure (ok__law_told T)) (lenD_pure len__law_told) (hr.mono (by decide)) rfl T.g__law_told T.F__law_told.kp (b__law_told T) (xa_cons (xe_var (pv 0)) (xa_cons (xe_var (pv 1)) xa_nil))) (nomark _)) (xw_or1 (xb_cmp op_gt pr_cmpI (xe_ixA (hu_of hr) (xe_var (pv 4)) xe_int) (xe_ixA (hu_of hr) (xe_var (pv 4)) xe_int) (nomark _))))) (xss_one (xs_ret xe_bl)) xss_nil) (xss_cons (xs_set (i := 5) sc__law_is_ready.nd rfl (.inl rfl) (xe_if (xb_val (xe_var (pv 2))) (xe_callK0 (fn_pure (ok_ready_row T)) (lenD_pure len_ready_row) (hr.mono (by decide)) rfl T.g_ready_row T.F_ready_row.kp (kb_mk (p := 0) (q := 2) (ps := ["word", "n"]) (ks := ["word", "n"]) T.F_ready_row (by simp) fun _ _ _ _ _ _ us ws h1 h2 => match us, ws, h1, h2 with | [], [_, _], _, _ => rfl) (xk_cons (xe_var (pv 0)) (xk_cons (xe_var (pv 1)) xk_nil)) (llen_cons (llen_cons llen_nil))) (xe_callF (fn_pure (ok_ready_row T)) (lenD_pure len_ready_row) (hr.mono (by decide)) rfl T.g_ready_row T.F_ready_row.kp (b_ready_row T) (xa_cons (xe_var (pv 0)) (xa_cons (xe_var (pv 1)) xa_nil))))) (xss_cons (xs_set (i := 6) sc__law_is_ready.nd rfl (.inl rfl) (xe_if (xb_val (xe_var (pv 2))) (xe_callF (fn_pure (ok_ready_pays T)) (lenD_pure len_ready_pays) (hr.mono (by decide)) rfl T.g_ready_pays T.F_ready_pays.kp (b_ready_pays T) (xa_cons (xe_var (pv 0)) (xa_cons (xe_var (pv 1)) xa_nil))) (xe_callK0 (fn_pure (ok_ready_pays T)) (lenD_pure len_ready_pays) (hr.mono (by decide)) rfl T.g_ready_pays T.F_ready_pays.kp (kb_mk (p := 0) (q := 2) (ps := ["word", "n"]) (ks := ["word", "n"]) T.F_ready_pays (by simp) fun _ _ _ _ _ _ us ws h1 h2 => match us, ws, h1, h2 with | [], [_, _], _, _ => rfl) (xk_cons (xe_var (pv 0)) (xk_cons (xe_var (pv 1)) xk_nil)) (llen_cons (llen_cons llen_nil))))) (xss_one (xs_ret (xe_and (xe_callF (fn_pure (ok__law_is T 6)) (lenD_pure (len__law_is 6)) (hr.mono (by decide)) rfl T.g__law_is T.F__law_is.kp (b__law_is T) (xa_cons (xe_var (pv 5)) (xa_cons (xe_var (pv 3)) xa_nil))) (xe_one (xe_callF (fn_pure (ok__law_is T 6)) (lenD_pure (len__law_is 6)) (hr.mono (by decide)) rfl T.g__law_is T.F__law_is.kp (b__law_is T) (xa_cons (xe_var (pv 6)) (xa_cons (xe_var (pv 4)) xa_nil))))))))))))
/-! _law_is_two -/
def d__law_is_two : FDen := runFn 2 6 (sSeq (sIf (dOr (dNot (dTest (dIsi "tuple" (dVar 1)))) (dTest (dApp2 (pEqD true) (dApp pLenD (dCons (dVar 1) dNil)) (dApp pLenD (dCons (dVar 0) dNil))))) (sRet (dC (.bl false))) sNil) (sSeq (sIf (dNot (dTest (dApp pAll (dCons (dFl (dComp [5] (iAny (dVar 1)) (gSet 5) bYes (dOrV (dApp (dPure (d__law_is 6)) (dCons (dVar 5) (dCons (dC (.int 0)) dNil))) (dApp (dPure (d__law_is 6)) (dCons (dVar 5) (dCons (dC (.int 1)) dNil)))))) dNil)))) (sRet (dC (.bl false))) sNil) (sSeq (sFor (iEnumD (dCons (dVar 0) dNil)) (gTupD 2 (gsCons (gSet 2) (gsCons (gSet 3) gsNil))) (sFor (iAny (dVar 3)) (gSet 4) (sIf (dTest (dApp2 (pEqD false) (dApp2 pIxA (dVar 1) (dVar 4)) (dApp2 pIxA (dVar 1) (dVar 2)))) (sRet (dC (.bl false))) sNil))) (sRet (dC (.bl true))))))
theorem len__law_is_two : LenD 2 d__law_is_two := lenD_run
theorem ok__law_is_two (T : Txt K mg) : FnOk P w K mg base CX0 7 T.f__law_is_two T.fd__law_is_two ["ties", "told"] (spD K 2 d__law_is_two) :=
  fn_den T.F__law_is_two sc__law_is_two rfl rfl fun cdv A outer s H E hr => (xss_cons (xs_if (xb_w (xw_or (xb_not (xb_val (xe_isi rfl T.z_isinstance boot_isinstanceX (xe_var (pv 1)) (pe_tyN rfl T.z_tuple boot_tupleX) (by decide)))) (xw_or1 (xb_cmp (op_neD (hu64 hr)) pr_neD (xe_callB call_lenX pr_len rfl T.z_len boot_lenX (xa_cons (xe_var (pv 1)) xa_nil)) (xe_callB call_lenX pr_len rfl T.z_len boot_lenX (xa_cons (xe_var (pv 0)) xa_nil)) (nomark _))))) (xss_one (xs_ret xe_bl)) xss_nil) (xss_cons (xs_if (xb_not (xb_val (xe_callB (cr_all rfl) pr_allB rfl T.z_all boot_allX (xa_cons (xl_fl (xl_comp (own := [("c", 5)]) rfl sc__law_is_two.nd (xi_any (xe_var (pv 1))) (blkOk_by (by rfl)) (fun _ _ _ _ _ => (pg_name (i := 5) sc__law_is_two.nd rfl (.inl rfl))) (tgok_name (by decide)) (fun _ _ _ _ _ => xts_nil) (fun _ _ _ _ _ => (xe_or (xe_callF (fn_pure (ok__law_is T 6)) (lenD_pure (len__law_is 6)) (hr.mono (by decide)) rfl T.g__law_is T.F__law_is.kp (b__law_is T) (xa_cons (xe_var (pv 5)) (xa_cons xe_int xa_nil))) (xe_one (xe_callF (fn_pure (ok__law_is T 6)) (lenD_pure (len__law_is 6)) (hr.mono (by decide)) rfl T.g__law_is T.F__law_is.kp (b__law_is T) (xa_cons (xe_var (pv 5)) (xa_cons xe_int xa_nil)))))))) xa_nil)))) (xss_one (xs_ret xe_bl)) xss_nil) (xss_cons (xs_for PassesOwn.never rfl (xi_enum rfl T.z_enumerate (xa_cons (xe_var (pv 0)) xa_nil)) (xg_tup rfl (xgs_cons (xg_name (i := 2) sc__law_is_two.nd rfl (.inl rfl)) (xgs_cons (xg_name (i := 3) sc__law_is_two.nd rfl (.inl rfl)) xgs_nil))) (xss_one (xs_for PassesOwn.never rfl (xi_any (xe_var (pv 3))) (xg_name (i := 4) sc__law_is_two.nd rfl (.inl rfl)) (xss_one (xs_if (xb_cmp (op_eqD (hu64 hr)) pr_eqD (xe_ixA (hu_of hr) (xe_var (pv 1)) (xe_var (pv 4))) (xe_ixA (hu_of hr) (xe_var (pv 1)) (xe_var (pv 2))) (nomark _)) (xss_one (xs_ret xe_bl)) xss_nil))))) (xss_one (xs_ret xe_bl)))))
/-! _law_by_parts -/
def d__law_by_parts : FDen := runFn 2 8 (sSeq (sPar 2 3 (dApp (dPure d_ready_row) (dCons (dVar 0) (dCons (dVar 1) dNil))) (dApp (dPure d_ready_pays) (dCons (dVar 0) (dCons (dVar 1) dNil)))) (sSeq (sIf (dTest (dApp2 (pEqD false) (dVar 0) (dC (.str "walk")))) (sSeq (sAsg (dTup (dCons (dC (.int 0)) (dCons (dApp2 pAdd (dVar 1) (dC (.int 2))) dNil))) (gSet 4)) (sAsg (dTup (dCons (dApp (dPure d_greedy_trap) (dCons (dVar 4) (dCons (dVar 1) dNil))) (dCons (dApp (dPure d_paid_of) (dCons (dC (.str "near")) (dCons (dVar 4) (dCons (dVar 2) dNil)))) (dCons (dApp (dPure d_server_hindsight) (dCons (dVar 4) (dCons (dVar 2) dNil))) dNil)))) (gSet 5))) (sIf (dTest (dApp2 (pEqD false) (dVar 0) (dC (.str "foe")))) (sSeq (sAsg (dApp (dPure d_first_state) (dCons (dC (.int 2)) (dCons (dVar 1) dNil))) (gSet 4)) (sAsg (dTup (dCons (dApp (dPure d_server_foe) (dCons (dC (.str "near")) (dCons (dC (.int 2)) (dCons (dVar 1) (dCons (dC (.int 8)) dNil))))) (dCons (dApp (dPure d_paid_of) (dCons (dC (.str "near")) (dCons (dVar 4) (dCons (dVar 2) dNil)))) (dCons (dApp (dPure d_server_hindsight) (dCons (dVar 4) (dCons (dVar 2) dNil))) dNil)))) (gSet 5))) (sIf (dTest (dApp2 (pEqD false) (dVar 0) (dC (.str "jobs")))) (sSeq (sAsg (dIf (dTest (dApp2 pLt (dApp pLenD (dCons (dVar 2) dNil)) (dC (.int 11)))) (dApp (dPure d_load_hindsight) (dCons (dVar 1) (dCons (dVar 2) dNil))) (dVar 1)) (gSet 6)) (sAsg (dTup (dCons (dApp (dPure d_load_foe) (dCons (dVar 1) dNil)) (dCons (dApp (dPure d_giving_end) (dCons (dVar 1) (dCons (dVar 2) (dCons (dApp (dPure d_list_giving) (dCons (dVar 1) (dCons (dVar 2) dNil))) dNil)))) (dCons (dVar 6) dNil)))) (gSet 5))) (sIf (dTest (dApp2 (pEqD false) (dVar 0) (dC (.str "bins")))) (sSeq (sAsg (dIf (dTest (dApp2 pLt (dApp pLenD (dCons (dVar 2) dNil)) (dC (.int 11)))) (dApp (dPure d_bin_hindsight) (dCons (dApp2 pMulT (dC (.int 2)) (dVar 1)) (dCons (dVar 2) dNil))) (dApp2 pAdd (dVar 1) (dC (.int 1)))) (gSet 6)) (sAsg (dTup (dCons (dApp (dPure d_bin_foe) (dCons (dVar 1) dNil)) (dCons (dApp pLenD (dCons (dApp (dPure d_next_fit) (dCons (dApp2 pMulT (dC (.int 2)) (dVar 1)) (dCons (dVar 2) dNil))) dNil)) (dCons (dVar 6) dNil)))) (gSet 5))) (sSeq (sIf (dOr (dNot (dTest (dApp (dPure (d__law_is 6)) (dCons (dApp (dPure d_is_forest) (dCons (dVar 2) dNil)) (dCons (dC (.bl true)) dNil))))) (dNot (dTest (dApp (dPure d__law_is_two) (dCons (dVar 2) (dCons (dApp (dPure d_two_colours) (dCons (dVar 2) dNil)) dNil)))))) (sRet (dC (.bl false))) sNil) (sAsg (dTup (dCons (dApp (dPure (d_colour_tower 8)) (dCons (dVar 1) dNil)) (dCons (dApp2 pAdd (dApp pMax (dCons (dFl (dComp [7] (iAny (dApp (dPure d_least_colours) (dCons (dVar 2) dNil))) (gSet 7) bYes (dApp pInt (dCons (dVar 7) dNil)))) dNil)) (dC (.int 1))) (dCons (dC (.int 2)) dNil)))) (gSet 5))))))) (sRet (dAndV (dApp (dPure (d__law_is 6)) (dCons (dVar 5) (dCons (dApp2 pAdd (dTup (dCons (dApp (dPure d__law_row) (dCons (dVar 0) (dCons (dVar 1) dNil))) dNil)) (dApp (dPure d__law_told) (dCons (dVar 0) (dCons (dVar 1) dNil)))) dNil))) (dApp (dPure (d__law_is 6)) (dCons (dVar 3) (dCons (dSlA (dVar 5) (oYes (dC (.int 1))) oNo) dNil)))))))
theorem len__law_by_parts : LenD 2 d__law_by_parts := lenD_run
theorem ok__law_by_parts (T : Txt K mg) : FnOk P w K mg base CX0 10 T.f__law_by_parts T.fd__law_by_parts ["word", "n"] (spD K 2 d__law_by_parts) :=
  fn_den T.F__law_by_parts sc__law_by_parts rfl rfl fun cdv A outer s H E hr => (xss_cons (xs_par (i := 2) (j := 3) rfl sc__law_by_parts.nd rfl rfl (by decide) rfl rfl (xe_callF (fn_pure (ok_ready_row T)) (lenD_pure len_ready_row) (hr.mono (by decide)) rfl T.g_ready_row T.F_ready_row.kp (b_ready_row T) (xa_cons (xe_var (pv 0)) (xa_cons (xe_var (pv 1)) xa_nil))) (xe_callF (fn_pure (ok_ready_pays T)) (lenD_pure len_ready_pays) (hr.mono (by decide)) rfl T.g_ready_pays T.F_ready_pays.kp (b_ready_pays T) (xa_cons (xe_var (pv 0)) (xa_cons (xe_var (pv 1)) xa_nil))) rfl) (xss_cons (xs_if (xb_cmp (op_eqD (hu64 hr)) pr_eqD (xe_var (pv 0)) xe_str (nomark _)) (xss_cons (xs_set (i := 4) sc__law_by_parts.nd rfl (.inl rfl) (xe_tup (xa_cons xe_int (xa_cons (xe_op op_addD pr_add (xe_var (pv 1)) xe_int) xa_nil)))) (xss_one (xs_set (i := 5) sc__law_by_parts.nd rfl (.inl rfl) (xe_tup (xa_cons (xe_callF (fn_pure (ok_greedy_trap T)) (lenD_pure len_greedy_trap) (hr.mono (by decide)) rfl T.g_greedy_trap T.F_greedy_trap.kp (b_greedy_trap T) (xa_cons (xe_var (pv 4)) (xa_cons (xe_var (pv 1)) xa_nil))) (xa_cons (xe_callF (fn_pure (ok_paid_of T)) (lenD_pure len_paid_of) (hr.mono (by decide)) rfl T.g_paid_of T.F_paid_of.kp (b_paid_of T) (xa_cons xe_str (xa_cons (xe_var (pv 4)) (xa_cons (xe_var (pv 2)) xa_nil)))) (xa_cons (xe_callF (fn_pure (ok_server_hindsight T)) (lenD_pure len_server_hindsight) (hr.mono (by decide)) rfl T.g_server_hindsight T.F_server_hindsight.kp (b_server_hindsight T) (xa_cons (xe_var (pv 4)) (xa_cons (xe_var (pv 2)) xa_nil))) xa_nil))))))) (xss_one (xs_if (xb_cmp (op_eqD (hu64 hr)) pr_eqD (xe_var (pv 0)) xe_str (nomark _)) (xss_cons (xs_set (i := 4) sc__law_by_parts.nd rfl (.inl rfl) (xe_callF (fn_pure (ok_first_state T)) (lenD_pure len_first_state) (hr.mono (by decide)) rfl T.g_first_state T.F_first_state.kp (b_first_state T) (xa_cons xe_int (xa_cons (xe_var (pv 1)) xa_nil)))) (xss_one (xs_set (i := 5) sc__law_by_parts.nd rfl (.inl rfl) (xe_tup (xa_cons (xe_callF (fn_pure (ok_server_foe T)) (lenD_pure len_server_foe) (hr.mono (by decide)) rfl T.g_server_foe T.F_server_foe.kp (b_server_foe T) (xa_cons xe_str (xa_cons xe_int (xa_cons (xe_var (pv 1)) (xa_cons xe_int xa_nil))))) (xa_cons (xe_callF (fn_pure (ok_paid_of T)) (lenD_pure len_paid_of) (hr.mono (by decide)) rfl T.g_paid_of T.F_paid_of.kp (b_paid_of T) (xa_cons xe_str (xa_cons (xe_var (pv 4)) (xa_cons (xe_var (pv 2)) xa_nil)))) (xa_cons (xe_callF (fn_pure (ok_server_hindsight T)) (lenD_pure len_server_hindsight) (hr.mono (by decide)) rfl T.g_server_hindsight T.F_server_hindsight.kp (b_server_hindsight T) (xa_cons (xe_var (pv 4)) (xa_cons (xe_var (pv 2)) xa_nil))) xa_nil))))))) (xss_one (xs_if (xb_cmp (op_eqD (hu64 hr)) pr_eqD (xe_var (pv 0)) xe_str (nomark _)) (xss_cons (xs_set (i := 6) sc__law_by_parts.nd rfl (.inl rfl) (xe_if (xb_cmp op_lt pr_cmpI (xe_callB call_lenX pr_len rfl T.z_len boot_lenX (xa_cons (xe_var (pv 2)) xa_nil)) xe_int (nomark _)) (xe_callF (fn_pure (ok_load_hindsight T)) (lenD_pure len_load_hindsight) (hr.mono (by decide)) rfl T.g_load_hindsight T.F_load_hindsight.kp (b_load_hindsight T) (xa_cons (xe_var (pv 1)) (xa_cons (xe_var (pv 2)) xa_nil))) (xe_var (pv 1)))) (xss_one (xs_set (i := 5) sc__law_by_parts.nd rfl (.inl rfl) (xe_tup (xa_cons (xe_callF (fn_pure (ok_load_foe T)) (lenD_pure len_load_foe) (hr.mono (by decide)) rfl T.g_load_foe T.F_load_foe.kp (b_load_foe T) (xa_cons (xe_var (pv 1)) xa_nil)) (xa_cons (xe_callF (fn_pure (ok_giving_end T)) (lenD_pure len_giving_end) (hr.mono (by decide)) rfl T.g_giving_end T.F_giving_end.kp (b_giving_end T) (xa_cons (xe_var (pv 1)) (xa_cons (xe_var (pv 2)) (xa_cons (xe_callF (fn_pure (ok_list_giving T)) (lenD_pure len_list_giving) (hr.mono (by decide)) rfl T.g_list_giving T.F_list_giving.kp (b_list_giving T) (xa_cons (xe_var (pv 1)) (xa_cons (xe_var (pv 2)) xa_nil))) xa_nil)))) (xa_cons (xe_var (pv 6)) xa_nil))))))) (xss_one (xs_if (xb_cmp (op_eqD (hu64 hr)) pr_eqD (xe_var (pv 0)) xe_str (nomark _)) (xss_cons (xs_set (i := 6) sc__law_by_parts.nd rfl (.inl rfl) (xe_if (xb_cmp op_lt pr_cmpI (xe_callB call_lenX pr_len rfl T.z_len boot_lenX (xa_cons (xe_var (pv 2)) xa_nil)) xe_int (nomark _)) (xe_callF (fn_pure (ok_bin_hindsight T)) (lenD_pure len_bin_hindsight) (hr.mono (by decide)) rfl T.g_bin_hindsight T.F_bin_hindsight.kp (b_bin_hindsight T) (xa_cons (xe_op op_mulT pr_mulT xe_int (xe_var (pv 1))) (xa_cons (xe_var (pv 2)) xa_nil))) (xe_op op_addD pr_add (xe_var (pv 1)) xe_int))) (xss_one (xs_set (i := 5) sc__law_by_parts.nd rfl (.inl rfl) (xe_tup (xa_cons (xe_callF (fn_pure (ok_bin_foe T)) (lenD_pure len_bin_foe) (hr.mono (by decide)) rfl T.g_bin_foe T.F_bin_foe.kp (b_bin_foe T) (xa_cons (xe_var (pv 1)) xa_nil)) (xa_cons (xe_callB call_lenX pr_len rfl T.z_len boot_lenX (xa_cons (xe_callF (fn_pure (ok_next_fit T)) (lenD_pure len_next_fit) (hr.mono (by decide)) rfl T.g_next_fit T.F_next_fit.kp (b_next_fit T) (xa_cons (xe_op op_mulT pr_mulT xe_int (xe_var (pv 1))) (xa_cons (xe_var (pv 2)) xa_nil))) xa_nil)) (xa_cons (xe_var (pv 6)) xa_nil))))))) (xss_cons (xs_if (xb_w (xw_or (xb_not (xb_val (xe_callF (fn_pure (ok__law_is T 6)) (lenD_pure (len__law_is 6)) (hr.mono (by decide)) rfl T.g__law_is T.F__law_is.kp (b__law_is T) (xa_cons (xe_callF (fn_pure (ok_is_forest T)) (lenD_pure len_is_forest) (hr.mono (by decide)) rfl T.g_is_forest T.F_is_forest.kp (b_is_forest T) (xa_cons (xe_var (pv 2)) xa_nil)) (xa_cons xe_bl xa_nil))))) (xw_or1 (xb_not (xb_val (xe_callF (fn_pure (ok__law_is_two T)) (lenD_pure len__law_is_two) (hr.mono (by decide)) rfl T.g__law_is_two T.F__law_is_two.kp (b__law_is_two T) (xa_cons (xe_var (pv 2)) (xa_cons (xe_callF (fn_pure (ok_two_colours T)) (lenD_pure len_two_colours) (hr.mono (by decide)) rfl T.g_two_colours T.F_two_colours.kp (b_two_colours T) (xa_cons (xe_var (pv 2)) xa_nil)) xa_nil)))))))) (xss_one (xs_ret xe_bl)) xss_nil) (xss_one (xs_set (i := 5) sc__law_by_parts.nd rfl (.inl rfl) (xe_tup (xa_cons (xe_callF (fn_pure (ok_colour_tower T 8)) (lenD_pure (len_colour_tower 8)) (hr.mono (by decide)) rfl T.g_colour_tower T.F_colour_tower.kp (b_colour_tower T) (xa_cons (xe_var (pv 1)) xa_nil)) (xa_cons (xe_op op_addD pr_add (xe_callB (call_maxX rfl (hu100 hr)) pr_max rfl T.z_max boot_maxX (xa_cons (xl_fl (xl_comp (own := [("c", 7)]) rfl sc__law_by_parts.nd (xi_any (xe_callF (fn_pure (ok_least_colours T)) (lenD_pure len_least_colours) (hr.mono (by decide)) rfl T.g_least_colours T.F_least_colours.kp (b_least_colours T) (xa_cons (xe_var (pv 2)) xa_nil))) (blkOk_by (by rfl)) (fun _ _ _ _ _ => (pg_name (i := 7) sc__law_by_parts.nd rfl (.inl rfl))) (tgok_name (by decide)) (fun _ _ _ _ _ => xts_nil) (fun _ _ _ _ _ => (xe_callTy call_int1 pr_int rfl T.z_int boot_intX (xa_cons (xe_var (pv 7)) xa_nil))))) xa_nil)) xe_int) (xa_cons xe_int xa_nil)))))))))))))) (xss_one (xs_ret (xe_and (xe_callF (fn_pure (ok__law_is T 6)) (lenD_pure (len__law_is 6)) (hr.mono (by decide)) rfl T.g__law_is T.F__law_is.kp (b__law_is T) (xa_cons (xe_var (pv 5)) (xa_cons (xe_op op_addD pr_add (xe_tup (xa_cons (xe_callF (fn_pure (ok__law_row T)) (lenD_pure len__law_row) (hr.mono (by decide)) rfl T.g__law_row T.F__law_row.kp (b__law_row T) (xa_cons (xe_var (pv 0)) (xa_cons (xe_var (pv 1)) xa_nil))) xa_nil)) (xe_callF (fn_pure (ok__law_told T)) (lenD_pure len__law_told) (hr.mono (by decide)) rfl T.g__law_told T.F__law_told.kp (b__law_told T) (xa_cons (xe_var (pv 0)) (xa_cons (xe_var (pv 1)) xa_nil)))) xa_nil))) (xe_one (xe_callF (fn_pure (ok__law_is T 6)) (lenD_pure (len__law_is 6)) (hr.mono (by decide)) rfl T.g__law_is T.F__law_is.kp (b__law_is T) (xa_cons (xe_var (pv 3)) (xa_cons (xe_slA (xe_var (pv 5)) (xo_yes xe_int) xo_no) xa_nil)))))))))
/-! _law_are_examples_right -/
def d__law_are_examples_right : FDen := runFn 0 2 (sSeq (sIf (dNot (dTest (dApp (dPure (d__law_is 6)) (dCons (dApp (dPure d_ready_row) (dCons (dC (.str "walk")) (dCons (dC (.int 2)) dNil))) (dCons (dTup (dCons (dC (.int 1)) (dCons (dC (.int 0)) (dCons (dC (.int 1)) (dCons (dC (.int 0)) dNil))))) dNil))))) (sRet (dC (.bl false))) sNil) (sSeq (sAsg (dApp pTuple (dCons (dFl (dComp [1] (iAny (dApp (dPure d_ready_rows) dNil)) (gSet 1) bYes (dApp (dPure d_ready_pays) (dCons (dVar 1) (dCons (dC (.int 3)) dNil))))) dNil)) (gSet 0)) (sRet (dApp (dPure (d__law_is 6)) (dCons (dVar 0) (dCons (dTup (dCons (dTup (dCons (dC (.int 6)) (dCons (dC (.int 4)) dNil))) (dCons (dTup (dCons (dC (.int 24)) (dCons (dC (.int 6)) dNil))) (dCons (dTup (dCons (dC (.int 5)) (dCons (dC (.int 3)) dNil))) (dCons (dTup (dCons (dC (.int 4)) (dCons (dC (.int 2)) dNil))) (dCons (dTup (dCons (dC (.int 6)) (dCons (dC (.int 4)) dNil))) dNil)))))) dNil))))))
theorem len__law_are_examples_right : LenD 0 d__law_are_examples_right := lenD_run
theorem ok__law_are_examples_right (T : Txt K mg) : FnOk P w K mg base CX0 10 T.f__law_are_examples_right T.fd__law_are_examples_right [] (spD K 0 d__law_are_examples_right) :=
  fn_den T.F__law_are_examples_right sc__law_are_examples_right rfl rfl fun cdv A outer s H E hr => (xss_cons (xs_if (xb_not (xb_val (xe_callF (fn_pure (ok__law_is T 6)) (lenD_pure (len__law_is 6)) (hr.mono (by decide)) rfl T.g__law_is T.F__law_is.kp (b__law_is T) (xa_cons (xe_callF (fn_pure (ok_ready_row T)) (lenD_pure len_ready_row) (hr.mono (by decide)) rfl T.g_ready_row T.F_ready_row.kp (b_ready_row T) (xa_cons xe_str (xa_cons xe_int xa_nil))) (xa_cons (xe_tup (xa_cons xe_int (xa_cons xe_int (xa_cons xe_int (xa_cons xe_int xa_nil))))) xa_nil))))) (xss_one (xs_ret xe_bl)) xss_nil) (xss_cons (xs_set (i := 0) sc__law_are_examples_right.nd rfl (.inl rfl) (xe_callTy call_tupleX pr_tuple rfl T.z_tuple boot_tupleX (xa_cons (xl_fl (xl_comp (own := [("word", 1)]) rfl sc__law_are_examples_right.nd (xi_any (xe_callF0 (fn_pure (ok_ready_rows T)) (lenD_pure len_ready_rows) (hr.mono (by decide)) rfl T.g_ready_rows T.F_ready_rows.kp (b_ready_rows T))) (blkOk_by (by rfl)) (fun _ _ _ _ _ => (pg_name (i := 1) sc__law_are_examples_right.nd rfl (.inl rfl))) (tgok_name (by decide)) (fun _ _ _ _ _ => xts_nil) (fun _ _ _ _ _ => (xe_callF (fn_pure (ok_ready_pays T)) (lenD_pure len_ready_pays) (hr.mono (by decide)) rfl T.g_ready_pays T.F_ready_pays.kp (b_ready_pays T) (xa_cons (xe_var (pv 1)) (xa_cons xe_int xa_nil)))))) xa_nil))) (xss_one (xs_ret (xe_callF (fn_pure (ok__law_is T 6)) (lenD_pure (len__law_is 6)) (hr.mono (by decide)) rfl T.g__law_is T.F__law_is.kp (b__law_is T) (xa_cons (xe_var (pv 0)) (xa_cons (xe_tup (xa_cons (xe_tup (xa_cons xe_int (xa_cons xe_int xa_nil))) (xa_cons (xe_tup (xa_cons xe_int (xa_cons xe_int xa_nil))) (xa_cons (xe_tup (xa_cons xe_int (xa_cons xe_int xa_nil))) (xa_cons (xe_tup (xa_cons xe_int (xa_cons xe_int xa_nil))) (xa_cons (xe_tup (xa_cons xe_int (xa_cons xe_int xa_nil))) xa_nil)))))) xa_nil)))))))
/-! law -/
def d_law : FDen := runFn 1 7 (sSeq (sAsg (dApp d__law_bag (dCons (dVar 0) dNil)) (gSet 1)) (sSeq (sAsg (dTup (dCons (dC (.str "bins")) (dCons (dC (.str "foe")) (dCons (dC (.str "jobs")) (dCons (dC (.str "tower")) (dCons (dC (.str "walk")) dNil)))))) (gSet 2)) (sSeq (sIf (dNot (dTest (dApp (dPure (d__law_is 6)) (dCons (dApp (dPure d_ready_rows) dNil) (dCons (dVar 2) dNil))))) (sRet (dC (.bl false))) sNil) (sSeq (sAsg (dOwn (dLst dNil)) (gSet 3)) (sSeq (sFor (iAny (dVar 2)) (gSet 4) (sExpr (dMeth isL pExtend (dVar 3) (dCons (dFl (dComp [6] (iRng2D (dCons (dC (.int 1)) (dCons (dIf (dTest (dApp2 (pInA false) (dVar 4) (dTup (dCons (dC (.str "jobs")) (dCons (dC (.str "tower")) dNil))))) (dC (.int 7)) (dC (.int 9))) dNil))) (gSet 6) bYes (dTup (dCons (dVar 4) (dCons (dVar 6) dNil))))) dNil)))) (sSeq (sFor (iRng1D (dCons (dApp pLenD (dCons (dVar 3) dNil)) dNil)) (gSet 5) (sSeq (sAsg (dMeth isL pPopAt (dVar 3) (dCons (dApp d__law_draw (dCons (dVar 1) (dCons (dApp pLenD (dCons (dVar 3) dNil)) dNil))) dNil)) (gTupD 2 (gsCons (gSet 4) (gsCons (gSet 6) gsNil)))) (sSeq (sIf (dNot (dTest (dApp (dPure d__law_is_ready) (dCons (dVar 4) (dCons (dVar 6) (dCons (dApp2 (pEqD false) (dApp d__law_draw (dCons (dVar 1) (dCons (dC (.int 2)) dNil))) (dC (.int 0))) dNil)))))) (sRet (dC (.bl false))) sNil) (sIf (dAnd (dTest (dApp2 (pEqD false) (dApp d__law_draw (dCons (dVar 1) (dCons (dC (.int 6)) dNil))) (dC (.int 0)))) (dNot (dTest (dApp (dPure d__law_is_ready) (dCons (dVar 4) (dCons (dVar 6) (dCons (dApp2 (pEqD false) (dApp d__law_draw (dCons (dVar 1) (dCons (dC (.int 2)) dNil))) (dC (.int 0))) dNil))))))) (sRet (dC (.bl false))) sNil)))) (sSeq (sFor (iAny (dVar 2)) (gSet 4) (sSeq (sAsg (dApp2 pAdd (dC (.int 1)) (dApp d__law_draw (dCons (dVar 1) (dCons (dIf (dTest (dApp2 (pInA false) (dVar 4) (dTup (dCons (dC (.str "jobs")) (dCons (dC (.str "tower")) dNil))))) (dC (.int 6)) (dC (.int 8))) dNil)))) (gSet 6)) (sSeq (sIf (dOr (dNot (dTest (dApp (dPure d__law_by_parts) (dCons (dVar 4) (dCons (dVar 6) dNil))))) (dOr (dNot (dTest (dApp (dPure d__law_is_ready) (dCons (dVar 4) (dCons (dVar 6) (dCons (dC (.bl true)) dNil)))))) (dNot (dTest (dApp (dPure d__law_is_ready) (dCons (dVar 4) (dCons (dVar 6) (dCons (dC (.bl false)) dNil)))))))) (sRet (dC (.bl false))) sNil) (sIf (dAnd (dTest (dApp2 (pInA false) (dVar 4) (dTup (dCons (dC (.str "jobs")) (dCons (dC (.str "bins")) dNil))))) (dNot (dTest (dApp (dPure d__law_by_parts) (dCons (dVar 4) (dCons (dApp2 pAdd (dC (.int 1)) (dApp d__law_draw (dCons (dVar 1) (dCons (dC (.int 2)) dNil)))) dNil)))))) (sRet (dC (.bl false))) sNil)))) (sRet (dAndV (dApp (dPure (d__law_is 6)) (dCons (dApp (dPure d_ready_rows) dNil) (dCons (dVar 2) dNil))) (dApp (dPure d__law_are_examples_right) dNil))))))))))
theorem len_law : LenD 1 d_law := lenD_run
theorem ok_law (T : Txt K mg) : FnOk P w K mg base CX0 11 T.f_law T.fd_law ["script"] (spD K 1 d_law) :=
  fn_den T.F_law sc_law rfl rfl fun cdv A outer s H E hr => (xss_cons (xs_set (i := 1) sc_law.nd rfl (.inl rfl) (xe_callF (ok__law_bag T) len__law_bag (hr.mono (by decide)) rfl T.g__law_bag T.F__law_bag.kp (b__law_bag T) (xa_cons (xe_var (pv 0)) xa_nil))) (xss_cons (xs_set (i := 2) sc_law.nd rfl (.inl rfl) (xe_tup (xa_cons xe_str (xa_cons xe_str (xa_cons xe_str (xa_cons xe_str (xa_cons xe_str xa_nil))))))) (xss_cons (xs_if (xb_not (xb_val (xe_callF (fn_pure (ok__law_is T 6)) (lenD_pure (len__law_is 6)) (hr.mono (by decide)) rfl T.g__law_is T.F__law_is.kp (b__law_is T) (xa_cons (xe_callF0 (fn_pure (ok_ready_rows T)) (lenD_pure len_ready_rows) (hr.mono (by decide)) rfl T.g_ready_rows T.F_ready_rows.kp (b_ready_rows T)) (xa_cons (xe_var (pv 2)) xa_nil))))) (xss_one (xs_ret xe_bl)) xss_nil) (xss_cons (xs_set (i := 3) sc_law.nd rfl (.inl rfl) (xl_own (xl_lst xa_nil))) (xss_cons (xs_for PassesOwn.never rfl (xi_any (xe_var (pv 2))) (xg_name (i := 4) sc_law.nd rfl (.inr rfl)) (xss_one (xs_expr (xe_bm PySem.F.plainAttrs_list PySem.F.slot_list_extend PySem.F.type_list_extend mt_extend ty_list pr_extend (xe_var (pv 3)) (xa_cons (xl_fl (xl_comp (own := [("n", 6)]) rfl sc_law.nd (xi_rng2 rfl T.z_range (xa_cons xe_int (xa_cons (xe_if (xb_cmp (op_inA (hu_of hr)) pr_inA (xe_var (pv 4)) (xe_tup (xa_cons xe_str (xa_cons xe_str xa_nil))) rfl) xe_int xe_int) xa_nil))) (blkOk_by (by rfl)) (fun _ _ _ _ _ => (pg_name (i := 6) sc_law.nd rfl (.inl rfl))) (tgok_name (by decide)) (fun _ _ _ _ _ => xts_nil) (fun _ _ _ _ _ => (xe_tup (xa_cons (xe_var (pv 4)) (xa_cons (xe_var (pv 6)) xa_nil)))))) xa_nil))))) (xss_cons (xs_for PassesOwn.never rfl (xi_rng1 rfl T.z_range (xa_cons (xe_callB call_lenX pr_len rfl T.z_len boot_lenX (xa_cons (xe_var (pv 3)) xa_nil)) xa_nil)) (xg_name (i := 5) sc_law.nd rfl (.inl rfl)) (xss_cons (xs_asg (xe_bm PySem.F.plainAttrs_list PySem.F.slot_list_pop PySem.F.type_list_pop mt_popAt ty_list pr_popAt (xe_var (pv 3)) (xa_cons (xe_callF (ok__law_draw T) len__law_draw (hr.mono (by decide)) rfl T.g__law_draw T.F__law_draw.kp (b__law_draw T) (xa_cons (xe_var (pv 1)) (xa_cons (xe_callB call_lenX pr_len rfl T.z_len boot_lenX (xa_cons (xe_var (pv 3)) xa_nil)) xa_nil))) xa_nil)) (xg_tup rfl (xgs_cons (xg_name (i := 4) sc_law.nd rfl (.inr rfl)) (xgs_cons (xg_name (i := 6) sc_law.nd rfl (.inl rfl)) xgs_nil)))) (xss_cons (xs_if (xb_not (xb_val (xe_callF (fn_pure (ok__law_is_ready T)) (lenD_pure len__law_is_ready) (hr.mono (by decide)) rfl T.g__law_is_ready T.F__law_is_ready.kp (b__law_is_ready T) (xa_cons (xe_var (pv 4)) (xa_cons (xe_var (pv 6)) (xa_cons (xe_cmp (op_eqD (hu64 hr)) pr_eqD (xe_callF (ok__law_draw T) len__law_draw (hr.mono (by decide)) rfl T.g__law_draw T.F__law_draw.kp (b__law_draw T) (xa_cons (xe_var (pv 1)) (xa_cons xe_int xa_nil))) xe_int (nomark _)) xa_nil)))))) (xss_one (xs_ret xe_bl)) xss_nil) (xss_one (xs_if (xb_w (xw_and (xb_cmp (op_eqD (hu64 hr)) pr_eqD (xe_callF (ok__law_draw T) len__law_draw (hr.mono (by decide)) rfl T.g__law_draw T.F__law_draw.kp (b__law_draw T) (xa_cons (xe_var (pv 1)) (xa_cons xe_int xa_nil))) xe_int (nomark _)) (xw_and1 (xb_not (xb_val (xe_callF (fn_pure (ok__law_is_ready T)) (lenD_pure len__law_is_ready) (hr.mono (by decide)) rfl T.g__law_is_ready T.F__law_is_ready.kp (b__law_is_ready T) (xa_cons (xe_var (pv 4)) (xa_cons (xe_var (pv 6)) (xa_cons (xe_cmp (op_eqD (hu64 hr)) pr_eqD (xe_callF (ok__law_draw T) len__law_draw (hr.mono (by decide)) rfl T.g__law_draw T.F__law_draw.kp (b__law_draw T) (xa_cons (xe_var (pv 1)) (xa_cons xe_int xa_nil))) xe_int (nomark _)) xa_nil))))))))) (xss_one (xs_ret xe_bl)) xss_nil))))) (xss_cons (xs_for PassesOwn.never rfl (xi_any (xe_var (pv 2))) (xg_name (i := 4) sc_law.nd rfl (.inr rfl)) (xss_cons (xs_set (i := 6) sc_law.nd rfl (.inl rfl) (xe_op op_addD pr_add xe_int (xe_callF (ok__law_draw T) len__law_draw (hr.mono (by decide)) rfl T.g__law_draw T.F__law_draw.kp (b__law_draw T) (xa_cons (xe_var (pv 1)) (xa_cons (xe_if (xb_cmp (op_inA (hu_of hr)) pr_inA (xe_var (pv 4)) (xe_tup (xa_cons xe_str (xa_cons xe_str xa_nil))) rfl) xe_int xe_int) xa_nil))))) (xss_cons (xs_if (xb_w (xw_or (xb_not (xb_val (xe_callF (fn_pure (ok__law_by_parts T)) (lenD_pure len__law_by_parts) (hr.mono (by decide)) rfl T.g__law_by_parts T.F__law_by_parts.kp (b__law_by_parts T) (xa_cons (xe_var (pv 4)) (xa_cons (xe_var (pv 6)) xa_nil))))) (xw_or (xb_not (xb_val (xe_callF (fn_pure (ok__law_is_ready T)) (lenD_pure len__law_is_ready) (hr.mono (by decide)) rfl T.g__law_is_ready T.F__law_is_ready.kp (b__law_is_ready T) (xa_cons (xe_var (pv 4)) (xa_cons (xe_var (pv 6)) (xa_cons xe_bl xa_nil)))))) (xw_or1 (xb_not (xb_val (xe_callF (fn_pure (ok__law_is_ready T)) (lenD_pure len__law_is_ready) (hr.mono (by decide)) rfl T.g__law_is_ready T.F__law_is_ready.kp (b__law_is_ready T) (xa_cons (xe_var (pv 4)) (xa_cons (xe_var (pv 6)) (xa_cons xe_bl xa_nil)))))))))) (xss_one (xs_ret xe_bl)) xss_nil) (xss_one (xs_if (xb_w (xw_and (xb_cmp (op_inA (hu_of hr)) pr_inA (xe_var (pv 4)) (xe_tup (xa_cons xe_str (xa_cons xe_str xa_nil))) rfl) (xw_and1 (xb_not (xb_val (xe_callF (fn_pure (ok__law_by_parts T)) (lenD_pure len__law_by_parts) (hr.mono (by decide)) rfl T.g__law_by_parts T.F__law_by_parts.kp (b__law_by_parts T) (xa_cons (xe_var (pv 4)) (xa_cons (xe_op op_addD pr_add xe_int (xe_callF (ok__law_draw T) len__law_draw (hr.mono (by decide)) rfl T.g__law_draw T.F__law_draw.kp (b__law_draw T) (xa_cons (xe_var (pv 1)) (xa_cons xe_int xa_nil)))) xa_nil)))))))) (xss_one (xs_ret xe_bl)) xss_nil))))) (xss_one (xs_ret (xe_and (xe_callF (fn_pure (ok__law_is T 6)) (lenD_pure (len__law_is 6)) (hr.mono (by decide)) rfl T.g__law_is T.F__law_is.kp (b__law_is T) (xa_cons (xe_callF0 (fn_pure (ok_ready_rows T)) (lenD_pure len_ready_rows) (hr.mono (by decide)) rfl T.g_ready_rows T.F_ready_rows.kp (b_ready_rows T)) (xa_cons (xe_var (pv 2)) xa_nil))) (xe_one (xe_callF0 (fn_pure (ok__law_are_examples_right T)) (lenD_pure len__law_are_examples_right) (hr.mono (by decide)) rfl T.g__law_are_examples_right T.F__law_are_examples_right.kp (b__law_are_examples_right T)))))))))))))
end
end K38

set_option Elab.async false
set_option linter.all false
set_option maxRecDepth 100000
set_option maxHeartbeats 4000000
/-! K38: the menu. -/
namespace K38
open PySem PySem.Spec PyProof.Rows L2 Dn
def isT : Option (D × HH) → Bool
  | some (.bl true, _) => true
  | _ => false
abbrev WN := Str × Int
def m1 : List WN := [("bins", 1)]
def m2 : List WN := [("bins", 2)]
def m3 : List WN := [("bins", 3), ("bins", 4), ("bins", 5), ("bins", 6), ("bins", 7), ("bins", 8)]
def m4 : List WN := [("foe", 1), ("foe", 2), ("foe", 3), ("foe", 4), ("foe", 5), ("foe", 6), ("foe", 7), ("foe", 8)]
def m5 : List WN := [("jobs", 1), ("jobs", 2), ("jobs", 3), ("jobs", 4), ("jobs", 5), ("jobs", 6)]
def m6 : List WN := [("tower", 1), ("tower", 2), ("tower", 3), ("tower", 4), ("tower", 5), ("tower", 6)]
def m7 : List WN := [("walk", 1), ("walk", 2), ("walk", 3), ("walk", 4), ("walk", 5), ("walk", 6), ("walk", 7), ("walk", 8)]
def menu : List WN := m1 ++ (m2 ++ (m3 ++ (m4 ++ (m5 ++ (m6 ++ m7)))))
def cR (p : WN) : Bool := isT (d__law_is_ready [.str p.1, .int p.2, .bl true] []) && isT (d__law_is_ready [.str p.1, .int p.2, .bl false] [])
def cP (p : WN) : Bool := isT (d__law_by_parts [.str p.1, .int p.2] [])
theorem all_ap {α : Type} {f : α → Bool} {a b : List α} (h1 : a.all f = true) (h2 : b.all f = true) : (a ++ b).all f = true := by
  rw [List.all_append, h1, h2]; rfl
end K38

set_option Elab.async false
set_option linter.all false
set_option maxRecDepth 100000
set_option maxHeartbeats 4000000
/-! K38: the law's bag of numbers. -/
namespace K38
open PySem PySem.Spec PyProof.Rows L2 Dn

abbrev iD (cs : List Int) : List D := cs.map D.int
/-- the bag: its cells, what is left of one, the mixed number -/
def B (cs : List Int) (l x : Int) (T : HH) : HH := .lst (iD cs) :: .lst [.ref 0, .int l, .int x] :: T
theorem toPys_ints {h : HH} : ∀ cs : List Int, toPys h (iD cs) = some (cs.map PyData.int)
  | [] => rfl
  | c :: r => by
    show (match toPy h (.int c), toPys h (iD r) with
      | some x, some xs => some (x :: xs)
      | _, _ => none) = _
    rw [toPys_ints r]
    rfl
theorem lay_ints : ∀ cs : List Int, PyData.canLayAll0 (cs.map PyData.int) = true
  | [] => rfl
  | c :: r => by
    show (PyData.canLay0 (.int c) && PyData.canLayAll0 (r.map PyData.int)) = true
    rw [lay_ints r]
    rfl
theorem depth_ints : ∀ cs : List Int, PyData.depthAll (cs.map PyData.int) ≤ 1
  | [] => by decide
  | c :: r => by
    have ih := depth_ints r
    simp only [List.map_cons, PyData.depthAll, PyData.depth]
    omega
theorem shaped_ints (cs : List Int) : SeqAt.shaped (.list (cs.map PyData.int)) = true := by
  unfold SeqAt.shaped
  rw [Bool.and_eq_true, decide_eq_true_eq]
  refine ⟨lay_ints cs, ?_⟩
  have h := depth_ints cs
  simp only [PyData.depth]
  omega
section
variable {m : Int} {e2 e3 : Option D} {cs : List Int} {l x : Int} {T : HH}
abbrev en (m : Int) (e2 e3 : Option D) : DE := [some (.ref 1), some (.int m), e2, e3]
theorem b_left : dApp2 pIxA (dVar 0) (dC (.int 1)) (en m e2 e3) (B cs l x T) = some (.int l, B cs l x T) := rfl
theorem b_cells : dApp2 pIxA (dVar 0) (dC (.int 0)) (en m e2 e3) (B cs l x T) = some (.ref 0, B cs l x T) := rfl
theorem b_mixed : dApp2 pIxA (dVar 0) (dC (.int 2)) (en m e2 e3) (B cs l x T) = some (.int x, B cs l x T) := rfl
theorem b_gt : dTest (dApp2 pGt (dApp2 pIxA (dVar 0) (dC (.int 1))) (dC (.int 0))) (en m e2 e3) (B cs l x T) = some (decide (0 < l), B cs l x T) := rfl
theorem b_none : dTest (dApp2 (pEqD false) (dApp2 pIxA (dVar 0) (dC (.int 0))) (dFl (dLst dNil))) (en m e2 e3) (B cs l x T) = some (cs.isEmpty, B cs l x T) := by
  show dTest (fun _ h => pEqD false [.ref 0, .fl []] h) (en m e2 e3) (B cs l x T) = _
  have e1 : toPyR (B cs l x T) (.ref 0) = some (.list (cs.map PyData.int)) := by
    show (toPys (B cs l x T) (iD cs)).map PyData.list = _
    rw [toPys_ints]; rfl
  have e2' : toPyR (B cs l x T) (.fl []) = some (.list []) := rfl
  have e3' : pEqD false [.ref 0, .fl []] (B cs l x T) = some (.bl (PyData.eqv (.list (cs.map PyData.int)) (.list [])), B cs l x T) := by
    unfold pEqD
    simp only [e1, e2']
    rw [if_pos ⟨shaped_ints cs, by decide⟩]
    rfl
  unfold dTest
  simp only [e3']
  cases cs <;> rfl
theorem b_pop {c : Int} : dMeth isL pPop (dApp2 pIxA (dVar 0) (dC (.int 0))) dNil (en m e2 e3) (B (cs ++ [c]) l x T) = some (.int c, B cs l x T) := by
  have e1 : pPop [.ref 0] (B (cs ++ [c]) l x T) = some (.int c, B cs l x T) := by
    unfold pPop B
    simp [iD]
  show (if isL (.ref 0) (B (cs ++ [c]) l x T) = true then pPop [.ref 0] (B (cs ++ [c]) l x T) else none) = _
  rw [if_pos (show isL (.ref 0) (B (cs ++ [c]) l x T) = true from rfl), e1]
theorem put1 {v : Int} : putIn 1 (.int 1) (.int v) (B cs l x T) = some (B cs v x T) := by
  show (match ixN 3 1 with
    | some j => some ((B cs l x T).set 1 (.lst (List.set [D.ref 0, .int l, .int x] j (.int v))))
    | none => none) = _
  rw [show ixN 3 1 = some 1 by decide]
  rfl
theorem put2 {v : Int} : putIn 1 (.int 2) (.int v) (B cs l x T) = some (B cs l v T) := by
  show (match ixN 3 2 with
    | some j => some ((B cs l x T).set 1 (.lst (List.set [D.ref 0, .int l, .int x] j (.int v))))
    | none => none) = _
  rw [show ixN 3 2 = some 2 by decide]
  rfl
theorem b_put {f : Den} {v : Int} (h : f (en m e2 e3) (B cs l x T) = some (.int v, B cs l x T)) : sPutA f (dVar 0) (dC (.int 1)) (en m e2 e3) (B cs l x T) = some (.nx, en m e2 e3, B cs v x T) := by
  unfold sPutA
  rw [h]
  show (match putIn 1 (.int 1) (.int v) (B cs l x T) with
    | some h4 => some (Fl.nx, en m e2 e3, h4)
    | none => none) = _
  rw [put1]
theorem b_put2 {f : Den} {v : Int} (h : f (en m e2 e3) (B cs l x T) = some (.int v, B cs l x T)) : sPutA f (dVar 0) (dC (.int 2)) (en m e2 e3) (B cs l x T) = some (.nx, en m e2 e3, B cs l v T) := by
  unfold sPutA
  rw [h]
  show (match putIn 1 (.int 2) (.int v) (B cs l x T) with
    | some h4 => some (Fl.nx, en m e2 e3, h4)
    | none => none) = _
  rw [put2]
def bodyF : SDen := sSeq (sIf (dOr (dTest (dApp2 pGt (dApp2 pIxA (dVar 0) (dC (.int 1))) (dC (.int 0)))) (dTest (dApp2 (pEqD false) (dApp2 pIxA (dVar 0) (dC (.int 0))) (dFl (dLst dNil))))) sBrk sNil) (sSeq (sAsg (dMeth isL pPop (dApp2 pIxA (dVar 0) (dC (.int 0))) dNil) (gSet 3)) (sPutA (dIf (dTest (dApp2 pGt (dVar 3) (dApp2 pPow (dC (.int 10)) (dC (.int 9))))) (dVar 3) (dC (.int 0))) (dVar 0) (dC (.int 1))))
theorem body_brk (h : 0 < l ∨ cs = []) : bodyF (en m e2 e3) (B cs l x T) = some (.brk, en m e2 e3, B cs l x T) := by
  have e : sIf (dOr (dTest (dApp2 pGt (dApp2 pIxA (dVar 0) (dC (.int 1))) (dC (.int 0)))) (dTest (dApp2 (pEqD false) (dApp2 pIxA (dVar 0) (dC (.int 0))) (dFl (dLst dNil))))) sBrk sNil (en m e2 e3) (B cs l x T) = some (.brk, en m e2 e3, B cs l x T) := by
    unfold sIf dOr
    rw [b_gt]
    by_cases hl : 0 < l
    · rw [decide_eq_true hl]; rfl
    · rw [decide_eq_false hl]
      simp only
      rw [b_none]
      rcases h with h | h
      · exact absurd h hl
      · subst h; rfl
  unfold bodyF sSeq
  rw [e]
theorem body_go {c : Int} (h : ¬ 0 < l) : ∃ e3', bodyF (en m e2 e3) (B (cs ++ [c]) l x T) = some (.nx, en m e2 e3', B cs (if c > 1000000000 then c else 0) x T) := by
  have e : sIf (dOr (dTest (dApp2 pGt (dApp2 pIxA (dVar 0) (dC (.int 1))) (dC (.int 0)))) (dTest (dApp2 (pEqD false) (dApp2 pIxA (dVar 0) (dC (.int 0))) (dFl (dLst dNil))))) sBrk sNil (en m e2 e3) (B (cs ++ [c]) l x T) = some (.nx, en m e2 e3, B (cs ++ [c]) l x T) := by
    unfold sIf dOr
    rw [b_gt, decide_eq_false h]
    simp only
    rw [b_none]
    have : (cs ++ [c]).isEmpty = false := by cases cs <;> rfl
    rw [this]
    rfl
  have e4 : sAsg (dMeth isL pPop (dApp2 pIxA (dVar 0) (dC (.int 0))) dNil) (gSet 3) (en m e2 e3) (B (cs ++ [c]) l x T) = some (.nx, en m e2 (some (.int c)), B cs l x T) := by
    unfold sAsg
    rw [b_pop]
    rfl
  have e5 : sPutA (dIf (dTest (dApp2 pGt (dVar 3) (dApp2 pPow (dC (.int 10)) (dC (.int 9))))) (dVar 3) (dC (.int 0))) (dVar 0) (dC (.int 1)) (en m e2 (some (.int c))) (B cs l x T) = some (.nx, en m e2 (some (.int c)), B cs (if c > 1000000000 then c else 0) x T) := by
    refine b_put ?_
    have q : dTest (dApp2 pGt (dVar 3) (dApp2 pPow (dC (.int 10)) (dC (.int 9)))) (en m e2 (some (.int c))) (B cs l x T) = some (decide (1000000000 < c), B cs l x T) := rfl
    unfold dIf
    rw [q]
    by_cases hc : 1000000000 < c
    · rw [decide_eq_true hc, if_pos hc]; rfl
    · rw [decide_eq_false hc, if_neg hc]; rfl
  refine ⟨some (.int c), ?_⟩
  unfold bodyF sSeq
  rw [e]
  simp only
  rw [e4]
  simp only
  rw [e5]
theorem loop_ok : ∀ (its : List D) (e2 e3 : Option D) (cs : List Int) (l : Int), 0 ≤ l → (∀ c ∈ cs, 0 ≤ c) → ∃ e2' e3' cs' l', forGo (gSet 2) bodyF [] its (en m e2 e3) (B cs l x T) = some (.nx, en m e2' e3', B cs' l' x T) ∧ 0 ≤ l' ∧ (∀ c ∈ cs', 0 ≤ c)
  | [], e2, e3, cs, l, hl, hc => ⟨e2, e3, cs, l, rfl, hl, hc⟩
  | d :: r, e2, e3, cs, l, hl, hc => by
    have st : forGo (gSet 2) bodyF [] (d :: r) (en m e2 e3) (B cs l x T) = (match bodyF (en m (some d) e3) (B cs l x T) with
        | some (.nx, env2, h2) => frcE env2 fun env2 => forGo (gSet 2) bodyF [] r env2 h2
        | some (.ct, env2, h2) => frcE env2 fun env2 => forGo (gSet 2) bodyF [] r env2 h2
        | some (.brk, env2, h2) => some (.nx, env2, h2)
        | some (.ret d, env2, h2) => some (.ret d, env2, h2)
        | none => none) := rfl
    rw [st]
    by_cases hb : 0 < l ∨ cs = []
    · rw [body_brk hb]
      exact ⟨some d, e3, cs, l, rfl, hl, hc⟩
    · have h1 : ¬ 0 < l := fun z => hb (.inl z)
      have h2 : cs ≠ [] := fun z => hb (.inr z)
      obtain ⟨init, c, rfl⟩ : ∃ init c, cs = init ++ [c] := ⟨cs.dropLast, cs.getLast h2, (List.dropLast_concat_getLast h2).symm⟩
      obtain ⟨e3', hg⟩ := body_go (m := m) (e2 := some d) (e3 := e3) (cs := init) (l := l) (x := x) (T := T) (c := c) h1
      rw [hg]
      simp only
      rw [frcE_eq]
      have hc0 : 0 ≤ c := hc c (by simp)
      exact loop_ok r (some d) e3' init _ (by split <;> omega) fun y hy => hc y (by simp [hy])
end
theorem fmod_lo (a : Int) {m : Int} (hm : 0 < m) : 0 ≤ a.fmod m := Int.fmod_nonneg_of_pos a hm
theorem fmod_hi (a : Int) {m : Int} (hm : 0 < m) : a.fmod m < m := Int.fmod_lt_of_pos a hm
theorem mod_at {a m : Int} {h : HH} (hm : m ≠ 0) : pMod [.int a, .int m] h = some (.int (a.fmod m), h) := by
  show (if m = 0 then none else some (D.int (a.fmod m), h)) = _
  rw [if_neg hm]
theorem mul_at {a b : Int} {h : HH} (hm : mulOk a b = true) : pMulT [.int a, .int b] h = some (.int (a * b), h) := by
  show (if mulOk a b = true then some (D.int (a * b), h) else none) = _
  rw [if_pos hm]
theorem fdiv_at {a b : Int} {h : HH} (hm : fdOk b = true) : pFdiv [.int a, .int b] h = some (.int (a.fdiv b), h) := by
  show (if fdOk b = true then some (D.int (a.fdiv b), h) else none) = _
  rw [if_pos hm]
theorem mulOk_l {a b : Int} (h1 : -(2 ^ 64) < a) (h2 : a < 2 ^ 64) : mulOk a b = true := by
  unfold mulOk
  rw [decide_eq_true h1, decide_eq_true h2]
  rfl
def restF : SDen := sSeq (sIf (dTest (dApp2 pGt (dApp2 pIxA (dVar 0) (dC (.int 1))) (dC (.int 0)))) (sSeq (sAsg (dApp2 pMod (dApp pInt (dCons (dApp2 pIxA (dVar 0) (dC (.int 1))) dNil)) (dVar 1)) (gSet 3)) (sSeq (sPutA (dApp2 pFdiv (dApp2 pIxA (dVar 0) (dC (.int 1))) (dVar 1)) (dVar 0) (dC (.int 1))) (sRet (dVar 3)))) sNil) (sSeq (sPutA (dApp2 pMod (dApp pInt (dCons (dApp2 pAdd (dApp2 pMulT (dApp2 pIxA (dVar 0) (dC (.int 2))) (dC (.int 48271))) (dC (.int 11))) dNil)) (dC (.int 2147483647))) (dVar 0) (dC (.int 2))) (sRet (dApp2 pMod (dApp pInt (dCons (dApp2 pFdiv (dApp2 pMod (dApp pInt (dCons (dApp2 pMulT (dApp2 pIxA (dVar 0) (dC (.int 2))) (dApp2 pIxA (dVar 0) (dC (.int 2)))) dNil)) (dC (.int 2147483629))) (dC (.int 7))) dNil)) (dVar 1))))
theorem draw_is : d__law_draw = runFn 2 4 (sSeq (sFor (iRng1D (dCons (dC (.int 64)) dNil)) (gSet 2) bodyF) restF) := rfl
theorem rest_ok {m : Int} {e2 e3 : Option D} {cs : List Int} {l x : Int} {T : HH} (hm : 0 < m ∧ m < 1000) (hl : 0 ≤ l) (hx : 0 ≤ x ∧ x < 2147483647) :
    ∃ r e' l' x', restF (en m e2 e3) (B cs l x T) = some (.ret (.int r), e', B cs l' x' T) ∧ 0 ≤ r ∧ r < m ∧ 0 ≤ l' ∧ 0 ≤ x' ∧ x' < 2147483647 := by
  have m0 : m ≠ 0 := by omega
  by_cases h1 : 0 < l
  · have f0 : fdOk m = true := by
      unfold fdOk
      rw [decide_eq_true m0, decide_eq_true (show m.natAbs < 1073741824 by omega)]
      rfl
    refine ⟨l.fmod m, en m e2 (some (.int (l.fmod m))), l.fdiv m, x, ?_, fmod_lo _ hm.1, fmod_hi _ hm.1, Int.fdiv_nonneg hl (by omega), hx.1, hx.2⟩
    have c1 : dTest (dApp2 pGt (dApp2 pIxA (dVar 0) (dC (.int 1))) (dC (.int 0))) (en m e2 e3) (B cs l x T) = some (true, B cs l x T) := by
      rw [b_gt, decide_eq_true h1]
    have s1 : sAsg (dApp2 pMod (dApp pInt (dCons (dApp2 pIxA (dVar 0) (dC (.int 1))) dNil)) (dVar 1)) (gSet 3) (en m e2 e3) (B cs l x T) = some (.nx, en m e2 (some (.int (l.fmod m))), B cs l x T) :=
      by
      have q1 : dApp pInt (dCons (dApp2 pIxA (dVar 0) (dC (.int 1))) dNil) (en m e2 e3) (B cs l x T) = some (.int l, B cs l x T) := (v_ap1 b_left).trans rfl
      exact v_asg ((v_ap2 q1 rfl).trans (mod_at m0)) rfl
    have s2 : sPutA (dApp2 pFdiv (dApp2 pIxA (dVar 0) (dC (.int 1))) (dVar 1)) (dVar 0) (dC (.int 1)) (en m e2 (some (.int (l.fmod m)))) (B cs l x T) = some (.nx, en m e2 (some (.int (l.fmod m))), B cs (l.fdiv m) x T) :=
      b_put ((v_ap2 b_left rfl).trans (fdiv_at f0))
    unfold restF
    unfold sSeq
    rw [v_sifT c1, s1]
    simp only
    rw [s2]
    rfl
  · have mx : mulOk x 48271 = true := mulOk_l (by omega) (by omega)
    have c1 : sIf (dTest (dApp2 pGt (dApp2 pIxA (dVar 0) (dC (.int 1))) (dC (.int 0)))) (sSeq (sAsg (dApp2 pMod (dApp pInt (dCons (dApp2 pIxA (dVar 0) (dC (.int 1))) dNil)) (dVar 1)) (gSet 3)) (sSeq (sPutA (dApp2 pFdiv (dApp2 pIxA (dVar 0) (dC (.int 1))) (dVar 1)) (dVar 0) (dC (.int 1))) (sRet (dVar 3)))) sNil (en m e2 e3) (B cs l x T) = some (.nx, en m e2 e3, B cs l x T) := by
      rw [v_sifF (by rw [b_gt, decide_eq_false h1])]
      rfl
    obtain ⟨x1, hx1⟩ : ∃ x1, x1 = (x * 48271 + 11).fmod 2147483647 := ⟨_, rfl⟩
    have x1lo : 0 ≤ x1 := by rw [hx1]; exact fmod_lo _ (by decide)
    have x1hi : x1 < 2147483647 := by rw [hx1]; exact fmod_hi _ (by decide)
    have s1 : sPutA (dApp2 pMod (dApp pInt (dCons (dApp2 pAdd (dApp2 pMulT (dApp2 pIxA (dVar 0) (dC (.int 2))) (dC (.int 48271))) (dC (.int 11))) dNil)) (dC (.int 2147483647))) (dVar 0) (dC (.int 2)) (en m e2 e3) (B cs l x T) = some (.nx, en m e2 e3, B cs l x1 T) := by
      refine b_put2 ?_
      rw [hx1]
      have q0 : dApp2 pMulT (dApp2 pIxA (dVar 0) (dC (.int 2))) (dC (.int 48271)) (en m e2 e3) (B cs l x T) = some (.int (x * 48271), B cs l x T) := (v_ap2 b_mixed rfl).trans (mul_at mx)
      have q1 : dApp2 pAdd (dApp2 pMulT (dApp2 pIxA (dVar 0) (dC (.int 2))) (dC (.int 48271))) (dC (.int 11)) (en m e2 e3) (B cs l x T) = some (.int (x * 48271 + 11), B cs l x T) := (v_ap2 q0 rfl).trans rfl
      have q2 : dApp pInt (dCons (dApp2 pAdd (dApp2 pMulT (dApp2 pIxA (dVar 0) (dC (.int 2))) (dC (.int 48271))) (dC (.int 11))) dNil) (en m e2 e3) (B cs l x T) = some (.int (x * 48271 + 11), B cs l x T) := (v_ap1 q1).trans rfl
      exact (v_ap2 q2 rfl).trans (mod_at (by decide))
    have mx1 : mulOk x1 x1 = true := mulOk_l (by omega) (by omega)
    have r1 : dApp2 pMod (dApp pInt (dCons (dApp2 pFdiv (dApp2 pMod (dApp pInt (dCons (dApp2 pMulT (dApp2 pIxA (dVar 0) (dC (.int 2))) (dApp2 pIxA (dVar 0) (dC (.int 2)))) dNil)) (dC (.int 2147483629))) (dC (.int 7))) dNil)) (dVar 1) (en m e2 e3) (B cs l x1 T) = some (.int ((((x1 * x1).fmod 2147483629).fdiv 7).fmod m), B cs l x1 T) :=
by
      have q0 : dApp2 pMulT (dApp2 pIxA (dVar 0) (dC (.int 2))) (dApp2 pIxA (dVar 0) (dC (.int 2))) (en m e2 e3) (B cs l x1 T) = some (.int (x1 * x1), B cs l x1 T) := (v_ap2 b_mixed b_mixed).trans (mul_at mx1)
      have q1 : dApp pInt (dCons (dApp2 pMulT (dApp2 pIxA (dVar 0) (dC (.int 2))) (dApp2 pIxA (dVar 0) (dC (.int 2)))) dNil) (en m e2 e3) (B cs l x1 T) = some (.int (x1 * x1), B cs l x1 T) := (v_ap1 q0).trans rfl
      have q2 : dApp2 pMod (dApp pInt (dCons (dApp2 pMulT (dApp2 pIxA (dVar 0) (dC (.int 2))) (dApp2 pIxA (dVar 0) (dC (.int 2)))) dNil)) (dC (.int 2147483629)) (en m e2 e3) (B cs l x1 T) = some (.int ((x1 * x1).fmod 2147483629), B cs l x1 T) := (v_ap2 q1 rfl).trans (mod_at (by decide))
      have q3 : dApp2 pFdiv (dApp2 pMod (dApp pInt (dCons (dApp2 pMulT (dApp2 pIxA (dVar 0) (dC (.int 2))) (dApp2 pIxA (dVar 0) (dC (.int 2)))) dNil)) (dC (.int 2147483629))) (dC (.int 7)) (en m e2 e3) (B cs l x1 T) = some (.int (((x1 * x1).fmod 2147483629).fdiv 7), B cs l x1 T) := (v_ap2 q2 rfl).trans (fdiv_at (by decide))
      exact (v_ap2 ((v_ap1 q3).trans rfl) rfl).trans (mod_at m0)
    refine ⟨(((x1 * x1).fmod 2147483629).fdiv 7).fmod m, en m e2 e3, l, x1, ?_, fmod_lo _ hm.1, fmod_hi _ hm.1, hl, x1lo, x1hi⟩
    unfold restF
    rw [v_seq c1, v_seq s1, v_ret r1]
/-- one draw -/
theorem draw_ok {m : Int} {cs : List Int} {l x : Int} {T : HH} (hm : 0 < m ∧ m < 1000) (hl : 0 ≤ l) (hc : ∀ c ∈ cs, 0 ≤ c) (hx : 0 ≤ x ∧ x < 2147483647) :
    ∃ r cs' l' x', d__law_draw [.ref 1, .int m] (B cs l x T) = some (.int r, B cs' l' x' T) ∧ 0 ≤ r ∧ r < m ∧ 0 ≤ l' ∧ (∀ c ∈ cs', 0 ≤ c) ∧ 0 ≤ x' ∧ x' < 2147483647 := by
  obtain ⟨e2, e3, cs1, l1, hg, hl1, hc1⟩ := loop_ok (m := m) (x := x) (T := T) (rngD 0 64) none none cs l hl hc
  have hsrc : sFor (iRng1D (dCons (dC (.int 64)) dNil)) (gSet 2) bodyF (en m none none) (B cs l x T) = some (.nx, en m e2 e3, B cs1 l1 x T) := (v_for (h1 := B cs l x T) (items := rngD 0 64) (gd := []) rfl).trans hg
  obtain ⟨r, e', l', x', hr, a1, a2, a3, a4, a5⟩ := rest_ok (m := m) (e2 := e2) (e3 := e3) (cs := cs1) (T := T) hm hl1 hx
  refine ⟨r, cs1, l', x', ?_, a1, a2, a3, hc1, a4, a5⟩
  rw [draw_is]
  refine v_run (e1 := e') rfl ?_
  show sSeq _ _ (en m none none) (B cs l x T) = _
  rw [v_seq hsrc, hr]
end K38

set_option Elab.async false
set_option linter.all false
set_option maxRecDepth 100000
set_option maxHeartbeats 4000000
/-! K38: the bag is made. -/
namespace K38
open PySem PySem.Spec PyProof.Rows L2 Dn
abbrev cellD : Den := dApp2 pMod (dApp pInt (dCons (dApp pAbs (dCons (dVar 3) dNil)) dNil)) (dApp2 pPow (dC (.int 10)) (dC (.int 64)))
def cellF (c : Int) : Int := (if c < 0 then -c else c).fmod (10 ^ 64)
theorem cell_at {c : Int} {a b d : Option D} {h : HH} : cellD [a, b, d, some (.int c)] h = some (.int (cellF c), h) := by
  have q0 : dApp pAbs (dCons (dVar 3) dNil) [a, b, d, some (.int c)] h = some (.int (if c < 0 then -c else c), h) := rfl
  have q1 : dApp pInt (dCons (dApp pAbs (dCons (dVar 3) dNil)) dNil) [a, b, d, some (.int c)] h = some (.int (if c < 0 then -c else c), h) := (v_ap1 q0).trans rfl
  have q2 : dApp2 pPow (dC (.int 10)) (dC (.int 64)) [a, b, d, some (.int c)] h = some (.int (10 ^ 64), h) := by
    refine (v_ap2 rfl rfl).trans ?_
    show (if (0 : Int) ≤ 64 ∧ (64 : Int) ≤ 1000000 ∧ (10 : Int).natAbs < 2 ^ 64 then some (D.int ((10 : Int) ^ (64 : Int).toNat), h) else none) = _
    rw [if_pos (by decide)]
    rfl
  exact (v_ap2 q1 q2).trans (mod_at (by decide))
theorem comp_at {a b d : Option D} {h : HH} : ∀ (its acc : List Int), acc.length + its.length ≤ 1000 → compGo (gSet 3) bYes cellD [] [a, b, d, none] (iD its) (iD acc) h = some (iD (acc ++ its.map cellF), h)
  | [], acc, _ => by simp [iD, compGo, okG]
  | c :: r, acc, hl => by
    have e1 : gSet 3 (.int c) [a, b, d, none] h = some ([a, b, d, some (.int c)], h) := rfl
    show compGo (gSet 3) bYes cellD [] [a, b, d, none] (.int c :: iD r) (iD acc) h = _
    rw [compGo]
    rw [if_pos (show okG [] h = true from rfl), e1]
    simp only
    rw [show bYes [a, b, d, some (.int c)] h = some (true, h) from rfl]
    simp only
    rw [cell_at]
    simp only
    have hlen : (iD acc).length < 1000000 := by
      simp only [List.length_cons] at hl
      simp [iD]; omega
    rw [if_pos hlen, frcD_eq]
    have e2 : iD acc ++ [D.int (cellF c)] = iD (acc ++ [cellF c]) := by simp [iD]
    rw [e2, comp_at r (acc ++ [cellF c]) (by simp only [List.length_append, List.length_cons, List.length_nil] at hl ⊢; omega)]
    simp
abbrev mixD : Den := dApp2 pMod (dApp pInt (dCons (dApp2 pAdd (dApp2 pAdd (dApp2 pMulT (dVar 2) (dC (.int 48271))) (dApp2 pMod (dApp pInt (dCons (dVar 3) dNil)) (dC (.int 2147483629)))) (dC (.int 7))) dNil)) (dC (.int 2147483647))
theorem mix_at {a b : Option D} {x c : Int} {h : HH} (hx : 0 ≤ x ∧ x < 2147483647) : ∃ x', mixD [a, b, some (.int x), some (.int c)] h = some (.int x', h) ∧ 0 ≤ x' ∧ x' < 2147483647 := by
  have q0 : dApp2 pMulT (dVar 2) (dC (.int 48271)) [a, b, some (.int x), some (.int c)] h = some (.int (x * 48271), h) := (v_ap2 rfl rfl).trans (mul_at (mulOk_l (by omega) (by omega)))
  have q1 : dApp2 pMod (dApp pInt (dCons (dVar 3) dNil)) (dC (.int 2147483629)) [a, b, some (.int x), some (.int c)] h = some (.int (c.fmod 2147483629), h) := by
    have q : dApp pInt (dCons (dVar 3) dNil) [a, b, some (.int x), some (.int c)] h = some (.int c, h) := rfl
    exact (v_ap2 q rfl).trans (mod_at (by decide))
  have q2 : dApp2 pAdd (dApp2 pMulT (dVar 2) (dC (.int 48271))) (dApp2 pMod (dApp pInt (dCons (dVar 3) dNil)) (dC (.int 2147483629))) [a, b, some (.int x), some (.int c)] h = some (.int (x * 48271 + c.fmod 2147483629), h) := (v_ap2 q0 q1).trans rfl
  have q3 : dApp2 pAdd (dApp2 pAdd (dApp2 pMulT (dVar 2) (dC (.int 48271))) (dApp2 pMod (dApp pInt (dCons (dVar 3) dNil)) (dC (.int 2147483629)))) (dC (.int 7)) [a, b, some (.int x), some (.int c)] h = some (.int (x * 48271 + c.fmod 2147483629 + 7), h) := (v_ap2 q2 rfl).trans rfl
  have q4 : dApp pInt (dCons (dApp2 pAdd (dApp2 pAdd (dApp2 pMulT (dVar 2) (dC (.int 48271))) (dApp2 pMod (dApp pInt (dCons (dVar 3) dNil)) (dC (.int 2147483629)))) (dC (.int 7))) dNil) [a, b, some (.int x), some (.int c)] h = some (.int (x * 48271 + c.fmod 2147483629 + 7), h) := (v_ap1 q3).trans rfl
  exact ⟨_, (v_ap2 q4 rfl).trans (mod_at (by decide)), fmod_lo _ (by decide), fmod_hi _ (by decide)⟩
theorem mixes {a b : Option D} {h : HH} : ∀ (its : List Int) (x : Int) (e : Option D), (0 ≤ x ∧ x < 2147483647) → ∃ x' e', forGo (gSet 3) (sAsg mixD (gSet 2)) [] (iD its) [a, b, some (.int x), e] h = some (.nx, [a, b, some (.int x'), e'], h) ∧ 0 ≤ x' ∧ x' < 2147483647
  | [], x, e, hx => ⟨x, e, v_forNil rfl, hx⟩
  | c :: r, x, e, hx => by
    obtain ⟨x1, h1, h2⟩ := mix_at (a := a) (b := b) (c := c) (h := h) hx
    obtain ⟨x2, e2, h3, h4⟩ := mixes (a := a) (b := b) (h := h) r x1 (some (.int c)) h2
    refine ⟨x2, e2, ?_, h4⟩
    refine (v_forNx (e1 := [a, b, some (.int x), some (.int c)]) (h1 := h) rfl rfl (v_asg h1 rfl)).trans ?_
    exact h3
theorem cut_ints (ns : List Int) (lo hi : Option Int) : ∃ ks : List Int, Dn.cutD (iD ns) lo hi = iD ks ∧ ks.length ≤ ns.length := by
  refine ⟨(ns.drop (HT.sIx (iD ns).length 0 lo)).take (HT.sIx (iD ns).length (iD ns).length hi - HT.sIx (iD ns).length 0 lo), ?_, ?_⟩
  · unfold Dn.cutD iD
    rw [List.map_take, List.map_drop]
  · rw [List.length_take, List.length_drop]; omega
theorem cellF_lo (c : Int) : 0 ≤ cellF c := fmod_lo _ (by decide)
/-- the bag of a script -/
theorem bag_ok {ns : List Int} (hn : ns.length ≤ 63) : ∃ cs x, d__law_bag [.sc (iD ns)] [] = some (.ref 1, B cs 0 x []) ∧ (∀ c ∈ cs, 0 ≤ c) ∧ 0 ≤ x ∧ x < 2147483647 := by
  obtain ⟨ks, hk, hl⟩ := cut_ints ns none (some 63)
  obtain ⟨cs, hcs⟩ : ∃ cs, cs = ks.map cellF := ⟨_, rfl⟩
  have lcs : cs.length = ks.length := by rw [hcs]; simp
  have c1 : dComp [3] (iAny (dSlA (dVar 0) oNo (oYes (dC (.int 63))))) (gSet 3) bYes cellD [some (.sc (iD ns)), none, none, none] [] = some (iD cs, []) := by
    have i0 : dSlA (dVar 0) oNo (oYes (dC (.int 63))) [some (.sc (iD ns)), none, none, none] [] = some (.fl (Dn.cutD (iD ns) none (some 63)), []) := rfl
    have i1 : iAny (dSlA (dVar 0) oNo (oYes (dC (.int 63)))) [some (.sc (iD ns)), none, none, none] [] = some ((iD ks, []), []) := by
      unfold iAny iSeq
      rw [i0, hk]
      rfl
    unfold dComp
    rw [i1]
    show compGo (gSet 3) bYes cellD [] [some (.sc (iD ns)), none, none, none] (iD ks) (iD []) [] = _
    rw [comp_at ks [] (by simp; omega), hcs]
    simp
  have s1 : sAsg (dFl (dComp [3] (iAny (dSlA (dVar 0) oNo (oYes (dC (.int 63))))) (gSet 3) bYes cellD)) (gSet 1) [some (.sc (iD ns)), none, none, none] [] = some (.nx, [some (.sc (iD ns)), some (.fl (iD cs)), none, none], []) := by
    refine v_asg (d := .fl (iD cs)) (h1 := []) ?_ rfl
    unfold dFl
    rw [c1]
  have s2 : sAsg (dApp2 pAdd (dC (.int 97531)) (dApp pLenD (dCons (dVar 1) dNil))) (gSet 2) [some (.sc (iD ns)), some (.fl (iD cs)), none, none] [] = some (.nx, [some (.sc (iD ns)), some (.fl (iD cs)), some (.int (97531 + ((iD cs).length : Nat))), none], []) := v_asg rfl rfl
  have hx0 : 0 ≤ (97531 + ((iD cs).length : Nat) : Int) ∧ (97531 + ((iD cs).length : Nat) : Int) < 2147483647 := by
    have : (iD cs).length ≤ 63 := by simp [iD]; omega
    omega
  obtain ⟨x, e3, m1, m2⟩ := mixes (a := some (.sc (iD ns))) (b := some (.fl (iD cs))) (h := []) cs _ none hx0
  have s3 : sFor (iAny (dVar 1)) (gSet 3) (sAsg mixD (gSet 2)) [some (.sc (iD ns)), some (.fl (iD cs)), some (.int (97531 + ((iD cs).length : Nat))), none] [] = some (.nx, [some (.sc (iD ns)), some (.fl (iD cs)), some (.int x), e3], []) := (v_for rfl).trans m1
  refine ⟨cs.reverse, x, ?_, fun c hc => ?_, m2⟩
  · refine v_run (e1 := [some (.sc (iD ns)), some (.fl (iD cs)), some (.int x), e3]) rfl ?_
    show sSeq _ _ [some (.sc (iD ns)), none, none, none] [] = _
    rw [v_seq s1, v_seq s2, v_seq s3]
    have e9 : (iD cs).reverse = iD cs.reverse := by simp [iD]
    refine v_ret ?_
    show some (D.ref 1, [O.lst (iD cs).reverse, .lst [.ref 0, .int 0, .int x]]) = _
    rw [e9]
    rfl
  · rw [List.mem_reverse, hcs, List.mem_map] at hc
    obtain ⟨c0, _, rfl⟩ := hc
    exact cellF_lo c0
end K38

set_option Elab.async false
set_option linter.all false
set_option maxRecDepth 100000
set_option maxHeartbeats 4000000
/-! K38: the law's own run, reckoned over its denotation. -/
namespace K38
open PySem PySem.Spec PyProof.Rows L2 Dn
def s1 : SDen := (sAsg (dApp d__law_bag (dCons (dVar 0) dNil)) (gSet 1))
def s2 : SDen := (sAsg (dTup (dCons (dC (.str "bins")) (dCons (dC (.str "foe")) (dCons (dC (.str "jobs")) (dCons (dC (.str "tower")) (dCons (dC (.str "walk")) dNil)))))) (gSet 2))
def s3 : SDen := (sIf (dNot (dTest (dApp (dPure (d__law_is 6)) (dCons (dApp (dPure d_ready_rows) dNil) (dCons (dVar 2) dNil))))) (sRet (dC (.bl false))) sNil)
def s4 : SDen := (sAsg (dOwn (dLst dNil)) (gSet 3))
def s5 : SDen := (sFor (iAny (dVar 2)) (gSet 4) (sExpr (dMeth isL pExtend (dVar 3) (dCons (dFl (dComp [6] (iRng2D (dCons (dC (.int 1)) (dCons (dIf (dTest (dApp2 (pInA false) (dVar 4) (dTup (dCons (dC (.str "jobs")) (dCons (dC (.str "tower")) dNil))))) (dC (.int 7)) (dC (.int 9))) dNil))) (gSet 6) bYes (dTup (dCons (dVar 4) (dCons (dVar 6) dNil))))) dNil))))
def b1 : SDen := (sAsg (dMeth isL pPopAt (dVar 3) (dCons (dApp d__law_draw (dCons (dVar 1) (dCons (dApp pLenD (dCons (dVar 3) dNil)) dNil))) dNil)) (gTupD 2 (gsCons (gSet 4) (gsCons (gSet 6) gsNil))))
def b2 : SDen := (sIf (dNot (dTest (dApp (dPure d__law_is_ready) (dCons (dVar 4) (dCons (dVar 6) (dCons (dApp2 (pEqD false) (dApp d__law_draw (dCons (dVar 1) (dCons (dC (.int 2)) dNil))) (dC (.int 0))) dNil)))))) (sRet (dC (.bl false))) sNil)
def b3 : SDen := (sIf (dAnd (dTest (dApp2 (pEqD false) (dApp d__law_draw (dCons (dVar 1) (dCons (dC (.int 6)) dNil))) (dC (.int 0)))) (dNot (dTest (dApp (dPure d__law_is_ready) (dCons (dVar 4) (dCons (dVar 6) (dCons (dApp2 (pEqD false) (dApp d__law_draw (dCons (dVar 1) (dCons (dC (.int 2)) dNil))) (dC (.int 0))) dNil))))))) (sRet (dC (.bl false))) sNil)
def c1 : SDen := (sAsg (dApp2 pAdd (dC (.int 1)) (dApp d__law_draw (dCons (dVar 1) (dCons (dIf (dTest (dApp2 (pInA false) (dVar 4) (dTup (dCons (dC (.str "jobs")) (dCons (dC (.str "tower")) dNil))))) (dC (.int 6)) (dC (.int 8))) dNil)))) (gSet 6))
def c2 : SDen := (sIf (dOr (dNot (dTest (dApp (dPure d__law_by_parts) (dCons (dVar 4) (dCons (dVar 6) dNil))))) (dOr (dNot (dTest (dApp (dPure d__law_is_ready) (dCons (dVar 4) (dCons (dVar 6) (dCons (dC (.bl true)) dNil)))))) (dNot (dTest (dApp (dPure d__law_is_ready) (dCons (dVar 4) (dCons (dVar 6) (dCons (dC (.bl false)) dNil)))))))) (sRet (dC (.bl false))) sNil)
def c3 : SDen := (sIf (dAnd (dTest (dApp2 (pInA false) (dVar 4) (dTup (dCons (dC (.str "jobs")) (dCons (dC (.str "bins")) dNil))))) (dNot (dTest (dApp (dPure d__law_by_parts) (dCons (dVar 4) (dCons (dApp2 pAdd (dC (.int 1)) (dApp d__law_draw (dCons (dVar 1) (dCons (dC (.int 2)) dNil)))) dNil)))))) (sRet (dC (.bl false))) sNil)
def s8 : SDen := (sRet (dAndV (dApp (dPure (d__law_is 6)) (dCons (dApp (dPure d_ready_rows) dNil) (dCons (dVar 2) dNil))) (dApp (dPure d__law_are_examples_right) dNil)))
def src6 : IDen := (iRng1D (dCons (dApp pLenD (dCons (dVar 3) dNil)) dNil))
def src7 : IDen := (iAny (dVar 2))
def s6 : SDen := sFor src6 (gSet 5) (sSeq b1 (sSeq b2 b3))
def s7 : SDen := sFor src7 (gSet 4) (sSeq c1 (sSeq c2 c3))
theorem law_is : d_law = runFn 1 7 (sSeq s1 (sSeq s2 (sSeq s3 (sSeq s4 (sSeq s5 (sSeq s6 (sSeq s7 s8))))))) := rfl
def P (ms : List WN) : List D := ms.map fun p => .tup [.str p.1, .int p.2]
def dueD : D := .tup [.str "bins", .str "foe", .str "jobs", .str "tower", .str "walk"]
abbrev EN (S : List D) (e4 e5 e6 : Option D) : DE := [some (.sc S), some (.ref 1), some dueD, some (.ref 2), e4, e5, e6]
structure Good (cs : List Int) (l x : Int) : Prop where
  hl : 0 ≤ l
  hc : ∀ c ∈ cs, 0 ≤ c
  hx : 0 ≤ x ∧ x < 2147483647
theorem erase_map {α β : Type} (f : α → β) : ∀ (l : List α) (k : Nat), (l.map f).eraseIdx k = (l.eraseIdx k).map f
  | [], _ => rfl
  | _ :: _, 0 => rfl
  | a :: r, k + 1 => congrArg (f a :: ·) (erase_map f r k)
section
variable {S : List D} {e4 e5 e6 : Option D} {cs : List Int} {l x : Int} {T : HH}
theorem drawn {g : Den} {m : Int} (hg : g (EN S e4 e5 e6) (B cs l x T) = some (.int m, B cs l x T)) (hm : 0 < m ∧ m < 1000) (gd : Good cs l x) :
    ∃ r cs' l' x', dApp d__law_draw (dCons (dVar 1) (dCons g dNil)) (EN S e4 e5 e6) (B cs l x T) = some (.int r, B cs' l' x' T) ∧ 0 ≤ r ∧ r < m ∧ Good cs' l' x' := by
  obtain ⟨r, cs', l', x', hd, a1, a2, a3, a4, a5⟩ := draw_ok (T := T) hm gd.hl gd.hc gd.hx
  refine ⟨r, cs', l', x', ?_, a1, a2, ⟨a3, a4, a5⟩⟩
  have e : dCons (dVar 1) (dCons g dNil) (EN S e4 e5 e6) (B cs l x T) = some ([.ref 1, .int m], B cs l x T) := v_cons rfl (v_cons hg rfl)
  exact (v_app e).trans hd
theorem eq0 {f : Den} {r : Int} {env : DE} {h h' : HH} (hf : f env h = some (.int r, h')) : dApp2 (pEqD false) f (dC (.int 0)) env h = some (.bl (r == 0), h') := by
  refine (v_ap2 hf rfl).trans ?_
  have hs : SeqAt.shaped (.int r) = true := by
    unfold SeqAt.shaped
    rw [Bool.and_eq_true, decide_eq_true_eq]
    exact ⟨rfl, Nat.zero_le _⟩
  show (if SeqAt.shaped (.int r) = true ∧ SeqAt.shaped (.int 0) = true then some (D.bl (PyData.eqv (.int r) (.int 0)), h') else none) = _
  rw [if_pos ⟨hs, by decide⟩]
  rfl
theorem pure_bl {F : FDen} {ds : List D} {h : HH} (hp : plains ds = true) (ht : isT (F ds []) = true) : dPure F ds h = some (.bl true, h) := by
  unfold dPure
  rw [if_pos hp]
  cases e : F ds [] with
  | none => rw [e] at ht; cases ht
  | some r =>
    obtain ⟨d, h0⟩ := r
    rw [e] at ht
    cases d with
    | bl b => cases b with
      | true => rfl
      | false => cases ht
    | _ => cases ht
theorem ready_at (hR : menu.all cR = true) {p : WN} (hp : p ∈ menu) (b : Bool) {h : HH} : dPure d__law_is_ready [.str p.1, .int p.2, .bl b] h = some (.bl true, h) := by
  have q := List.all_eq_true.mp hR p hp
  unfold cR at q
  rw [Bool.and_eq_true] at q
  cases b with
  | true => exact pure_bl rfl q.1
  | false => exact pure_bl rfl q.2
theorem parts_at (hP : menu.all cP = true) {p : WN} (hp : p ∈ menu) {h : HH} : dPure d__law_by_parts [.str p.1, .int p.2] h = some (.bl true, h) := pure_bl rfl (List.all_eq_true.mp hP p hp)
theorem ready_call (hR : menu.all cR = true) {p : WN} (hp : p ∈ menu) {f : Den} {b : Bool} {h h' : HH} (hf : f (EN S (some (.str p.1)) e5 (some (.int p.2))) h = some (.bl b, h')) :
    dApp (dPure d__law_is_ready) (dCons (dVar 4) (dCons (dVar 6) (dCons f dNil))) (EN S (some (.str p.1)) e5 (some (.int p.2))) h = some (.bl true, h') := by
  have e : dCons (dVar 4) (dCons (dVar 6) (dCons f dNil)) (EN S (some (.str p.1)) e5 (some (.int p.2))) h = some ([.str p.1, .int p.2, .bl b], h') := v_cons rfl (v_cons rfl (v_cons hf rfl))
  exact (v_app e).trans (ready_at hR hp b)
theorem pop_at {ms : List WN} {r : Int} (h0 : 0 ≤ r) (h1 : r < ms.length) (hz : ms.length ≤ 100) : ∃ p ms', p ∈ ms ∧ (∀ y ∈ ms', y ∈ ms) ∧ ms'.length + 1 = ms.length ∧ pPopAt [.ref 2, .int r] (B cs l x [.lst (P ms)]) = some (.tup [.str p.1, .int p.2], B cs l x [.lst (P ms')]) := by
  have hk : r.toNat < ms.length := by omega
  refine ⟨ms[r.toNat], ms.eraseIdx r.toNat, List.getElem_mem hk, fun y hy => List.mem_of_mem_eraseIdx hy, ?_, ?_⟩
  · rw [List.length_eraseIdx]
    rw [if_pos hk]; omega
  · have l0 : (P ms).length = ms.length := by simp [P]
    have e1 : ixN (P ms).length r = some r.toNat := by
      rw [l0]
      unfold ixN
      rw [if_pos h0, if_pos h1]
    have e2 : (P ms)[r.toNat]? = some (.tup [.str ms[r.toNat].1, .int ms[r.toNat].2]) := by
      unfold P
      rw [List.getElem?_map, List.getElem?_eq_getElem hk]
      rfl
    have e3 : (P ms).eraseIdx r.toNat = P (ms.eraseIdx r.toNat) := by
      exact erase_map _ ms r.toNat
    show (if (P ms).length ≤ 1000000 then (match ixN (P ms).length r with
      | some k => (match (P ms)[k]? with
        | some d => some (d, (B cs l x [.lst (P ms)]).set 2 (.lst ((P ms).eraseIdx k)))
        | none => none)
      | none => none) else none) = _
    rw [if_pos (by omega), e1]
    simp only
    rw [e2]
    simp only
    rw [e3]
    rfl
theorem b1_ok {ms : List WN} (h0 : 0 < ms.length) (hz : ms.length ≤ 100) (gd : Good cs l x) :
    ∃ p ms' cs' l' x', b1 (EN S e4 e5 e6) (B cs l x [.lst (P ms)]) = some (.nx, EN S (some (.str p.1)) e5 (some (.int p.2)), B cs' l' x' [.lst (P ms')]) ∧ p ∈ ms ∧ (∀ y ∈ ms', y ∈ ms) ∧ ms'.length + 1 = ms.length ∧ Good cs' l' x' := by
  have l0 : (P ms).length = ms.length := by simp [P]
  have q0 : dApp pLenD (dCons (dVar 3) dNil) (EN S e4 e5 e6) (B cs l x [.lst (P ms)]) = some (.int ((ms.length : Nat) : Int), B cs l x [.lst (P ms)]) := by
    have : dApp pLenD (dCons (dVar 3) dNil) (EN S e4 e5 e6) (B cs l x [.lst (P ms)]) = some (.int (((P ms).length : Nat) : Int), B cs l x [.lst (P ms)]) := rfl
    rw [l0] at this
    exact this
  obtain ⟨r, cs', l', x', hd, a1, a2, g'⟩ := drawn (T := [.lst (P ms)]) q0 (by omega) gd
  obtain ⟨p, ms', hp, hsub, hlen, hpop⟩ := pop_at (cs := cs') (l := l') (x := x') a1 a2 hz
  refine ⟨p, ms', cs', l', x', ?_, hp, hsub, hlen, g'⟩
  have e1 : dCons (dApp d__law_draw (dCons (dVar 1) (dCons (dApp pLenD (dCons (dVar 3) dNil)) dNil))) dNil (EN S e4 e5 e6) (B cs l x [.lst (P ms)]) = some ([.int r], B cs' l' x' [.lst (P ms)]) := v_cons hd rfl
  have e2 : dMeth isL pPopAt (dVar 3) (dCons (dApp d__law_draw (dCons (dVar 1) (dCons (dApp pLenD (dCons (dVar 3) dNil)) dNil))) dNil) (EN S e4 e5 e6) (B cs l x [.lst (P ms)]) = some (.tup [.str p.1, .int p.2], B cs' l' x' [.lst (P ms')]) := by
    have e3 : dVar 3 (EN S e4 e5 e6) (B cs l x [.lst (P ms)]) = some (.ref 2, B cs l x [.lst (P ms)]) := rfl
    unfold dMeth
    rw [e3]
    simp only
    rw [if_pos (show isL (.ref 2) (B cs l x [.lst (P ms)]) = true from rfl), e1]
    exact hpop
  exact v_asg e2 rfl
theorem b2_ok (hR : menu.all cR = true) {p : WN} (hp : p ∈ menu) (gd : Good cs l x) :
    ∃ cs' l' x', b2 (EN S (some (.str p.1)) e5 (some (.int p.2))) (B cs l x T) = some (.nx, EN S (some (.str p.1)) e5 (some (.int p.2)), B cs' l' x' T) ∧ Good cs' l' x' := by
  obtain ⟨r, cs', l', x', hd, a1, a2, g'⟩ := drawn (S := S) (e4 := some (.str p.1)) (e5 := e5) (e6 := some (.int p.2)) (T := T) (g := dC (.int 2)) (m := 2) rfl (by omega) gd
  refine ⟨cs', l', x', ?_, g'⟩
  have q := ready_call (S := S) (e5 := e5) hR hp (eq0 hd)
  exact (v_sifF (v_not (v_test q))).trans rfl
theorem b3_ok (hR : menu.all cR = true) {p : WN} (hp : p ∈ menu) (gd : Good cs l x) :
    ∃ cs' l' x', b3 (EN S (some (.str p.1)) e5 (some (.int p.2))) (B cs l x T) = some (.nx, EN S (some (.str p.1)) e5 (some (.int p.2)), B cs' l' x' T) ∧ Good cs' l' x' := by
  obtain ⟨r, cs', l', x', hd, a1, a2, g'⟩ := drawn (S := S) (e4 := some (.str p.1)) (e5 := e5) (e6 := some (.int p.2)) (T := T) (g := dC (.int 6)) (m := 6) rfl (by omega) gd
  have q0 := v_test (eq0 hd)
  cases hr : (r == 0) with
  | false =>
    rw [hr] at q0
    exact ⟨cs', l', x', (v_sifF (v_and0 q0)).trans rfl, g'⟩
  | true =>
    rw [hr] at q0
    obtain ⟨r2, cs2, l2, x2, hd2, b1, b2, g2⟩ := drawn (S := S) (e4 := some (.str p.1)) (e5 := e5) (e6 := some (.int p.2)) (T := T) (g := dC (.int 2)) (m := 2) rfl (by omega) g'
    have q := ready_call (S := S) (e5 := e5) hR hp (eq0 hd2)
    exact ⟨cs2, l2, x2, (v_sifF ((v_and1 q0).trans (v_not (v_test q)))).trans rfl, g2⟩
/-- the first loop -/
theorem loop6 (hR : menu.all cR = true) : ∀ (its : List D) (ms : List WN) (e4 e5 e6 : Option D) (cs : List Int) (l x : Int), ms.length = its.length → ms.length ≤ 100 → (∀ p ∈ ms, p ∈ menu) → Good cs l x →
    ∃ ms' e4' e5' e6' cs' l' x', forGo (gSet 5) (sSeq b1 (sSeq b2 b3)) [] its (EN S e4 e5 e6) (B cs l x [.lst (P ms)]) = some (.nx, EN S e4' e5' e6', B cs' l' x' [.lst (P ms')]) ∧ Good cs' l' x'
  | [], ms, e4, e5, e6, cs, l, x, _, _, _, gd => ⟨ms, e4, e5, e6, cs, l, x, v_forNil rfl, gd⟩
  | d :: r, ms, e4, e5, e6, cs, l, x, hl, hz, hm, gd => by
    rw [List.length_cons] at hl
    obtain ⟨p, ms1, cs1, l1, x1, t1, hp, hsub, hlen, g1⟩ := b1_ok (S := S) (e4 := e4) (e5 := some d) (e6 := e6) (ms := ms) (by omega) hz gd
    obtain ⟨cs2, l2, x2, t2, g2⟩ := b2_ok (S := S) (e5 := some d) (T := [.lst (P ms1)]) hR (hm p hp) g1
    obtain ⟨cs3, l3, x3, t3, g3⟩ := b3_ok (S := S) (e5 := some d) (T := [.lst (P ms1)]) hR (hm p hp) g2
    obtain ⟨ms4, f4, f5, f6, cs4, l4, x4, t4, g4⟩ := loop6 hR r ms1 (some (.str p.1)) (some d) (some (.int p.2)) cs3 l3 x3 (by omega) (by omega) (fun y hy => hm y (hsub y hy)) g3
    refine ⟨ms4, f4, f5, f6, cs4, l4, x4, ?_, g4⟩
    have hb : sSeq b1 (sSeq b2 b3) (EN S e4 (some d) e6) (B cs l x [.lst (P ms)]) = some (.nx, EN S (some (.str p.1)) (some d) (some (.int p.2)), B cs3 l3 x3 [.lst (P ms1)]) := by
      rw [v_seq t1, v_seq t2, t3]
    exact (v_forNx (e1 := EN S e4 (some d) e6) (h1 := B cs l x [.lst (P ms)]) rfl rfl hb).trans t4
end
end K38

set_option Elab.async false
set_option linter.all false
set_option maxRecDepth 100000
set_option maxHeartbeats 4000000
/-! K38: the second loop; the whole run. -/
namespace K38
open PySem PySem.Spec PyProof.Rows L2 Dn
abbrev capD : Den := dIf (dTest (dApp2 (pInA false) (dVar 4) (dTup (dCons (dC (.str "jobs")) (dCons (dC (.str "tower")) dNil))))) (dC (.int 6)) (dC (.int 8))
abbrev twoD : BDen := dTest (dApp2 (pInA false) (dVar 4) (dTup (dCons (dC (.str "jobs")) (dCons (dC (.str "bins")) dNil))))
section
variable {S : List D} {e4 e5 e6 : Option D} {cs : List Int} {l x : Int} {T : HH}
theorem c1_ok {w : Str} {m : Int} (hg : ∀ e5 e6 h, capD (EN S (some (.str w)) e5 e6) h = some (.int m, h)) (hm : 0 < m ∧ m < 1000) (gd : Good cs l x) :
    ∃ r cs' l' x', c1 (EN S (some (.str w)) e5 e6) (B cs l x T) = some (.nx, EN S (some (.str w)) e5 (some (.int (1 + r))), B cs' l' x' T) ∧ 0 ≤ r ∧ r < m ∧ Good cs' l' x' := by
  obtain ⟨r, cs', l', x', hd, a1, a2, g'⟩ := drawn (S := S) (e4 := some (.str w)) (e5 := e5) (e6 := e6) (T := T) (g := capD) (hg e5 e6 _) hm gd
  exact ⟨r, cs', l', x', v_asg ((v_ap2 rfl hd).trans rfl) rfl, a1, a2, g'⟩
theorem c2_ok (hR : menu.all cR = true) (hP : menu.all cP = true) {p : WN} (hp : p ∈ menu) {h : HH} : c2 (EN S (some (.str p.1)) e5 (some (.int p.2))) h = some (.nx, EN S (some (.str p.1)) e5 (some (.int p.2)), h) := by
  have q1 : dApp (dPure d__law_by_parts) (dCons (dVar 4) (dCons (dVar 6) dNil)) (EN S (some (.str p.1)) e5 (some (.int p.2))) h = some (.bl true, h) := (v_app (v_cons rfl (v_cons rfl rfl))).trans (parts_at hP hp)
  have q2 := ready_call (S := S) (e5 := e5) (h := h) (h' := h) (f := dC (.bl true)) (b := true) hR hp rfl
  have q3 := ready_call (S := S) (e5 := e5) (h := h) (h' := h) (f := dC (.bl false)) (b := false) hR hp rfl
  exact (v_sifF ((v_or0 (v_not (v_test q1))).trans ((v_or0 (v_not (v_test q2))).trans (v_not (v_test q3))))).trans rfl
theorem c3_ok (hP : menu.all cP = true) {w : Str} {n : Int} {b : Bool} (ht : ∀ e5 e6 h, twoD (EN S (some (.str w)) e5 e6) h = some (b, h)) (hm : b = true → ∀ r : Int, 0 ≤ r → r < 2 → (w, 1 + r) ∈ menu) (gd : Good cs l x) :
    ∃ cs' l' x', c3 (EN S (some (.str w)) e5 (some (.int n))) (B cs l x T) = some (.nx, EN S (some (.str w)) e5 (some (.int n)), B cs' l' x' T) ∧ Good cs' l' x' := by
  cases b with
  | false => exact ⟨cs, l, x, (v_sifF (v_and0 (ht _ _ _))).trans rfl, gd⟩
  | true =>
    obtain ⟨r, cs', l', x', hd, a1, a2, g'⟩ := drawn (S := S) (e4 := some (.str w)) (e5 := e5) (e6 := some (.int n)) (T := T) (g := dC (.int 2)) (m := 2) rfl (by omega) gd
    have q0 : dApp2 pAdd (dC (.int 1)) (dApp d__law_draw (dCons (dVar 1) (dCons (dC (.int 2)) dNil))) (EN S (some (.str w)) e5 (some (.int n))) (B cs l x T) = some (.int (1 + r), B cs' l' x' T) := (v_ap2 rfl hd).trans rfl
    have q1 : dApp (dPure d__law_by_parts) (dCons (dVar 4) (dCons (dApp2 pAdd (dC (.int 1)) (dApp d__law_draw (dCons (dVar 1) (dCons (dC (.int 2)) dNil)))) dNil)) (EN S (some (.str w)) e5 (some (.int n))) (B cs l x T) = some (.bl true, B cs' l' x' T) :=
      (v_app (v_cons rfl (v_cons q0 rfl))).trans (parts_at hP (hm rfl r a1 a2))
    exact ⟨cs', l', x', (v_sifF ((v_and1 (ht _ _ _)).trans (v_not (v_test q1)))).trans rfl, g'⟩
/-- one word -/
theorem word_ok (hR : menu.all cR = true) (hP : menu.all cP = true) {w : Str} {m : Int} {b : Bool} (hg : ∀ e5 e6 h, capD (EN S (some (.str w)) e5 e6) h = some (.int m, h)) (ht : ∀ e5 e6 h, twoD (EN S (some (.str w)) e5 e6) h = some (b, h)) (hm : 2 ≤ m ∧ m < 1000) (hin : ∀ r : Int, 0 ≤ r → r < m → (w, 1 + r) ∈ menu) (gd : Good cs l x) :
    ∃ n cs' l' x', sSeq c1 (sSeq c2 c3) (EN S (some (.str w)) e5 e6) (B cs l x T) = some (.nx, EN S (some (.str w)) e5 (some (.int n)), B cs' l' x' T) ∧ Good cs' l' x' := by
  obtain ⟨r, cs1, l1, x1, t1, a1, a2, g1⟩ := c1_ok (S := S) (e5 := e5) (e6 := e6) (T := T) hg (by omega) gd
  have t2 := c2_ok (S := S) (e5 := e5) (p := (w, 1 + r)) (h := B cs1 l1 x1 T) hR hP (hin r a1 a2)
  obtain ⟨cs3, l3, x3, t3, g3⟩ := c3_ok (S := S) (e5 := e5) (T := T) (n := 1 + r) hP ht (fun _ r h0 h1 => hin r h0 (by omega)) g1
  refine ⟨1 + r, cs3, l3, x3, ?_, g3⟩
  rw [v_seq t1, v_seq t2, t3]
def upto : Nat → List Int
  | 0 => []
  | n + 1 => upto n ++ [((n + 1 : Nat) : Int)]
theorem in8 {w : Str} (h : (upto 8).all (fun n => decide ((w, n) ∈ menu)) = true) : ∀ r : Int, 0 ≤ r → r < 8 → (w, 1 + r) ∈ menu := fun r h0 h1 => by
  have q : 1 + r ∈ upto 8 := by
    simp only [upto, List.nil_append, List.cons_append, List.mem_cons, List.not_mem_nil, or_false]
    omega
  exact of_decide_eq_true (List.all_eq_true.mp h _ q)
theorem in6 {w : Str} (h : (upto 6).all (fun n => decide ((w, n) ∈ menu)) = true) : ∀ r : Int, 0 ≤ r → r < 6 → (w, 1 + r) ∈ menu := fun r h0 h1 => by
  have q : 1 + r ∈ upto 6 := by
    simp only [upto, List.nil_append, List.cons_append, List.mem_cons, List.not_mem_nil, or_false]
    omega
  exact of_decide_eq_true (List.all_eq_true.mp h _ q)
theorem s7_ok (hR : menu.all cR = true) (hP : menu.all cP = true) (gd : Good cs l x) : ∃ e4' e6' cs' l' x', s7 (EN S e4 e5 e6) (B cs l x T) = some (.nx, EN S e4' e5 e6', B cs' l' x' T) ∧ Good cs' l' x' := by
  obtain ⟨n1, cs1, l1, x1, t1, g1⟩ := word_ok (S := S) (e5 := e5) (e6 := e6) (T := T) (w := "bins") (m := 8) (b := true) hR hP (fun _ _ _ => rfl) (fun _ _ _ => rfl) (by decide) (in8 (by decide +kernel)) gd
  obtain ⟨n2, cs2, l2, x2, t2, g2⟩ := word_ok (S := S) (e5 := e5) (e6 := some (.int n1)) (T := T) (w := "foe") (m := 8) (b := false) hR hP (fun _ _ _ => rfl) (fun _ _ _ => rfl) (by decide) (in8 (by decide +kernel)) g1
  obtain ⟨n3, cs3, l3, x3, t3, g3⟩ := word_ok (S := S) (e5 := e5) (e6 := some (.int n2)) (T := T) (w := "jobs") (m := 6) (b := true) hR hP (fun _ _ _ => rfl) (fun _ _ _ => rfl) (by decide) (in6 (by decide +kernel)) g2
  obtain ⟨n4, cs4, l4, x4, t4, g4⟩ := word_ok (S := S) (e5 := e5) (e6 := some (.int n3)) (T := T) (w := "tower") (m := 6) (b := false) hR hP (fun _ _ _ => rfl) (fun _ _ _ => rfl) (by decide) (in6 (by decide +kernel)) g3
  obtain ⟨n5, cs5, l5, x5, t5, g5⟩ := word_ok (S := S) (e5 := e5) (e6 := some (.int n4)) (T := T) (w := "walk") (m := 8) (b := false) hR hP (fun _ _ _ => rfl) (fun _ _ _ => rfl) (by decide) (in8 (by decide +kernel)) g4
  refine ⟨some (.str "walk"), some (.int n5), cs5, l5, x5, ?_, g5⟩
  have hs : src7 (EN S e4 e5 e6) (B cs l x T) = some (([.str "bins", .str "foe", .str "jobs", .str "tower", .str "walk"], []), B cs l x T) := rfl
  refine (v_for hs).trans ?_
  refine (v_forNx (e1 := EN S (some (.str "bins")) e5 e6) rfl rfl t1).trans ?_
  refine (v_forNx (e1 := EN S (some (.str "foe")) e5 (some (.int n1))) rfl rfl t2).trans ?_
  refine (v_forNx (e1 := EN S (some (.str "jobs")) e5 (some (.int n2))) rfl rfl t3).trans ?_
  refine (v_forNx (e1 := EN S (some (.str "tower")) e5 (some (.int n3))) rfl rfl t4).trans ?_
  refine (v_forNx (e1 := EN S (some (.str "walk")) e5 (some (.int n4))) rfl rfl t5).trans ?_
  exact v_forNil rfl
theorem is_due {h : HH} {env : DE} (he : dVar 2 env h = some (dueD, h)) : dApp (dPure (d__law_is 6)) (dCons (dApp (dPure d_ready_rows) dNil) (dCons (dVar 2) dNil)) env h = some (.bl true, h) := by
  have q1 : dApp (dPure d_ready_rows) dNil env h = some (dueD, h) := rfl
  exact (v_app (v_cons q1 (v_cons he rfl))).trans (pure_bl rfl (by decide +kernel))
def x5 : SDen := sExpr (dMeth isL pExtend (dVar 3) (dCons (dFl (dComp [6] (iRng2D (dCons (dC (.int 1)) (dCons (dIf (dTest (dApp2 (pInA false) (dVar 4) (dTup (dCons (dC (.str "jobs")) (dCons (dC (.str "tower")) dNil))))) (dC (.int 7)) (dC (.int 9))) dNil))) (gSet 6) bYes (dTup (dCons (dVar 4) (dCons (dVar 6) dNil))))) dNil))
def g1 : List WN := m1 ++ (m2 ++ m3)
def g2 : List WN := g1 ++ m4
def g3 : List WN := g2 ++ m5
def g4 : List WN := g3 ++ m6
theorem y1 : x5 (EN S (some (.str "bins")) none none) (B cs 0 x [.lst []]) = some (.nx, EN S (some (.str "bins")) none none, B cs 0 x [.lst (P g1)]) := rfl
theorem y2 : x5 (EN S (some (.str "foe")) none none) (B cs 0 x [.lst (P g1)]) = some (.nx, EN S (some (.str "foe")) none none, B cs 0 x [.lst (P g2)]) := rfl
theorem y3 : x5 (EN S (some (.str "jobs")) none none) (B cs 0 x [.lst (P g2)]) = some (.nx, EN S (some (.str "jobs")) none none, B cs 0 x [.lst (P g3)]) := rfl
theorem y4 : x5 (EN S (some (.str "tower")) none none) (B cs 0 x [.lst (P g3)]) = some (.nx, EN S (some (.str "tower")) none none, B cs 0 x [.lst (P g4)]) := rfl
theorem y5 : x5 (EN S (some (.str "walk")) none none) (B cs 0 x [.lst (P g4)]) = some (.nx, EN S (some (.str "walk")) none none, B cs 0 x [.lst (P menu)]) := rfl
theorem s5_ok : s5 (EN S none none none) (B cs 0 x [.lst []]) = some (.nx, EN S (some (.str "walk")) none none, B cs 0 x [.lst (P menu)]) := by
  have hs : iAny (dVar 2) (EN S none none none) (B cs 0 x [.lst []]) = some (([.str "bins", .str "foe", .str "jobs", .str "tower", .str "walk"], []), B cs 0 x [.lst []]) := rfl
  refine (v_for hs).trans ?_
  refine (v_forNx (e1 := EN S (some (.str "bins")) none none) rfl rfl y1).trans ?_
  refine (v_forNx (e1 := EN S (some (.str "foe")) none none) rfl rfl y2).trans ?_
  refine (v_forNx (e1 := EN S (some (.str "jobs")) none none) rfl rfl y3).trans ?_
  refine (v_forNx (e1 := EN S (some (.str "tower")) none none) rfl rfl y4).trans ?_
  refine (v_forNx (e1 := EN S (some (.str "walk")) none none) rfl rfl y5).trans ?_
  exact v_forNil rfl
end
/-- the whole run -/
theorem law_ok {ns : List Int} (hn : ns.length ≤ 63) (hR : menu.all cR = true) (hP : menu.all cP = true) (hE : isT (d__law_are_examples_right [] []) = true) : ∃ h, d_law [.sc (iD ns)] [] = some (.bl true, h) := by
  obtain ⟨cs, x, hb, b1', b2', b3'⟩ := bag_ok hn
  have gd : Good cs 0 x := ⟨Int.le_refl 0, b1', b2', b3'⟩
  have t1 : s1 [some (.sc (iD ns)), none, none, none, none, none, none] [] = some (.nx, [some (.sc (iD ns)), some (.ref 1), none, none, none, none, none], B cs 0 x []) := v_asg ((v_app (v_cons rfl rfl)).trans hb) rfl
  have t2 : s2 [some (.sc (iD ns)), some (.ref 1), none, none, none, none, none] (B cs 0 x []) = some (.nx, [some (.sc (iD ns)), some (.ref 1), some dueD, none, none, none, none], B cs 0 x []) := rfl
  have t3 : s3 [some (.sc (iD ns)), some (.ref 1), some dueD, none, none, none, none] (B cs 0 x []) = some (.nx, [some (.sc (iD ns)), some (.ref 1), some dueD, none, none, none, none], B cs 0 x []) :=
    (v_sifF (v_not (v_test (is_due rfl)))).trans rfl
  have t4 : s4 [some (.sc (iD ns)), some (.ref 1), some dueD, none, none, none, none] (B cs 0 x []) = some (.nx, EN (iD ns) none none none, B cs 0 x [.lst []]) := rfl
  have t5 := s5_ok (S := iD ns) (cs := cs) (x := x)
  have hs6 : src6 (EN (iD ns) (some (.str "walk")) none none) (B cs 0 x [.lst (P menu)]) = some ((rngD 0 36, []), B cs 0 x [.lst (P menu)]) := rfl
  obtain ⟨ms, f4, f5, f6, cs6, l6, x6, t6', g6⟩ := loop6 (S := iD ns) hR (rngD 0 36) menu (some (.str "walk")) none none cs 0 x (by decide +kernel) (by decide +kernel) (fun p hp => hp) gd
  have t6 : s6 (EN (iD ns) (some (.str "walk")) none none) (B cs 0 x [.lst (P menu)]) = some (.nx, EN (iD ns) f4 f5 f6, B cs6 l6 x6 [.lst (P ms)]) := (v_for hs6).trans t6'
  obtain ⟨g4, g6', cs7, l7, x7, t7, _⟩ := s7_ok (S := iD ns) (e4 := f4) (e5 := f5) (e6 := f6) (T := [.lst (P ms)]) hR hP g6
  refine ⟨B cs7 l7 x7 [.lst (P ms)], ?_⟩
  rw [law_is]
  refine v_run (e1 := EN (iD ns) g4 f5 g6') rfl ?_
  show sSeq s1 _ [some (.sc (iD ns)), none, none, none, none, none, none] [] = _
  rw [v_seq t1, v_seq t2, v_seq t3, v_seq t4, v_seq t5, v_seq t6, v_seq t7]
  exact v_ret ((v_andV (is_due rfl)).trans ((v_app rfl).trans (pure_bl rfl hE)))
end K38

set_option Elab.async false
set_option linter.all false
set_option maxRecDepth 100000
set_option maxHeartbeats 4000000
/-! K38: the closed calls, reckoned. -/
namespace K38
open PySem PySem.Spec PyProof.Rows L2 Dn
theorem r1 : m1.all cR = true := by decide +kernel
theorem r2 : m2.all cR = true := by decide +kernel
theorem r3 : m3.all cR = true := by decide +kernel
theorem r4 : m4.all cR = true := by decide +kernel
theorem r5 : m5.all cR = true := by decide +kernel
theorem r6 : m6.all cR = true := by decide +kernel
theorem r7 : m7.all cR = true := by decide +kernel
theorem ready_all : menu.all cR = true := all_ap r1 (all_ap r2 (all_ap r3 (all_ap r4 (all_ap r5 (all_ap r6 r7)))))
theorem p1 : m1.all cP = true := by decide +kernel
theorem p2 : m2.all cP = true := by decide +kernel
theorem p3 : m3.all cP = true := by decide +kernel
theorem p4 : m4.all cP = true := by decide +kernel
theorem p5 : m5.all cP = true := by decide +kernel
theorem p6 : m6.all cP = true := by decide +kernel
theorem p7 : m7.all cP = true := by decide +kernel
theorem parts_all : menu.all cP = true := all_ap p1 (all_ap p2 (all_ap p3 (all_ap p4 (all_ap p5 (all_ap p6 p7)))))
theorem exam_ok : isT (d__law_are_examples_right [] []) = true := by decide +kernel
end K38

set_option Elab.async false
set_option linter.all false
namespace K38
open PySem PySem.Spec PyProof.Rows L2 Dn
theorem run_ok {ns : List Int} (hn : ns.length ≤ 63) : ∃ h, d_law [.sc (ns.map D.int)] [] = some (.bl true, h) := law_ok hn ready_all parts_all exam_ok
end K38

set_option Elab.async false
set_option linter.all false
set_option maxRecDepth 100000
namespace K38
open PySem PySem.Spec PyProof.Rows L2 Dn
theorem all_mk {l : PySem.W.OpenLaw} {w : World} {K : PySem.W.Frag} {h : Heap} {mg : Str → Option Value} {fa f0 f1 f2 f3 f4 f5 f6 f7 f8 f9 f10 f11 f12 f13 f14 f15 f16 f17 f18 f19 f20 f21 f22 f23 f24 f25 f26 f27 f28 f29 f30 f31 f32 f33 f34 f35 f36 f37 f38 f39 f40 f41 f42 f43 f44 f45 f46 f47 f48 f49 f50 : Addr} (X : K.In h) (G : h.Ns mainGlobals mg) (hfa : mg "law" = some (.ref fa))
    {od0 an0 od1 an1 od2 an2 od3 an3 od4 an4 od5 an5 od6 an6 od7 an7 od8 an8 od9 an9 od10 an10 od11 an11 od12 an12 od13 an13 od14 an14 od15 an15 od16 an16 od17 an17 od18 an18 od19 an19 od20 an20 od21 an21 od22 an22 od23 an23 od24 an24 od25 an25 od26 an26 od27 an27 od28 an28 od29 an29 od30 an30 od31 an31 od32 an32 od33 an33 od34 an34 od35 an35 od36 an36 od37 an37 od38 an38 od39 an39 od40 an40 od41 an41 od42 an42 od43 an43 od44 an44 od45 an45 od46 an46 od47 an47 od48 an48 od49 an49 od50 an50 : Option Addr} {sl0 sl1 sl2 sl3 sl4 sl5 sl6 sl7 sl8 sl9 sl10 sl11 sl12 sl13 sl14 sl15 sl16 sl17 sl18 sl19 sl20 sl21 sl22 sl23 sl24 sl25 sl26 sl27 sl28 sl29 sl30 sl31 sl32 sl33 sl34 sl35 sl36 sl37 sl38 sl39 sl40 sl41 sl42 sl43 sl44 sl45 sl46 sl47 sl48 sl49 sl50 : Array (Option Value)} {oc0 kV0 dc0 pm0 cd0 ct0 oc1 kV1 dc1 pm1 cd1 ct1 oc2 kV2 dc2 pm2 cd2 ct2 oc3 kV3 dc3 pm3 cd3 ct3 oc4 kV4 dc4 pm4 cd4 ct4 oc5 kV5 dc5 pm5 cd5 ct5 oc6 kV6 dc6 pm6 cd6 ct6 oc7 kV7 dc7 pm7 cd7 ct7 oc8 kV8 dc8 pm8 cd8 ct8 oc9 kV9 dc9 pm9 cd9 ct9 oc10 kV10 dc10 pm10 cd10 ct10 oc11 kV11 dc11 pm11 cd11 ct11 oc12 kV12 dc12 pm12 cd12 ct12 oc13 kV13 dc13 pm13 cd13 ct13 oc14 kV14 dc14 pm14 cd14 ct14 oc15 kV15 dc15 pm15 cd15 ct15 oc16 kV16 dc16 pm16 cd16 ct16 oc17 kV17 dc17 pm17 cd17 ct17 oc18 kV18 dc18 pm18 cd18 ct18 oc19 kV19 dc19 pm19 cd19 ct19 oc20 kV20 dc20 pm20 cd20 ct20 oc21 kV21 dc21 pm21 cd21 ct21 oc22 kV22 dc22 pm22 cd22 ct22 oc23 kV23 dc23 pm23 cd23 ct23 oc24 kV24 dc24 pm24 cd24 ct24 oc25 kV25 dc25 pm25 cd25 ct25 oc26 kV26 dc26 pm26 cd26 ct26 oc27 kV27 dc27 pm27 cd27 ct27 oc28 kV28 dc28 pm28 cd28 ct28 oc29 kV29 dc29 pm29 cd29 ct29 oc30 kV30 dc30 pm30 cd30 ct30 oc31 kV31 dc31 pm31 cd31 ct31 oc32 kV32 dc32 pm32 cd32 ct32 oc33 kV33 dc33 pm33 cd33 ct33 oc34 kV34 dc34 pm34 cd34 ct34 oc35 kV35 dc35 pm35 cd35 ct35 oc36 kV36 dc36 pm36 cd36 ct36 oc37 kV37 dc37 pm37 cd37 ct37 oc38 kV38 dc38 pm38 cd38 ct38 oc39 kV39 dc39 pm39 cd39 ct39 oc40 kV40 dc40 pm40 cd40 ct40 oc41 kV41 dc41 pm41 cd41 ct41 oc42 kV42 dc42 pm42 cd42 ct42 oc43 kV43 dc43 pm43 cd43 ct43 oc44 kV44 dc44 pm44 cd44 ct44 oc45 kV45 dc45 pm45 cd45 ct45 oc46 kV46 dc46 pm46 cd46 ct46 oc47 kV47 dc47 pm47 cd47 ct47 oc48 kV48 dc48 pm48 cd48 ct48 oc49 kV49 dc49 pm49 cd49 ct49 oc50 kV50 dc50 pm50 cd50 ct50 : Value}
    (a0 : PySem.W.nsIn K mainGlobals "next_fit" = some (some (.ref f0))) (l0 : K.lookup f0 = some ⟨oc0, od0, .func (PySem.W.fnOf "next_fit" "next_fit" (defArgs st_next_fit) (defBody st_next_fit) (defScope st_next_fit) .none kV0 dc0 pm0 an0 cd0 ct0), sl0⟩) (c0 : PySem.W.codeIn K cd0 "next_fit" = true) (k0 : PySem.W.keepIn K (.ref f0) = true)
    (a1 : PySem.W.nsIn K mainGlobals "least_bins" = some (some (.ref f1))) (l1 : K.lookup f1 = some ⟨oc1, od1, .func (PySem.W.fnOf "least_bins" "least_bins" (defArgs st_least_bins) (defBody st_least_bins) (defScope st_least_bins) .none kV1 dc1 pm1 an1 cd1 ct1), sl1⟩) (c1 : PySem.W.codeIn K cd1 "least_bins" = true) (k1 : PySem.W.keepIn K (.ref f1) = true)
    (a2 : PySem.W.nsIn K mainGlobals "best_packing" = some (some (.ref f2))) (l2 : K.lookup f2 = some ⟨oc2, od2, .func (PySem.W.fnOf "best_packing" "best_packing" (defArgs st_best_packing) (defBody st_best_packing) (defScope st_best_packing) .none kV2 dc2 pm2 an2 cd2 ct2), sl2⟩) (c2 : PySem.W.codeIn K cd2 "best_packing" = true) (k2 : PySem.W.keepIn K (.ref f2) = true)
    (a3 : PySem.W.nsIn K mainGlobals "bin_hindsight" = some (some (.ref f3))) (l3 : K.lookup f3 = some ⟨oc3, od3, .func (PySem.W.fnOf "bin_hindsight" "bin_hindsight" (defArgs st_bin_hindsight) (defBody st_bin_hindsight) (defScope st_bin_hindsight) .none kV3 dc3 pm3 an3 cd3 ct3), sl3⟩) (c3 : PySem.W.codeIn K cd3 "bin_hindsight" = true) (k3 : PySem.W.keepIn K (.ref f3) = true)
    (a4 : PySem.W.nsIn K mainGlobals "bin_foe" = some (some (.ref f4))) (l4 : K.lookup f4 = some ⟨oc4, od4, .func (PySem.W.fnOf "bin_foe" "bin_foe" (defArgs st_bin_foe) (defBody st_bin_foe) (defScope st_bin_foe) .none kV4 dc4 pm4 an4 cd4 ct4), sl4⟩) (c4 : PySem.W.codeIn K cd4 "bin_foe" = true) (k4 : PySem.W.keepIn K (.ref f4) = true)
    (a5 : PySem.W.nsIn K mainGlobals "is_forest" = some (some (.ref f5))) (l5 : K.lookup f5 = some ⟨oc5, od5, .func (PySem.W.fnOf "is_forest" "is_forest" (defArgs st_is_forest) (defBody st_is_forest) (defScope st_is_forest) .none kV5 dc5 pm5 an5 cd5 ct5), sl5⟩) (c5 : PySem.W.codeIn K cd5 "is_forest" = true) (k5 : PySem.W.keepIn K (.ref f5) = true)
    (a6 : PySem.W.nsIn K mainGlobals "least_colours" = some (some (.ref f6))) (l6 : K.lookup f6 = some ⟨oc6, od6, .func (PySem.W.fnOf "least_colours" "least_colours" (defArgs st_least_colours) (defBody st_least_colours) (defScope st_least_colours) .none kV6 dc6 pm6 an6 cd6 ct6), sl6⟩) (c6 : PySem.W.codeIn K cd6 "least_colours" = true) (k6 : PySem.W.keepIn K (.ref f6) = true)
    (a7 : PySem.W.nsIn K mainGlobals "two_colours" = some (some (.ref f7))) (l7 : K.lookup f7 = some ⟨oc7, od7, .func (PySem.W.fnOf "two_colours" "two_colours" (defArgs st_two_colours) (defBody st_two_colours) (defScope st_two_colours) .none kV7 dc7 pm7 an7 cd7 ct7), sl7⟩) (c7 : PySem.W.codeIn K cd7 "two_colours" = true) (k7 : PySem.W.keepIn K (.ref f7) = true)
    (a8 : PySem.W.nsIn K mainGlobals "colour_tower" = some (some (.ref f8))) (l8 : K.lookup f8 = some ⟨oc8, od8, .func (PySem.W.fnOf "colour_tower" "colour_tower" (defArgs st_colour_tower) (defBody st_colour_tower) (defScope st_colour_tower) .none kV8 dc8 pm8 an8 cd8 ct8), sl8⟩) (c8 : PySem.W.codeIn K cd8 "colour_tower" = true) (k8 : PySem.W.keepIn K (.ref f8) = true)
    (a9 : PySem.W.nsIn K mainGlobals "put_at" = some (some (.ref f9))) (l9 : K.lookup f9 = some ⟨oc9, od9, .func (PySem.W.fnOf "put_at" "put_at" (defArgs st_put_at) (defBody st_put_at) (defScope st_put_at) .none kV9 dc9 pm9 an9 cd9 ct9), sl9⟩) (c9 : PySem.W.codeIn K cd9 "put_at" = true) (k9 : PySem.W.keepIn K (.ref f9) = true)
    (a10 : PySem.W.nsIn K mainGlobals "near_step" = some (some (.ref f10))) (l10 : K.lookup f10 = some ⟨oc10, od10, .func (PySem.W.fnOf "near_step" "near_step" (defArgs st_near_step) (defBody st_near_step) (defScope st_near_step) .none kV10 dc10 pm10 an10 cd10 ct10), sl10⟩) (c10 : PySem.W.codeIn K cd10 "near_step" = true) (k10 : PySem.W.keepIn K (.ref f10) = true)
    (a11 : PySem.W.nsIn K mainGlobals "both_step" = some (some (.ref f11))) (l11 : K.lookup f11 = some ⟨oc11, od11, .func (PySem.W.fnOf "both_step" "both_step" (defArgs st_both_step) (defBody st_both_step) (defScope st_both_step) .none kV11 dc11 pm11 an11 cd11 ct11), sl11⟩) (c11 : PySem.W.codeIn K cd11 "both_step" = true) (k11 : PySem.W.keepIn K (.ref f11) = true)
    (a12 : PySem.W.nsIn K mainGlobals "step_of" = some (some (.ref f12))) (l12 : K.lookup f12 = some ⟨oc12, od12, .func (PySem.W.fnOf "step_of" "step_of" (defArgs st_step_of) (defBody st_step_of) (defScope st_step_of) .none kV12 dc12 pm12 an12 cd12 ct12), sl12⟩) (c12 : PySem.W.codeIn K cd12 "step_of" = true) (k12 : PySem.W.keepIn K (.ref f12) = true)
    (a13 : PySem.W.nsIn K mainGlobals "paid_of" = some (some (.ref f13))) (l13 : K.lookup f13 = some ⟨oc13, od13, .func (PySem.W.fnOf "paid_of" "paid_of" (defArgs st_paid_of) (defBody st_paid_of) (defScope st_paid_of) .none kV13 dc13 pm13 an13 cd13 ct13), sl13⟩) (c13 : PySem.W.codeIn K cd13 "paid_of" = true) (k13 : PySem.W.keepIn K (.ref f13) = true)
    (a14 : PySem.W.nsIn K mainGlobals "state_match" = some (some (.ref f14))) (l14 : K.lookup f14 = some ⟨oc14, od14, .func (PySem.W.fnOf "state_match" "state_match" (defArgs st_state_match) (defBody st_state_match) (defScope st_state_match) .none kV14 dc14 pm14 an14 cd14 ct14), sl14⟩) (c14 : PySem.W.codeIn K cd14 "state_match" = true) (k14 : PySem.W.keepIn K (.ref f14) = true)
    (a15 : PySem.W.nsIn K mainGlobals "moved_state" = some (some (.ref f15))) (l15 : K.lookup f15 = some ⟨oc15, od15, .func (PySem.W.fnOf "moved_state" "moved_state" (defArgs st_moved_state) (defBody st_moved_state) (defScope st_moved_state) .none kV15 dc15 pm15 an15 cd15 ct15), sl15⟩) (c15 : PySem.W.codeIn K cd15 "moved_state" = true) (k15 : PySem.W.keepIn K (.ref f15) = true)
    (a16 : PySem.W.nsIn K mainGlobals "greedy_trap" = some (some (.ref f16))) (l16 : K.lookup f16 = some ⟨oc16, od16, .func (PySem.W.fnOf "greedy_trap" "greedy_trap" (defArgs st_greedy_trap) (defBody st_greedy_trap) (defScope st_greedy_trap) .none kV16 dc16 pm16 an16 cd16 ct16), sl16⟩) (c16 : PySem.W.codeIn K cd16 "greedy_trap" = true) (k16 : PySem.W.keepIn K (.ref f16) = true)
    (a17 : PySem.W.nsIn K mainGlobals "list_giving" = some (some (.ref f17))) (l17 : K.lookup f17 = some ⟨oc17, od17, .func (PySem.W.fnOf "list_giving" "list_giving" (defArgs st_list_giving) (defBody st_list_giving) (defScope st_list_giving) .none kV17 dc17 pm17 an17 cd17 ct17), sl17⟩) (c17 : PySem.W.codeIn K cd17 "list_giving" = true) (k17 : PySem.W.keepIn K (.ref f17) = true)
    (a18 : PySem.W.nsIn K mainGlobals "machine_sums" = some (some (.ref f18))) (l18 : K.lookup f18 = some ⟨oc18, od18, .func (PySem.W.fnOf "machine_sums" "machine_sums" (defArgs st_machine_sums) (defBody st_machine_sums) (defScope st_machine_sums) .none kV18 dc18 pm18 an18 cd18 ct18), sl18⟩) (c18 : PySem.W.codeIn K cd18 "machine_sums" = true) (k18 : PySem.W.keepIn K (.ref f18) = true)
    (a19 : PySem.W.nsIn K mainGlobals "giving_end" = some (some (.ref f19))) (l19 : K.lookup f19 = some ⟨oc19, od19, .func (PySem.W.fnOf "giving_end" "giving_end" (defArgs st_giving_end) (defBody st_giving_end) (defScope st_giving_end) .none kV19 dc19 pm19 an19 cd19 ct19), sl19⟩) (c19 : PySem.W.codeIn K cd19 "giving_end" = true) (k19 : PySem.W.keepIn K (.ref f19) = true)
    (a20 : PySem.W.nsIn K mainGlobals "longest_first" = some (some (.ref f20))) (l20 : K.lookup f20 = some ⟨oc20, od20, .func (PySem.W.fnOf "longest_first" "longest_first" (defArgs st_longest_first) (defBody st_longest_first) (defScope st_longest_first) .none kV20 dc20 pm20 an20 cd20 ct20), sl20⟩) (c20 : PySem.W.codeIn K cd20 "longest_first" = true) (k20 : PySem.W.keepIn K (.ref f20) = true)
    (a21 : PySem.W.nsIn K mainGlobals "sums_met" = some (some (.ref f21))) (l21 : K.lookup f21 = some ⟨oc21, od21, .func (PySem.W.fnOf "sums_met" "sums_met" (defArgs st_sums_met) (defBody st_sums_met) (defScope st_sums_met) .none kV21 dc21 pm21 an21 cd21 ct21), sl21⟩) (c21 : PySem.W.codeIn K cd21 "sums_met" = true) (k21 : PySem.W.keepIn K (.ref f21) = true)
    (a22 : PySem.W.nsIn K mainGlobals "load_hindsight" = some (some (.ref f22))) (l22 : K.lookup f22 = some ⟨oc22, od22, .func (PySem.W.fnOf "load_hindsight" "load_hindsight" (defArgs st_load_hindsight) (defBody st_load_hindsight) (defScope st_load_hindsight) .none kV22 dc22 pm22 an22 cd22 ct22), sl22⟩) (c22 : PySem.W.codeIn K cd22 "load_hindsight" = true) (k22 : PySem.W.keepIn K (.ref f22) = true)
    (a23 : PySem.W.nsIn K mainGlobals "load_foe" = some (some (.ref f23))) (l23 : K.lookup f23 = some ⟨oc23, od23, .func (PySem.W.fnOf "load_foe" "load_foe" (defArgs st_load_foe) (defBody st_load_foe) (defScope st_load_foe) .none kV23 dc23 pm23 an23 cd23 ct23), sl23⟩) (c23 : PySem.W.codeIn K cd23 "load_foe" = true) (k23 : PySem.W.keepIn K (.ref f23) = true)
    (a24 : PySem.W.nsIn K mainGlobals "work_layers" = some (some (.ref f24))) (l24 : K.lookup f24 = some ⟨oc24, od24, .func (PySem.W.fnOf "work_layers" "work_layers" (defArgs st_work_layers) (defBody st_work_layers) (defScope st_work_layers) .none kV24 dc24 pm24 an24 cd24 ct24), sl24⟩) (c24 : PySem.W.codeIn K cd24 "work_layers" = true) (k24 : PySem.W.keepIn K (.ref f24) = true)
    (a25 : PySem.W.nsIn K mainGlobals "server_hindsight" = some (some (.ref f25))) (l25 : K.lookup f25 = some ⟨oc25, od25, .func (PySem.W.fnOf "server_hindsight" "server_hindsight" (defArgs st_server_hindsight) (defBody st_server_hindsight) (defScope st_server_hindsight) .none kV25 dc25 pm25 an25 cd25 ct25), sl25⟩) (c25 : PySem.W.codeIn K cd25 "server_hindsight" = true) (k25 : PySem.W.keepIn K (.ref f25) = true)
    (a26 : PySem.W.nsIn K mainGlobals "work_step" = some (some (.ref f26))) (l26 : K.lookup f26 = some ⟨oc26, od26, .func (PySem.W.fnOf "work_step" "work_step" (defArgs st_work_step) (defBody st_work_step) (defScope st_work_step) .none kV26 dc26 pm26 an26 cd26 ct26), sl26⟩) (c26 : PySem.W.codeIn K cd26 "work_step" = true) (k26 : PySem.W.keepIn K (.ref f26) = true)
    (a27 : PySem.W.nsIn K mainGlobals "first_state" = some (some (.ref f27))) (l27 : K.lookup f27 = some ⟨oc27, od27, .func (PySem.W.fnOf "first_state" "first_state" (defArgs st_first_state) (defBody st_first_state) (defScope st_first_state) .none kV27 dc27 pm27 an27 cd27 ct27), sl27⟩) (c27 : PySem.W.codeIn K cd27 "first_state" = true) (k27 : PySem.W.keepIn K (.ref f27) = true)
    (a28 : PySem.W.nsIn K mainGlobals "server_foe" = some (some (.ref f28))) (l28 : K.lookup f28 = some ⟨oc28, od28, .func (PySem.W.fnOf "server_foe" "server_foe" (defArgs st_server_foe) (defBody st_server_foe) (defScope st_server_foe) .none kV28 dc28 pm28 an28 cd28 ct28), sl28⟩) (c28 : PySem.W.codeIn K cd28 "server_foe" = true) (k28 : PySem.W.keepIn K (.ref f28) = true)
    (a29 : PySem.W.nsIn K mainGlobals "ready_rows" = some (some (.ref f29))) (l29 : K.lookup f29 = some ⟨oc29, od29, .func (PySem.W.fnOf "ready_rows" "ready_rows" (defArgs st_ready_rows) (defBody st_ready_rows) (defScope st_ready_rows) .none kV29 dc29 pm29 an29 cd29 ct29), sl29⟩) (c29 : PySem.W.codeIn K cd29 "ready_rows" = true) (k29 : PySem.W.keepIn K (.ref f29) = true)
    (a30 : PySem.W.nsIn K mainGlobals "ready_row" = some (some (.ref f30))) (l30 : K.lookup f30 = some ⟨oc30, od30, .func (PySem.W.fnOf "ready_row" "ready_row" (defArgs st_ready_row) (defBody st_ready_row) (defScope st_ready_row) .none kV30 dc30 pm30 an30 cd30 ct30), sl30⟩) (c30 : PySem.W.codeIn K cd30 "ready_row" = true) (k30 : PySem.W.keepIn K (.ref f30) = true)
    (a31 : PySem.W.nsIn K mainGlobals "ready_pays" = some (some (.ref f31))) (l31 : K.lookup f31 = some ⟨oc31, od31, .func (PySem.W.fnOf "ready_pays" "ready_pays" (defArgs st_ready_pays) (defBody st_ready_pays) (defScope st_ready_pays) .none kV31 dc31 pm31 an31 cd31 ct31), sl31⟩) (c31 : PySem.W.codeIn K cd31 "ready_pays" = true) (k31 : PySem.W.keepIn K (.ref f31) = true)
    (a32 : PySem.W.nsIn K mainGlobals "_law_bag" = some (some (.ref f32))) (l32 : K.lookup f32 = some ⟨oc32, od32, .func (PySem.W.fnOf "_law_bag" "_law_bag" (defArgs st__law_bag) (defBody st__law_bag) (defScope st__law_bag) .none kV32 dc32 pm32 an32 cd32 ct32), sl32⟩) (c32 : PySem.W.codeIn K cd32 "_law_bag" = true) (k32 : PySem.W.keepIn K (.ref f32) = true)
    (a33 : PySem.W.nsIn K mainGlobals "_law_draw" = some (some (.ref f33))) (l33 : K.lookup f33 = some ⟨oc33, od33, .func (PySem.W.fnOf "_law_draw" "_law_draw" (defArgs st__law_draw) (defBody st__law_draw) (defScope st__law_draw) .none kV33 dc33 pm33 an33 cd33 ct33), sl33⟩) (c33 : PySem.W.codeIn K cd33 "_law_draw" = true) (k33 : PySem.W.keepIn K (.ref f33) = true)
    (a34 : PySem.W.nsIn K mainGlobals "_law_is" = some (some (.ref f34))) (l34 : K.lookup f34 = some ⟨oc34, od34, .func (PySem.W.fnOf "_law_is" "_law_is" (defArgs st__law_is) (defBody st__law_is) (defScope st__law_is) .none kV34 dc34 pm34 an34 cd34 ct34), sl34⟩) (c34 : PySem.W.codeIn K cd34 "_law_is" = true) (k34 : PySem.W.keepIn K (.ref f34) = true)
    (a35 : PySem.W.nsIn K mainGlobals "_law_near" = some (some (.ref f35))) (l35 : K.lookup f35 = some ⟨oc35, od35, .func (PySem.W.fnOf "_law_near" "_law_near" (defArgs st__law_near) (defBody st__law_near) (defScope st__law_near) .none kV35 dc35 pm35 an35 cd35 ct35), sl35⟩) (c35 : PySem.W.codeIn K cd35 "_law_near" = true) (k35 : PySem.W.keepIn K (.ref f35) = true)
    (a36 : PySem.W.nsIn K mainGlobals "_law_near_pay" = some (some (.ref f36))) (l36 : K.lookup f36 = some ⟨oc36, od36, .func (PySem.W.fnOf "_law_near_pay" "_law_near_pay" (defArgs st__law_near_pay) (defBody st__law_near_pay) (defScope st__law_near_pay) .none kV36 dc36 pm36 an36 cd36 ct36), sl36⟩) (c36 : PySem.W.codeIn K cd36 "_law_near_pay" = true) (k36 : PySem.W.keepIn K (.ref f36) = true)
    (a37 : PySem.W.nsIn K mainGlobals "_law_hindsight" = some (some (.ref f37))) (l37 : K.lookup f37 = some ⟨oc37, od37, .func (PySem.W.fnOf "_law_hindsight" "_law_hindsight" (defArgs st__law_hindsight) (defBody st__law_hindsight) (defScope st__law_hindsight) .none kV37 dc37 pm37 an37 cd37 ct37), sl37⟩) (c37 : PySem.W.codeIn K cd37 "_law_hindsight" = true) (k37 : PySem.W.keepIn K (.ref f37) = true)
    (a38 : PySem.W.nsIn K mainGlobals "_law_foe_row" = some (some (.ref f38))) (l38 : K.lookup f38 = some ⟨oc38, od38, .func (PySem.W.fnOf "_law_foe_row" "_law_foe_row" (defArgs st__law_foe_row) (defBody st__law_foe_row) (defScope st__law_foe_row) .none kV38 dc38 pm38 an38 cd38 ct38), sl38⟩) (c38 : PySem.W.codeIn K cd38 "_law_foe_row" = true) (k38 : PySem.W.keepIn K (.ref f38) = true)
    (a39 : PySem.W.nsIn K mainGlobals "_law_tower" = some (some (.ref f39))) (l39 : K.lookup f39 = some ⟨oc39, od39, .func (PySem.W.fnOf "_law_tower" "_law_tower" (defArgs st__law_tower) (defBody st__law_tower) (defScope st__law_tower) .none kV39 dc39 pm39 an39 cd39 ct39), sl39⟩) (c39 : PySem.W.codeIn K cd39 "_law_tower" = true) (k39 : PySem.W.keepIn K (.ref f39) = true)
    (a40 : PySem.W.nsIn K mainGlobals "_law_colours" = some (some (.ref f40))) (l40 : K.lookup f40 = some ⟨oc40, od40, .func (PySem.W.fnOf "_law_colours" "_law_colours" (defArgs st__law_colours) (defBody st__law_colours) (defScope st__law_colours) .none kV40 dc40 pm40 an40 cd40 ct40), sl40⟩) (c40 : PySem.W.codeIn K cd40 "_law_colours" = true) (k40 : PySem.W.keepIn K (.ref f40) = true)
    (a41 : PySem.W.nsIn K mainGlobals "_law_end" = some (some (.ref f41))) (l41 : K.lookup f41 = some ⟨oc41, od41, .func (PySem.W.fnOf "_law_end" "_law_end" (defArgs st__law_end) (defBody st__law_end) (defScope st__law_end) .none kV41 dc41 pm41 an41 cd41 ct41), sl41⟩) (c41 : PySem.W.codeIn K cd41 "_law_end" = true) (k41 : PySem.W.keepIn K (.ref f41) = true)
    (a42 : PySem.W.nsIn K mainGlobals "_law_bins" = some (some (.ref f42))) (l42 : K.lookup f42 = some ⟨oc42, od42, .func (PySem.W.fnOf "_law_bins" "_law_bins" (defArgs st__law_bins) (defBody st__law_bins) (defScope st__law_bins) .none kV42 dc42 pm42 an42 cd42 ct42), sl42⟩) (c42 : PySem.W.codeIn K cd42 "_law_bins" = true) (k42 : PySem.W.keepIn K (.ref f42) = true)
    (a43 : PySem.W.nsIn K mainGlobals "_law_row" = some (some (.ref f43))) (l43 : K.lookup f43 = some ⟨oc43, od43, .func (PySem.W.fnOf "_law_row" "_law_row" (defArgs st__law_row) (defBody st__law_row) (defScope st__law_row) .none kV43 dc43 pm43 an43 cd43 ct43), sl43⟩) (c43 : PySem.W.codeIn K cd43 "_law_row" = true) (k43 : PySem.W.keepIn K (.ref f43) = true)
    (a44 : PySem.W.nsIn K mainGlobals "_law_pays" = some (some (.ref f44))) (l44 : K.lookup f44 = some ⟨oc44, od44, .func (PySem.W.fnOf "_law_pays" "_law_pays" (defArgs st__law_pays) (defBody st__law_pays) (defScope st__law_pays) .none kV44 dc44 pm44 an44 cd44 ct44), sl44⟩) (c44 : PySem.W.codeIn K cd44 "_law_pays" = true) (k44 : PySem.W.keepIn K (.ref f44) = true)
    (a45 : PySem.W.nsIn K mainGlobals "_law_told" = some (some (.ref f45))) (l45 : K.lookup f45 = some ⟨oc45, od45, .func (PySem.W.fnOf "_law_told" "_law_told" (defArgs st__law_told) (defBody st__law_told) (defScope st__law_told) .none kV45 dc45 pm45 an45 cd45 ct45), sl45⟩) (c45 : PySem.W.codeIn K cd45 "_law_told" = true) (k45 : PySem.W.keepIn K (.ref f45) = true)
    (a46 : PySem.W.nsIn K mainGlobals "_law_is_ready" = some (some (.ref f46))) (l46 : K.lookup f46 = some ⟨oc46, od46, .func (PySem.W.fnOf "_law_is_ready" "_law_is_ready" (defArgs st__law_is_ready) (defBody st__law_is_ready) (defScope st__law_is_ready) .none kV46 dc46 pm46 an46 cd46 ct46), sl46⟩) (c46 : PySem.W.codeIn K cd46 "_law_is_ready" = true) (k46 : PySem.W.keepIn K (.ref f46) = true)
    (a47 : PySem.W.nsIn K mainGlobals "_law_is_two" = some (some (.ref f47))) (l47 : K.lookup f47 = some ⟨oc47, od47, .func (PySem.W.fnOf "_law_is_two" "_law_is_two" (defArgs st__law_is_two) (defBody st__law_is_two) (defScope st__law_is_two) .none kV47 dc47 pm47 an47 cd47 ct47), sl47⟩) (c47 : PySem.W.codeIn K cd47 "_law_is_two" = true) (k47 : PySem.W.keepIn K (.ref f47) = true)
    (a48 : PySem.W.nsIn K mainGlobals "_law_by_parts" = some (some (.ref f48))) (l48 : K.lookup f48 = some ⟨oc48, od48, .func (PySem.W.fnOf "_law_by_parts" "_law_by_parts" (defArgs st__law_by_parts) (defBody st__law_by_parts) (defScope st__law_by_parts) .none kV48 dc48 pm48 an48 cd48 ct48), sl48⟩) (c48 : PySem.W.codeIn K cd48 "_law_by_parts" = true) (k48 : PySem.W.keepIn K (.ref f48) = true)
    (a49 : PySem.W.nsIn K mainGlobals "_law_are_examples_right" = some (some (.ref f49))) (l49 : K.lookup f49 = some ⟨oc49, od49, .func (PySem.W.fnOf "_law_are_examples_right" "_law_are_examples_right" (defArgs st__law_are_examples_right) (defBody st__law_are_examples_right) (defScope st__law_are_examples_right) .none kV49 dc49 pm49 an49 cd49 ct49), sl49⟩) (c49 : PySem.W.codeIn K cd49 "_law_are_examples_right" = true) (k49 : PySem.W.keepIn K (.ref f49) = true)
    (a50 : PySem.W.nsIn K mainGlobals "law" = some (some (.ref f50))) (l50 : K.lookup f50 = some ⟨oc50, od50, .func (PySem.W.fnOf "law" "law" (defArgs st_law) (defBody st_law) (defScope st_law) .none kV50 dc50 pm50 an50 cd50 ct50), sl50⟩) (c50 : PySem.W.codeIn K cd50 "law" = true) (k50 : PySem.W.keepIn K (.ref f50) = true)
    (z0 : PySem.W.nsIn K mainGlobals "abs" = some none)
    (z1 : PySem.W.nsIn K mainGlobals "all" = some none)
    (z2 : PySem.W.nsIn K mainGlobals "bool" = some none)
    (z3 : PySem.W.nsIn K mainGlobals "dict" = some none)
    (z4 : PySem.W.nsIn K mainGlobals "enumerate" = some none)
    (z5 : PySem.W.nsIn K mainGlobals "int" = some none)
    (z6 : PySem.W.nsIn K mainGlobals "isinstance" = some none)
    (z7 : PySem.W.nsIn K mainGlobals "len" = some none)
    (z8 : PySem.W.nsIn K mainGlobals "list" = some none)
    (z9 : PySem.W.nsIn K mainGlobals "max" = some none)
    (z10 : PySem.W.nsIn K mainGlobals "min" = some none)
    (z11 : PySem.W.nsIn K mainGlobals "range" = some none)
    (z12 : PySem.W.nsIn K mainGlobals "reversed" = some none)
    (z13 : PySem.W.nsIn K mainGlobals "sorted" = some none)
    (z14 : PySem.W.nsIn K mainGlobals "str" = some none)
    (z15 : PySem.W.nsIn K mainGlobals "sum" = some none)
    (z16 : PySem.W.nsIn K mainGlobals "tuple" = some none)
    (z17 : PySem.W.nsIn K mainGlobals "zip" = some none)
    : ∃ fd : FuncData, (∀ (s : Shared) (v : Value), BindsTo s fd ⟨[v], []⟩ [("script", v)]) ∧ ∀ base : Heap, K.In base → base.Ns mainGlobals mg → FnOk l.prog w K mg base CX0 11 fa fd ["script"] (spD K 1 d_law) := by
  have e := hfa.symm.trans (PySem.W.mg_of X G a50)
  cases e
  have F0 := fun_mk (st := st_next_fit) l0 c0 k0
  have F1 := fun_mk (st := st_least_bins) l1 c1 k1
  have F2 := fun_mk (st := st_best_packing) l2 c2 k2
  have F3 := fun_mk (st := st_bin_hindsight) l3 c3 k3
  have F4 := fun_mk (st := st_bin_foe) l4 c4 k4
  have F5 := fun_mk (st := st_is_forest) l5 c5 k5
  have F6 := fun_mk (st := st_least_colours) l6 c6 k6
  have F7 := fun_mk (st := st_two_colours) l7 c7 k7
  have F8 := fun_mk (st := st_colour_tower) l8 c8 k8
  have F9 := fun_mk (st := st_put_at) l9 c9 k9
  have F10 := fun_mk (st := st_near_step) l10 c10 k10
  have F11 := fun_mk (st := st_both_step) l11 c11 k11
  have F12 := fun_mk (st := st_step_of) l12 c12 k12
  have F13 := fun_mk (st := st_paid_of) l13 c13 k13
  have F14 := fun_mk (st := st_state_match) l14 c14 k14
  have F15 := fun_mk (st := st_moved_state) l15 c15 k15
  have F16 := fun_mk (st := st_greedy_trap) l16 c16 k16
  have F17 := fun_mk (st := st_list_giving) l17 c17 k17
  have F18 := fun_mk (st := st_machine_sums) l18 c18 k18
  have F19 := fun_mk (st := st_giving_end) l19 c19 k19
  have F20 := fun_mk (st := st_longest_first) l20 c20 k20
  have F21 := fun_mk (st := st_sums_met) l21 c21 k21
  have F22 := fun_mk (st := st_load_hindsight) l22 c22 k22
  have F23 := fun_mk (st := st_load_foe) l23 c23 k23
  have F24 := fun_mk (st := st_work_layers) l24 c24 k24
  have F25 := fun_mk (st := st_server_hindsight) l25 c25 k25
  have F26 := fun_mk (st := st_work_step) l26 c26 k26
  have F27 := fun_mk (st := st_first_state) l27 c27 k27
  have F28 := fun_mk (st := st_server_foe) l28 c28 k28
  have F29 := fun_mk (st := st_ready_rows) l29 c29 k29
  have F30 := fun_mk (st := st_ready_row) l30 c30 k30
  have F31 := fun_mk (st := st_ready_pays) l31 c31 k31
  have F32 := fun_mk (st := st__law_bag) l32 c32 k32
  have F33 := fun_mk (st := st__law_draw) l33 c33 k33
  have F34 := fun_mk (st := st__law_is) l34 c34 k34
  have F35 := fun_mk (st := st__law_near) l35 c35 k35
  have F36 := fun_mk (st := st__law_near_pay) l36 c36 k36
  have F37 := fun_mk (st := st__law_hindsight) l37 c37 k37
  have F38 := fun_mk (st := st__law_foe_row) l38 c38 k38
  have F39 := fun_mk (st := st__law_tower) l39 c39 k39
  have F40 := fun_mk (st := st__law_colours) l40 c40 k40
  have F41 := fun_mk (st := st__law_end) l41 c41 k41
  have F42 := fun_mk (st := st__law_bins) l42 c42 k42
  have F43 := fun_mk (st := st__law_row) l43 c43 k43
  have F44 := fun_mk (st := st__law_pays) l44 c44 k44
  have F45 := fun_mk (st := st__law_told) l45 c45 k45
  have F46 := fun_mk (st := st__law_is_ready) l46 c46 k46
  have F47 := fun_mk (st := st__law_is_two) l47 c47 k47
  have F48 := fun_mk (st := st__law_by_parts) l48 c48 k48
  have F49 := fun_mk (st := st__law_are_examples_right) l49 c49 k49
  have F50 := fun_mk (st := st_law) l50 c50 k50
  let T : Txt K mg := {
    f_next_fit := f0, fd_next_fit := _, F_next_fit := F0, g_next_fit := PySem.W.mg_of X G a0,
    f_least_bins := f1, fd_least_bins := _, F_least_bins := F1, g_least_bins := PySem.W.mg_of X G a1,
    f_best_packing := f2, fd_best_packing := _, F_best_packing := F2, g_best_packing := PySem.W.mg_of X G a2,
    f_bin_hindsight := f3, fd_bin_hindsight := _, F_bin_hindsight := F3, g_bin_hindsight := PySem.W.mg_of X G a3,
    f_bin_foe := f4, fd_bin_foe := _, F_bin_foe := F4, g_bin_foe := PySem.W.mg_of X G a4,
    f_is_forest := f5, fd_is_forest := _, F_is_forest := F5, g_is_forest := PySem.W.mg_of X G a5,
    f_least_colours := f6, fd_least_colours := _, F_least_colours := F6, g_least_colours := PySem.W.mg_of X G a6,
    f_two_colours := f7, fd_two_colours := _, F_two_colours := F7, g_two_colours := PySem.W.mg_of X G a7,
    f_colour_tower := f8, fd_colour_tower := _, F_colour_tower := F8, g_colour_tower := PySem.W.mg_of X G a8,
    f_put_at := f9, fd_put_at := _, F_put_at := F9, g_put_at := PySem.W.mg_of X G a9,
    f_near_step := f10, fd_near_step := _, F_near_step := F10, g_near_step := PySem.W.mg_of X G a10,
    f_both_step := f11, fd_both_step := _, F_both_step := F11, g_both_step := PySem.W.mg_of X G a11,
    f_step_of := f12, fd_step_of := _, F_step_of := F12, g_step_of := PySem.W.mg_of X G a12,
    f_paid_of := f13, fd_paid_of := _, F_paid_of := F13, g_paid_of := PySem.W.mg_of X G a13,
    f_state_match := f14, fd_state_match := _, F_state_match := F14, g_state_match := PySem.W.mg_of X G a14,
    f_moved_state := f15, fd_moved_state := _, F_moved_state := F15, g_moved_state := PySem.W.mg_of X G a15,
    f_greedy_trap := f16, fd_greedy_trap := _, F_greedy_trap := F16, g_greedy_trap := PySem.W.mg_of X G a16,
    f_list_giving := f17, fd_list_giving := _, F_list_giving := F17, g_list_giving := PySem.W.mg_of X G a17,
    f_machine_sums := f18, fd_machine_sums := _, F_machine_sums := F18, g_machine_sums := PySem.W.mg_of X G a18,
    f_giving_end := f19, fd_giving_end := _, F_giving_end := F19, g_giving_end := PySem.W.mg_of X G a19,
    f_longest_first := f20, fd_longest_first := _, F_longest_first := F20, g_longest_first := PySem.W.mg_of X G a20,
    f_sums_met := f21, fd_sums_met := _, F_sums_met := F21, g_sums_met := PySem.W.mg_of X G a21,
    f_load_hindsight := f22, fd_load_hindsight := _, F_load_hindsight := F22, g_load_hindsight := PySem.W.mg_of X G a22,
    f_load_foe := f23, fd_load_foe := _, F_load_foe := F23, g_load_foe := PySem.W.mg_of X G a23,
    f_work_layers := f24, fd_work_layers := _, F_work_layers := F24, g_work_layers := PySem.W.mg_of X G a24,
    f_server_hindsight := f25, fd_server_hindsight := _, F_server_hindsight := F25, g_server_hindsight := PySem.W.mg_of X G a25,
    f_work_step := f26, fd_work_step := _, F_work_step := F26, g_work_step := PySem.W.mg_of X G a26,
    f_first_state := f27, fd_first_state := _, F_first_state := F27, g_first_state := PySem.W.mg_of X G a27,
    f_server_foe := f28, fd_server_foe := _, F_server_foe := F28, g_server_foe := PySem.W.mg_of X G a28,
    f_ready_rows := f29, fd_ready_rows := _, F_ready_rows := F29, g_ready_rows := PySem.W.mg_of X G a29,
    f_ready_row := f30, fd_ready_row := _, F_ready_row := F30, g_ready_row := PySem.W.mg_of X G a30,
    f_ready_pays := f31, fd_ready_pays := _, F_ready_pays := F31, g_ready_pays := PySem.W.mg_of X G a31,
    f__law_bag := f32, fd__law_bag := _, F__law_bag := F32, g__law_bag := PySem.W.mg_of X G a32,
    f__law_draw := f33, fd__law_draw := _, F__law_draw := F33, g__law_draw := PySem.W.mg_of X G a33,
    f__law_is := f34, fd__law_is := _, F__law_is := F34, g__law_is := PySem.W.mg_of X G a34,
    f__law_near := f35, fd__law_near := _, F__law_near := F35, g__law_near := PySem.W.mg_of X G a35,
    f__law_near_pay := f36, fd__law_near_pay := _, F__law_near_pay := F36, g__law_near_pay := PySem.W.mg_of X G a36,
    f__law_hindsight := f37, fd__law_hindsight := _, F__law_hindsight := F37, g__law_hindsight := PySem.W.mg_of X G a37,
    f__law_foe_row := f38, fd__law_foe_row := _, F__law_foe_row := F38, g__law_foe_row := PySem.W.mg_of X G a38,
    f__law_tower := f39, fd__law_tower := _, F__law_tower := F39, g__law_tower := PySem.W.mg_of X G a39,
    f__law_colours := f40, fd__law_colours := _, F__law_colours := F40, g__law_colours := PySem.W.mg_of X G a40,
    f__law_end := f41, fd__law_end := _, F__law_end := F41, g__law_end := PySem.W.mg_of X G a41,
    f__law_bins := f42, fd__law_bins := _, F__law_bins := F42, g__law_bins := PySem.W.mg_of X G a42,
    f__law_row := f43, fd__law_row := _, F__law_row := F43, g__law_row := PySem.W.mg_of X G a43,
    f__law_pays := f44, fd__law_pays := _, F__law_pays := F44, g__law_pays := PySem.W.mg_of X G a44,
    f__law_told := f45, fd__law_told := _, F__law_told := F45, g__law_told := PySem.W.mg_of X G a45,
    f__law_is_ready := f46, fd__law_is_ready := _, F__law_is_ready := F46, g__law_is_ready := PySem.W.mg_of X G a46,
    f__law_is_two := f47, fd__law_is_two := _, F__law_is_two := F47, g__law_is_two := PySem.W.mg_of X G a47,
    f__law_by_parts := f48, fd__law_by_parts := _, F__law_by_parts := F48, g__law_by_parts := PySem.W.mg_of X G a48,
    f__law_are_examples_right := f49, fd__law_are_examples_right := _, F__law_are_examples_right := F49, g__law_are_examples_right := PySem.W.mg_of X G a49,
    f_law := fa, fd_law := _, F_law := F50, g_law := PySem.W.mg_of X G a50,
    z_abs := PySem.W.mg_none_of X G z0,
    z_all := PySem.W.mg_none_of X G z1,
    z_bool := PySem.W.mg_none_of X G z2,
    z_dict := PySem.W.mg_none_of X G z3,
    z_enumerate := PySem.W.mg_none_of X G z4,
    z_int := PySem.W.mg_none_of X G z5,
    z_isinstance := PySem.W.mg_none_of X G z6,
    z_len := PySem.W.mg_none_of X G z7,
    z_list := PySem.W.mg_none_of X G z8,
    z_max := PySem.W.mg_none_of X G z9,
    z_min := PySem.W.mg_none_of X G z10,
    z_range := PySem.W.mg_none_of X G z11,
    z_reversed := PySem.W.mg_none_of X G z12,
    z_sorted := PySem.W.mg_none_of X G z13,
    z_str := PySem.W.mg_none_of X G z14,
    z_sum := PySem.W.mg_none_of X G z15,
    z_tuple := PySem.W.mg_none_of X G z16,
    z_zip := PySem.W.mg_none_of X G z17 }
  exact ⟨_, fun s v => .of_eq rfl, fun base _ _ => ok_law T⟩
theorem law_sp {K : PySem.W.Frag} {H : Hp} {a : Addr} {ns : List Int} {E : L2.XK} (hn : ns.length ≤ 63) (hO : Only H) (hS : SqL K H a (ns.map V.int)) : spD K 1 d_law [.ref a] H (fun v _ => v = .bl true) E := by
  obtain ⟨h', e⟩ := run_ok hn
  refine ⟨rfl, fun _ => False, [], [], [.sc (ns.map D.int)], .bl true, h', ⟨rfl, .nil, fun _ z => z.elim, fun n o b q => by simp at q⟩, RVs.one ⟨a, ns.map V.int, rfl, ?_, RVs.of_ints ns⟩, e, fun H' m' v p r => r⟩
  rcases hS with (q | ⟨o, q⟩) | q
  · rcases hO a with z | ⟨o, xs, z⟩
    · rw [z] at q; cases q
    · rw [z] at q; cases q
  · exact .inl ⟨o, q⟩
  · exact .inr q
end K38
open PySem PySem.W PyProof.Rows
set_option maxHeartbeats 0 in
theorem PySem.Challenge.cw_answernow_k38_whole_ready_rows_by_parts_holds : PySem.Challenge.rw_answernow_k38_whole_ready_rows_by_parts.Holds := by
  w_on; o_law; k_head; (case hw => w_witness2)
  k_fill
  refine L2.walk_of (l := PySem.Challenge.rw_answernow_k38_whole_ready_rows_by_parts) (n := 63) (k := 11) (x := "script") (CX := fun _ => L2.CX0) (sp := fun w => Dn.spD _ 1 K38.d_law) rfl (by decide) rfl ⟨rfl, by decide, by decide⟩ (fun w h Y => PySem.W.kIn_of Y) ?F (fun _ _ a ns hl hO hS => K38.law_sp hl hO hS) (fun _ _ _ _ _ h => h)
  case F =>
    intro w mg fa h KX G hmg
    refine' K38.all_mk KX G hmg ?a0 ?l0 ?c0 ?k0 ?a1 ?l1 ?c1 ?k1 ?a2 ?l2 ?c2 ?k2 ?a3 ?l3 ?c3 ?k3 ?a4 ?l4 ?c4 ?k4 ?a5 ?l5 ?c5 ?k5 ?a6 ?l6 ?c6 ?k6 ?a7 ?l7 ?c7 ?k7 ?a8 ?l8 ?c8 ?k8 ?a9 ?l9 ?c9 ?k9 ?a10 ?l10 ?c10 ?k10 ?a11 ?l11 ?c11 ?k11 ?a12 ?l12 ?c12 ?k12 ?a13 ?l13 ?c13 ?k13 ?a14 ?l14 ?c14 ?k14 ?a15 ?l15 ?c15 ?k15 ?a16 ?l16 ?c16 ?k16 ?a17 ?l17 ?c17 ?k17 ?a18 ?l18 ?c18 ?k18 ?a19 ?l19 ?c19 ?k19 ?a20 ?l20 ?c20 ?k20 ?a21 ?l21 ?c21 ?k21 ?a22 ?l22 ?c22 ?k22 ?a23 ?l23 ?c23 ?k23 ?a24 ?l24 ?c24 ?k24 ?a25 ?l25 ?c25 ?k25 ?a26 ?l26 ?c26 ?k26 ?a27 ?l27 ?c27 ?k27 ?a28 ?l28 ?c28 ?k28 ?a29 ?l29 ?c29 ?k29 ?a30 ?l30 ?c30 ?k30 ?a31 ?l31 ?c31 ?k31 ?a32 ?l32 ?c32 ?k32 ?a33 ?l33 ?c33 ?k33 ?a34 ?l34 ?c34 ?k34 ?a35 ?l35 ?c35 ?k35 ?a36 ?l36 ?c36 ?k36 ?a37 ?l37 ?c37 ?k37 ?a38 ?l38 ?c38 ?k38 ?a39 ?l39 ?c39 ?k39 ?a40 ?l40 ?c40 ?k40 ?a41 ?l41 ?c41 ?k41 ?a42 ?l42 ?c42 ?k42 ?a43 ?l43 ?c43 ?k43 ?a44 ?l44 ?c44 ?k44 ?a45 ?l45 ?c45 ?k45 ?a46 ?l46 ?c46 ?k46 ?a47 ?l47 ?c47 ?k47 ?a48 ?l48 ?c48 ?k48 ?a49 ?l49 ?c49 ?k49 ?a50 ?l50 ?c50 ?k50 ?z0 ?z1 ?z2 ?z3 ?z4 ?z5 ?z6 ?z7 ?z8 ?z9 ?z10 ?z11 ?z12 ?z13 ?z14 ?z15 ?z16 ?z17
    (case a0 => k_is); (case l0 => k_is); (case c0 => k_is); (case k0 => k_is); (case a1 => k_is); (case l1 => k_is); (case c1 => k_is); (case k1 => k_is); (case a2 => k_is); (case l2 => k_is); (case c2 => k_is); (case k2 => k_is); (case a3 => k_is); (case l3 => k_is); (case c3 => k_is); (case k3 => k_is); (case a4 => k_is); (case l4 => k_is); (case c4 => k_is); (case k4 => k_is); (case a5 => k_is); (case l5 => k_is); (case c5 => k_is); (case k5 => k_is); (case a6 => k_is); (case l6 => k_is); (case c6 => k_is); (case k6 => k_is); (case a7 => k_is); (case l7 => k_is); (case c7 => k_is); (case k7 => k_is); (case a8 => k_is); (case l8 => k_is); (case c8 => k_is); (case k8 => k_is); (case a9 => k_is); (case l9 => k_is); (case c9 => k_is); (case k9 => k_is); (case a10 => k_is); (case l10 => k_is); (case c10 => k_is); (case k10 => k_is); (case a11 => k_is); (case l11 => k_is); (case c11 => k_is); (case k11 => k_is); (case a12 => k_is); (case l12 => k_is); (case c12 => k_is); (case k12 => k_is); (case a13 => k_is); (case l13 => k_is); (case c13 => k_is); (case k13 => k_is); (case a14 => k_is); (case l14 => k_is); (case c14 => k_is); (case k14 => k_is); (case a15 => k_is); (case l15 => k_is); (case c15 => k_is); (case k15 => k_is); (case a16 => k_is); (case l16 => k_is); (case c16 => k_is); (case k16 => k_is); (case a17 => k_is); (case l17 => k_is); (case c17 => k_is); (case k17 => k_is); (case a18 => k_is); (case l18 => k_is); (case c18 => k_is); (case k18 => k_is); (case a19 => k_is); (case l19 => k_is); (case c19 => k_is); (case k19 => k_is); (case a20 => k_is); (case l20 => k_is); (case c20 => k_is); (case k20 => k_is); (case a21 => k_is); (case l21 => k_is); (case c21 => k_is); (case k21 => k_is); (case a22 => k_is); (case l22 => k_is); (case c22 => k_is); (case k22 => k_is); (case a23 => k_is); (case l23 => k_is); (case c23 => k_is); (case k23 => k_is); (case a24 => k_is); (case l24 => k_is); (case c24 => k_is); (case k24 => k_is); (case a25 => k_is); (case l25 => k_is); (case c25 => k_is); (case k25 => k_is); (case a26 => k_is); (case l26 => k_is); (case c26 => k_is); (case k26 => k_is); (case a27 => k_is); (case l27 => k_is); (case c27 => k_is); (case k27 => k_is); (case a28 => k_is); (case l28 => k_is); (case c28 => k_is); (case k28 => k_is); (case a29 => k_is); (case l29 => k_is); (case c29 => k_is); (case k29 => k_is); (case a30 => k_is); (case l30 => k_is); (case c30 => k_is); (case k30 => k_is); (case a31 => k_is); (case l31 => k_is); (case c31 => k_is); (case k31 => k_is); (case a32 => k_is); (case l32 => k_is); (case c32 => k_is); (case k32 => k_is); (case a33 => k_is); (case l33 => k_is); (case c33 => k_is); (case k33 => k_is); (case a34 => k_is); (case l34 => k_is); (case c34 => k_is); (case k34 => k_is); (case a35 => k_is); (case l35 => k_is); (case c35 => k_is); (case k35 => k_is); (case a36 => k_is); (case l36 => k_is); (case c36 => k_is); (case k36 => k_is); (case a37 => k_is); (case l37 => k_is); (case c37 => k_is); (case k37 => k_is); (case a38 => k_is); (case l38 => k_is); (case c38 => k_is); (case k38 => k_is); (case a39 => k_is); (case l39 => k_is); (case c39 => k_is); (case k39 => k_is); (case a40 => k_is); (case l40 => k_is); (case c40 => k_is); (case k40 => k_is); (case a41 => k_is); (case l41 => k_is); (case c41 => k_is); (case k41 => k_is); (case a42 => k_is); (case l42 => k_is); (case c42 => k_is); (case k42 => k_is); (case a43 => k_is); (case l43 => k_is); (case c43 => k_is); (case k43 => k_is); (case a44 => k_is); (case l44 => k_is); (case c44 => k_is); (case k44 => k_is); (case a45 => k_is); (case l45 => k_is); (case c45 => k_is); (case k45 => k_is); (case a46 => k_is); (case l46 => k_is); (case c46 => k_is); (case k46 => k_is); (case a47 => k_is); (case l47 => k_is); (case c47 => k_is); (case k47 => k_is); (case a48 => k_is); (case l48 => k_is); (case c48 => k_is); (case k48 => k_is); (case a49 => k_is); (case l49 => k_is); (case c49 => k_is); (case k49 => k_is); (case a50 => k_is); (case l50 => k_is); (case c50 => k_is); (case k50 => k_is); (case z0 => k_is); (case z1 => k_is); (case z2 => k_is); (case z3 => k_is); (case z4 => k_is); (case z5 => k_is); (case z6 => k_is); (case z7 => k_is); (case z8 => k_is); (case z9 => k_is); (case z10 => k_is); (case z11 => k_is); (case z12 => k_is); (case z13 => k_is); (case z14 => k_is); (case z15 => k_is); (case z16 => k_is); (case z17 => k_is)
