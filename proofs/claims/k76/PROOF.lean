import PyProof.Rows.All
import Wide.All
import OpenK.AllK
import Wide.FinOn
import HandS.ForMost
import HandS.Wide
import HandS.IsInst
import HandS.TupAny
import HandS.StrMore
import HandS.Style
import KE.KStar
import HandS.Replace
import HandS.Conv
import HandS.Walk
import KE.GoesMore
import HandS.Ends
import PySem.Challenge.RW_roomways_k76_whole_texts_of_programs
set_option Elab.async false
set_option linter.all false
set_option maxRecDepth 100000
set_option maxHeartbeats 4000000
/-! A layer of plain data over the hand layer: tuples are values (trees), lists, dicts and instances stand in a map. -/
namespace DL
open PySem PySem.Spec PyProof.Rows L2
abbrev St := L2.St
inductive D where
  | non | bl (b : Bool) | int (i : Int) | str (s : Str) | tup (l : List D) | ref (a : Addr) | fro (l : List D) | ty (n : String)
/-- what may stand at an address -/
inductive MO where
  | lst (l : List D) | dk (kvs : List (Key × D)) | ins (C : Addr) (fs : List (Str × D))
abbrev Mp := Addr → Option MO
def put (M : Mp) (a : Addr) (o : MO) : Mp := fun b => if b = a then some o else M b
theorem put_same {M : Mp} {a : Addr} {o : MO} : put M a o a = some o := if_pos rfl
theorem put_ne {M : Mp} {a b : Addr} {o : MO} (h : b ≠ a) : put M a o b = M b := if_neg h
/-- a list that nobody changes: a locked one, or one of the written part -/
def FroL (K : PySem.W.Frag) (H : Hp) (a : Addr) (xs : List V) : Prop := (∃ o, H a = some (.frz o (.lst xs))) ∨
    ∃ (o : Obj) (its : Array Value) (n : Nat), K.lookup a = some o ∧ o.cls = .type "list" ∧ o.dict = none ∧ o.data = .seq its n ∧ its.size ≤ sizeLine ∧ Vals xs its.toList
theorem FroL.sq {K : PySem.W.Frag} {H : Hp} {a : Addr} {xs : List V} (h : FroL K H a xs) : SqL K H a xs := by
  rcases h with h | h
  · exact .inl (.inr h)
  · exact .inr h
mutual
def R (K : PySem.W.Frag) (H : Hp) : D → V → Prop
  | .non, v => v = .non
  | .bl b, v => v = .bl b
  | .int i, v => v = .int i
  | .str x, v => v = .str x
  | .ref a, v => v = .ref a
  | .ty n, v => v = .ty n
  | .tup ds, v => ∃ a vs, v = .ref a ∧ SqT K H a vs ∧ Rs K H ds vs
  | .fro ds, v => ∃ a vs, v = .ref a ∧ FroL K H a vs ∧ Rs K H ds vs
def Rs (K : PySem.W.Frag) (H : Hp) : List D → List V → Prop
  | [], vs => vs = []
  | d :: ds, vs => ∃ v r, vs = v :: r ∧ R K H d v ∧ Rs K H ds r
end
/-- keyed rows -/
def Rk {κ : Type} (K : PySem.W.Frag) (H : Hp) : List (κ × D) → List (κ × V) → Prop
  | [], vs => vs = []
  | (k, d) :: ds, vs => ∃ v r, vs = (k, v) :: r ∧ R K H d v ∧ Rk K H ds r
structure Ext (K : PySem.W.Frag) (H H' : Hp) : Prop where
  tup : ∀ a vs, SqT K H a vs → SqT K H' a vs
  frz : ∀ a o u, H a = some (.frz o u) → H' a = some (.frz o u)
theorem Ext.refl {K : PySem.W.Frag} {H : Hp} : Ext K H H := ⟨fun _ _ h => h, fun _ _ _ h => h⟩
theorem Ext.trans {K : PySem.W.Frag} {H H1 H2 : Hp} (a : Ext K H H1) (b : Ext K H1 H2) : Ext K H H2 := ⟨fun c vs h => b.tup c vs (a.tup c vs h), fun c o u h => b.frz c o u (a.frz c o u h)⟩
theorem Ext.fro {K : PySem.W.Frag} {H H1 : Hp} (e : Ext K H H1) {a : Addr} {xs : List V} (h : FroL K H a xs) : FroL K H1 a xs := by
  rcases h with ⟨o, h⟩ | h
  · exact .inl ⟨o, e.frz _ _ _ h⟩
  · exact .inr h
theorem Ext.upd {K : PySem.W.Frag} {H : Hp} {p : Addr} {o : HO} (h : ∀ xs, H p ≠ some (.tup xs)) (h2 : ∀ ob u, H p ≠ some (.frz ob u)) : Ext K H (L2.upd H p o) := ⟨fun a vs q => by
  rcases q with (q | ⟨ob, q⟩) | q
  · exact .inl (.inl ((upd_ne (fun e => h vs (by rw [← e]; exact q))).trans q))
  · exact .inl (.inr ⟨ob, (upd_ne (fun e => h2 ob _ (by rw [← e]; exact q))).trans q⟩)
  · exact .inr q, fun a ob u q => (upd_ne (fun e => h2 ob u (by rw [← e]; exact q))).trans q⟩
theorem Ext.new {K : PySem.W.Frag} {H : Hp} {p : Addr} {o : HO} (h : H p = none) : Ext K H (L2.upd H p o) :=
  Ext.upd (fun xs e => by rw [h] at e; cases e) (fun ob u e => by rw [h] at e; cases e)
section
variable {K : PySem.W.Frag} {H H' : Hp}
mutual
theorem R.mono (e : Ext K H H') : ∀ (d : D) (v : V), R K H d v → R K H' d v
  | .non, v, h => h
  | .bl b, v, h => h
  | .int i, v, h => h
  | .str x, v, h => h
  | .ref a, v, h => h
  | .ty a, v, h => h
  | .tup ds, v, h => by
    obtain ⟨a, vs, rfl, hs, hr⟩ := h
    exact ⟨a, vs, rfl, e.tup _ _ hs, Rs.mono e ds vs hr⟩
  | .fro ds, v, h => by
    obtain ⟨a, vs, rfl, hs, hr⟩ := h
    exact ⟨a, vs, rfl, e.fro hs, Rs.mono e ds vs hr⟩
theorem Rs.mono (e : Ext K H H') : ∀ (ds : List D) (vs : List V), Rs K H ds vs → Rs K H' ds vs
  | [], vs, h => h
  | d :: ds, vs, h => by
    obtain ⟨v, r, rfl, h1, h2⟩ := h
    exact ⟨v, r, rfl, R.mono e d v h1, Rs.mono e ds r h2⟩
end
theorem Rk.mono {κ : Type} (e : Ext K H H') : ∀ (ds : List (κ × D)) (vs : List (κ × V)), Rk K H ds vs → Rk K H' ds vs
  | [], vs, h => h
  | (k, d) :: ds, vs, h => by
    obtain ⟨v, r, rfl, h1, h2⟩ := h
    exact ⟨v, r, rfl, R.mono e d v h1, Rk.mono e ds r h2⟩
theorem Rs.length : ∀ {ds : List D} {vs : List V}, Rs K H ds vs → vs.length = ds.length
  | [], _, h => by cases h; rfl
  | _ :: _, _, h => by obtain ⟨v, r, rfl, _, h2⟩ := h; simp [Rs.length h2]
theorem Rk.length {κ : Type} : ∀ {ds : List (κ × D)} {vs : List (κ × V)}, Rk K H ds vs → vs.length = ds.length
  | [], _, h => by cases h; rfl
  | (_, _) :: _, _, h => by obtain ⟨v, r, rfl, _, h2⟩ := h; simp [Rk.length h2]
theorem Rs.append : ∀ {ds es : List D} {vs ws : List V}, Rs K H ds vs → Rs K H es ws → Rs K H (ds ++ es) (vs ++ ws)
  | [], _, _, _, h, h' => by cases h; exact h'
  | _ :: _, _, _, _, h, h' => by obtain ⟨v, r, rfl, h1, h2⟩ := h; exact ⟨v, _, rfl, h1, Rs.append h2 h'⟩
theorem Rs.get : ∀ {ds : List D} {vs : List V} {i : Nat} {d : D}, Rs K H ds vs → ds[i]? = some d → ∃ v, vs[i]? = some v ∧ R K H d v
  | [], _, _, _, _, e => by simp at e
  | d :: ds, _, 0, _, h, e => by
    obtain ⟨v, r, rfl, h1, h2⟩ := h
    simp at e; subst e
    exact ⟨v, rfl, h1⟩
  | d :: ds, _, i + 1, _, h, e => by
    obtain ⟨v, r, rfl, h1, h2⟩ := h
    simpa using Rs.get (i := i) h2 (by simpa using e)
theorem Rs.getV : ∀ {ds : List D} {vs : List V} {i : Nat} {v : V}, Rs K H ds vs → vs[i]? = some v → ∃ d, ds[i]? = some d ∧ R K H d v
  | [], _, _, _, h, e => by cases h; simp at e
  | d :: ds, _, 0, _, h, e => by
    obtain ⟨v, r, rfl, h1, h2⟩ := h
    simp at e; subst e
    exact ⟨d, rfl, h1⟩
  | d :: ds, _, i + 1, _, h, e => by
    obtain ⟨v, r, rfl, h1, h2⟩ := h
    simpa using Rs.getV (i := i) h2 (by simpa using e)
theorem Rs.drop : ∀ {ds : List D} {vs : List V} (n : Nat), Rs K H ds vs → Rs K H (ds.drop n) (vs.drop n)
  | _, _, 0, h => by simpa using h
  | [], _, _ + 1, h => by cases h; rfl
  | _ :: _, _, n + 1, h => by obtain ⟨v, r, rfl, h1, h2⟩ := h; simpa using Rs.drop n h2
theorem Rs.take : ∀ {ds : List D} {vs : List V} (n : Nat), Rs K H ds vs → Rs K H (ds.take n) (vs.take n)
  | _, _, 0, _ => by simp [Rs]
  | [], _, _ + 1, h => by cases h; rfl
  | _ :: _, _, n + 1, h => by obtain ⟨v, r, rfl, h1, h2⟩ := h; exact ⟨v, _, rfl, h1, Rs.take n h2⟩
theorem Rs.one {d : D} {v : V} (h : R K H d v) : Rs K H [d] [v] := ⟨v, [], rfl, h, rfl⟩
theorem Rs.reverse : ∀ {ds : List D} {vs : List V}, Rs K H ds vs → Rs K H ds.reverse vs.reverse
  | [], _, h => by cases h; rfl
  | d :: ds, _, h => by
    obtain ⟨v, r, rfl, h1, h2⟩ := h
    rw [List.reverse_cons, List.reverse_cons]
    exact (Rs.reverse h2).append (.one h1)
theorem Rs.set : ∀ {ds : List D} {vs : List V} {i : Nat} {d : D} {v : V}, Rs K H ds vs → R K H d v → Rs K H (ds.set i d) (vs.set i v)
  | [], _, _, _, _, h, _ => by cases h; rfl
  | _ :: _, _, 0, _, _, h, hd => by obtain ⟨v, r, rfl, h1, h2⟩ := h; exact ⟨_, _, rfl, hd, h2⟩
  | _ :: _, _, i + 1, _, _, h, hd => by obtain ⟨v, r, rfl, h1, h2⟩ := h; exact ⟨_, _, rfl, h1, Rs.set h2 hd⟩
theorem Rs.dropLast : ∀ {ds : List D} {vs : List V}, Rs K H ds vs → Rs K H ds.dropLast vs.dropLast := fun {ds vs} h => by
  rw [List.dropLast_eq_take, List.dropLast_eq_take, h.length]; exact h.take _
theorem Rs.ints : ∀ (ns : List Int), Rs K H (ns.map D.int) (ns.map V.int)
  | [] => rfl
  | n :: ns => ⟨_, _, rfl, rfl, Rs.ints ns⟩
theorem Rs.ofInts : ∀ {ns : List Int} {vs : List V}, Rs K H (ns.map D.int) vs → vs = ns.map V.int
  | [], _, h => h
  | n :: ns, _, h => by
    obtain ⟨v, r, rfl, h1, h2⟩ := h
    rw [Rs.ofInts h2, h1]; rfl
theorem Rs.ofStrs : ∀ {ns : List Str} {vs : List V}, Rs K H (ns.map D.str) vs → vs = ns.map V.str
  | [], _, h => h
  | n :: ns, _, h => by
    obtain ⟨v, r, rfl, h1, h2⟩ := h
    rw [Rs.ofStrs h2, h1]; rfl
theorem Rs.ofBls : ∀ {ns : List Bool} {vs : List V}, Rs K H (ns.map D.bl) vs → vs = ns.map V.bl
  | [], _, h => h
  | n :: ns, _, h => by
    obtain ⟨v, r, rfl, h1, h2⟩ := h
    rw [Rs.ofBls h2, h1]; rfl
end
/-- an object of the map as it stands in the abstract heap -/
def RM (K : PySem.W.Frag) (H : Hp) (a : Addr) : MO → Prop
  | .lst l => ∃ vs, H a = some (.lst vs) ∧ Rs K H l vs
  | .dk kvs => ∃ vs, H a = some (.dK vs) ∧ Rk K H kvs vs
  | .ins C fs => ∃ dx vs, H a = some (.ins C dx vs) ∧ Rk K H fs vs
structure Mem (K : PySem.W.Frag) (M : Mp) (H : Hp) : Prop where
  at_ : ∀ a o, M a = some o → RM K H a o
abbrev Sg := List (Option D)
structure Sim (K : PySem.W.Frag) (σ : Sg) (M : Mp) (σv : St) (H : Hp) : Prop where
  len : σv.length = σ.length
  slot : ∀ (i : Nat) (d : D), σ[i]? = some (some d) → ∃ v, σv[i]? = some (some v) ∧ R K H d v
  mem : Mem K M H
section
variable {K : PySem.W.Frag} {H H' : Hp} {M : Mp} {σ : Sg} {σv : St} {p : Addr}
theorem Mem.free (m : Mem K M H) (h : H p = none) : M p = none := by
  cases e : M p with
  | none => rfl
  | some o =>
    have q := m.at_ p o e
    cases o with
    | lst l => obtain ⟨vs, q, _⟩ := q; rw [h] at q; cases q
    | dk l => obtain ⟨vs, q, _⟩ := q; rw [h] at q; cases q
    | ins C l => obtain ⟨dx, vs, q, _⟩ := q; rw [h] at q; cases q
/-- a new object that is tracked in H, not in M -/
theorem RM.ext {a : Addr} {o : MO} (e : Ext K H H') (hn : ∀ u, H a = some u → H' a = some u) (h : RM K H a o) : RM K H' a o := by
  cases o with
  | lst l => obtain ⟨vs, q, r⟩ := h; exact ⟨vs, hn _ q, Rs.mono e _ _ r⟩
  | dk l => obtain ⟨vs, q, r⟩ := h; exact ⟨vs, hn _ q, Rk.mono e _ _ r⟩
  | ins C l => obtain ⟨dx, vs, q, r⟩ := h; exact ⟨dx, vs, hn _ q, Rk.mono e _ _ r⟩
theorem Mem.new {o : HO} (m : Mem K M H) (h : H p = none) : Mem K M (upd H p o) :=
  ⟨fun a mo e => (m.at_ a mo e).ext (Ext.new h) fun u q => (upd_ne (fun z => by rw [z, h] at q; cases q)).trans q⟩
/-- .. tracked in both -/
theorem Mem.newM {o : HO} {mo : MO} (m : Mem K M H) (h : H p = none) (r : RM K (upd H p o) p mo) : Mem K (put M p mo) (upd H p o) :=
  ⟨fun a mo' e => by
    by_cases z : a = p
    · subst z; rw [put_same] at e; cases e; exact r
    · rw [put_ne z] at e
      exact (m.at_ a mo' e).ext (Ext.new h) fun u q => (upd_ne z).trans q⟩
/-- an object written -/
def Wr (o : HO) : Prop := (∀ xs, o ≠ .tup xs) ∧ ∀ ob u, o ≠ .frz ob u
theorem Ext.wr {o o' : HO} (h : H p = some o) (w : Wr o) : Ext K H (L2.upd H p o') :=
  Ext.upd (fun xs e => w.1 xs (Option.some.inj (h.symm.trans e))) (fun ob u e => w.2 ob u (Option.some.inj (h.symm.trans e)))
theorem Mem.write {o o' : HO} {mo : MO} (m : Mem K M H) (h : H p = some o) (w : Wr o) (r : RM K (upd H p o') p mo) : Mem K (put M p mo) (upd H p o') :=
  ⟨fun a mo' e => by
    by_cases z : a = p
    · subst z; rw [put_same] at e; cases e; exact r
    · rw [put_ne z] at e
      exact (m.at_ a mo' e).ext (Ext.wr h w) fun u q => (upd_ne z).trans q⟩
theorem Mem.less {M' : Mp} (m : Mem K M H) (h : ∀ a o, M' a = some o → M a = some o) : Mem K M' H := ⟨fun a o e => m.at_ a o (h a o e)⟩
theorem Sim.to {M' : Mp} (s : Sim K σ M σv H) (e : Ext K H H') (m : Mem K M' H') : Sim K σ M' σv H' :=
  ⟨s.len, fun i d h => by obtain ⟨v, h1, h2⟩ := s.slot i d h; exact ⟨v, h1, R.mono e _ _ h2⟩, m⟩
theorem Sim.set {d : D} {v : V} (s : Sim K σ M σv H) (i : Nat) (r : R K H d v) : Sim K (σ.set i (some d)) M (σv.set i (some v)) H where
  len := by simp [s.len]
  slot := fun j e h => by
    by_cases z : i = j
    · subst z
      by_cases hi : i < σ.length
      · rw [List.getElem?_set_self hi] at h
        cases h
        exact ⟨v, List.getElem?_set_self (by rw [s.len]; exact hi), r⟩
      · rw [List.getElem?_eq_none (by simpa using hi)] at h; cases h
    · rw [List.getElem?_set_ne z] at h
      obtain ⟨w, h1, h2⟩ := s.slot j e h
      exact ⟨w, (List.getElem?_set_ne z).trans h1, h2⟩
  mem := s.mem
theorem Sim.forget {σ' : Sg} (s : Sim K σ M σv H) (hl : σ'.length = σ.length) (h : ∀ (i : Nat) (d : D), σ'[i]? = some (some d) → σ[i]? = some (some d)) : Sim K σ' M σv H :=
  ⟨by rw [s.len, hl], fun i d e => s.slot i d (h i d e), s.mem⟩
end
/-! ### judgements -/
abbrev DE0 := Sg → Mp → (D → Mp → Prop) → Prop
abbrev DT0 := Sg → Mp → (Bool → Mp → Prop) → Prop
abbrev DA0 := Sg → Mp → (List D → Mp → Prop) → Prop
structure DEnds where
  nx : Sg → Mp → Prop
  rt : D → Mp → Prop
  bk : Sg → Mp → Prop := fun _ _ => False
  ct : Sg → Mp → Prop := fun _ _ => False
abbrev DS0 := DEnds → Sg → Mp → Prop
def L (K : PySem.W.Frag) (H : Hp) (σ : Sg) (σv : St) (Q : D → Mp → Prop) : VK := fun v H' => ∃ d M', Ext K H H' ∧ Sim K σ M' σv H' ∧ R K H' d v ∧ Q d M'
def LT (K : PySem.W.Frag) (H : Hp) (σ : Sg) (σv : St) (Q : Bool → Mp → Prop) : Bool → Hp → Prop := fun b H' => ∃ M', Ext K H H' ∧ Sim K σ M' σv H' ∧ Q b M'
def LA (K : PySem.W.Frag) (H : Hp) (σ : Sg) (σv : St) (Q : List D → Mp → Prop) : List V → Hp → Prop := fun vs H' => ∃ ds M', Ext K H H' ∧ Sim K σ M' σv H' ∧ Rs K H' ds vs ∧ Q ds M'
def LN (K : PySem.W.Frag) (H : Hp) (N : Sg → Mp → Prop) : St → Hp → Prop := fun σv' H' => ∃ σ' M', Ext K H H' ∧ Sim K σ' M' σv' H' ∧ N σ' M'
def LR (K : PySem.W.Frag) (H : Hp) (Q : D → Mp → Prop) : VK := fun v H' => ∃ d M', Ext K H H' ∧ Mem K M' H' ∧ R K H' d v ∧ Q d M'
def LE (K : PySem.W.Frag) (H : Hp) (E : DEnds) : Ends := { nx := LN K H E.nx, rt := LR K H E.rt, bk := LN K H E.bk, ct := LN K H E.ct }
def semE (X : Cx) (e : Expr) : TE := fun σ H Q => ∀ pins s, Inv X pins σ H s → wpAny (model X.prog X.w) X.A (eval e X.env) (EP X pins σ Q) X.xe s
def semT (X : Cx) (e : Expr) : TT := fun σ H Q => ∀ pins s, Inv X pins σ H s → wpAny (model X.prog X.w) X.A (isTrue e X.env (eval e X.env)) (TP X pins σ Q) X.xe s
def semA (X : Cx) (es : List Expr) : TA := fun σ H Q => ∀ pos pins s, Inv X pins σ H s → wpAny (model X.prog X.w) X.A (spliced (backTo pos (starEach es X.env))) (AP X pins σ Q) X.xe s
def semS (X : Cx) (st : Stmt) : TS := fun D σ H => ∀ pins s, Inv X pins σ H s → wpAny (model X.prog X.w) X.A (exec st X.env) (SP X pins D) X.xe s
def semSs (X : Cx) (st : List Stmt) : TS := fun D σ H => ∀ pins s, Inv X pins σ H s → wpAny (model X.prog X.w) X.A (execs st X.env) (SP X pins D) X.xe s
theorem pe_sem {X : Cx} {e : Expr} : PE X e (semE X e) := ⟨fun pins s σ H Q I h => h pins s I⟩
theorem pt_sem {X : Cx} {e : Expr} : PT X e (semT X e) := ⟨fun pins s σ H Q I h => h pins s I⟩
theorem pa_sem {X : Cx} {e : List Expr} : PA X e (semA X e) := ⟨fun pos pins s σ H Q I h => h pos pins s I⟩
theorem ps_sem {X : Cx} {e : Stmt} : PS X e (semS X e) := ⟨fun pins s σ H Q I h => h pins s I⟩
theorem pss_sem {X : Cx} {e : List Stmt} : PSs X e (semSs X e) := ⟨fun pins s σ H Q I h => h pins s I⟩
theorem semE.mono {X : Cx} {e : Expr} {σ : St} {H : Hp} {Q Q' : VK} (h : semE X e σ H Q) (q : ∀ v H', Q v H' → Q' v H') : semE X e σ H Q' := fun pins s I =>
  thn (h pins s I) fun u s' ⟨v, H', I', r, z⟩ => ⟨v, H', I', r, q v H' z⟩
theorem semT.mono {X : Cx} {e : Expr} {σ : St} {H : Hp} {Q Q' : Bool → Hp → Prop} (h : semT X e σ H Q) (q : ∀ v H', Q v H' → Q' v H') : semT X e σ H Q' := fun pins s I =>
  thn (h pins s I) fun u s' ⟨H', I', z⟩ => ⟨H', I', q _ H' z⟩
theorem semA.mono {X : Cx} {e : List Expr} {σ : St} {H : Hp} {Q Q' : List V → Hp → Prop} (h : semA X e σ H Q) (q : ∀ v H', Q v H' → Q' v H') : semA X e σ H Q' := fun pos pins s I =>
  thn (h pos pins s I) fun u s' ⟨v, H', I', r, z⟩ => ⟨v, H', I', r, q v H' z⟩
theorem SP.mono {X : Cx} {pins : List (Addr × Obj)} {D D' : Ends} (n : ∀ σ H, D.nx σ H → D'.nx σ H) (r : ∀ v H, D.rt v H → D'.rt v H) (b : ∀ σ H, D.bk σ H → D'.bk σ H) (c : ∀ σ H, D.ct σ H → D'.ct σ H) {f : Flow} {s : Shared} (h : SP X pins D f s) : SP X pins D' f s := by
  cases f with
  | next => obtain ⟨σ, H, I, z⟩ := h; exact ⟨σ, H, I, n _ _ z⟩
  | brk => obtain ⟨σ, H, I, z⟩ := h; exact ⟨σ, H, I, b _ _ z⟩
  | cont => obtain ⟨σ, H, I, z⟩ := h; exact ⟨σ, H, I, c _ _ z⟩
  | ret u => obtain ⟨v, σ, H, I, q, z⟩ := h; exact ⟨v, σ, H, I, q, r _ _ z⟩
theorem semSs.mono {X : Cx} {e : List Stmt} {σ : St} {H : Hp} {D D' : Ends} (h : semSs X e D σ H) (n : ∀ σ H, D.nx σ H → D'.nx σ H) (r : ∀ v H, D.rt v H → D'.rt v H) (b : ∀ σ H, D.bk σ H → D'.bk σ H) (c : ∀ σ H, D.ct σ H → D'.ct σ H) : semSs X e D' σ H := fun pins s I =>
  thn (h pins s I) fun f s' z => SP.mono n r b c z
theorem semS.mono {X : Cx} {e : Stmt} {σ : St} {H : Hp} {D D' : Ends} (h : semS X e D σ H) (n : ∀ σ H, D.nx σ H → D'.nx σ H) (r : ∀ v H, D.rt v H → D'.rt v H) (b : ∀ σ H, D.bk σ H → D'.bk σ H) (c : ∀ σ H, D.ct σ H → D'.ct σ H) : semS X e D' σ H := fun pins s I =>
  thn (h pins s I) fun f s' z => SP.mono n r b c z
structure DE (X : Cx) (e : Expr) (t : DE0) : Prop where
  run : ∀ σv H σ M Q, Sim X.K σ M σv H → t σ M Q → semE X e σv H (L X.K H σ σv Q)
structure DT (X : Cx) (e : Expr) (t : DT0) : Prop where
  run : ∀ σv H σ M Q, Sim X.K σ M σv H → t σ M Q → semT X e σv H (LT X.K H σ σv Q)
structure DA (X : Cx) (e : List Expr) (t : DA0) : Prop where
  run : ∀ σv H σ M Q, Sim X.K σ M σv H → t σ M Q → semA X e σv H (LA X.K H σ σv Q)
structure DS (X : Cx) (st : Stmt) (t : DS0) : Prop where
  run : ∀ σv H σ M E, Sim X.K σ M σv H → t E σ M → semS X st (LE X.K H E) σv H
structure DSs (X : Cx) (st : List Stmt) (t : DS0) : Prop where
  run : ∀ σv H σ M E, Sim X.K σ M σv H → t E σ M → semSs X st (LE X.K H E) σv H
section
variable {X : Cx}
theorem de_of {e : Expr} {t0 : TE} {t : DE0} (h : PE X e t0) (q : ∀ σv H σ M Q, Sim X.K σ M σv H → t σ M Q → t0 σv H (L X.K H σ σv Q)) : DE X e t :=
  ⟨fun σv H σ M Q S z pins s I => h.run pins s σv H _ I (q σv H σ M Q S z)⟩
theorem dt_of {e : Expr} {t0 : TT} {t : DT0} (h : PT X e t0) (q : ∀ σv H σ M Q, Sim X.K σ M σv H → t σ M Q → t0 σv H (LT X.K H σ σv Q)) : DT X e t :=
  ⟨fun σv H σ M Q S z pins s I => h.run pins s σv H _ I (q σv H σ M Q S z)⟩
theorem da_of {e : List Expr} {t0 : TA} {t : DA0} (h : PA X e t0) (q : ∀ σv H σ M Q, Sim X.K σ M σv H → t σ M Q → t0 σv H (LA X.K H σ σv Q)) : DA X e t :=
  ⟨fun σv H σ M Q S z pos pins s I => h.run pos pins s σv H _ I (q σv H σ M Q S z)⟩
theorem ds_of {e : Stmt} {t0 : TS} {t : DS0} (h : PS X e t0) (q : ∀ σv H σ M E, Sim X.K σ M σv H → t E σ M → t0 (LE X.K H E) σv H) : DS X e t :=
  ⟨fun σv H σ M E S z pins s I => h.run pins s σv H _ I (q σv H σ M E S z)⟩
theorem L.mk {K : PySem.W.Frag} {H : Hp} {σ : Sg} {σv : St} {Q : D → Mp → Prop} {M : Mp} {d : D} {v : V} (S : Sim K σ M σv H) (z : Q d M) (r : R K H d v) : L K H σ σv Q v H := ⟨d, M, Ext.refl, S, r, z⟩
theorem L.mk' {K : PySem.W.Frag} {H H' : Hp} {σ : Sg} {σv : St} {Q : D → Mp → Prop} {M : Mp} {d : D} {v : V} (e : Ext K H H') (S : Sim K σ M σv H') (z : Q d M) (r : R K H' d v) : L K H σ σv Q v H' := ⟨d, M, e, S, r, z⟩
theorem L.pre {K : PySem.W.Frag} {H H1 : Hp} {σ : Sg} {σv : St} {Q : D → Mp → Prop} (e : Ext K H H1) {v : V} {H' : Hp} (h : L K H1 σ σv Q v H') : L K H σ σv Q v H' := by
  obtain ⟨d, M', e', r⟩ := h
  exact ⟨d, M', e.trans e', r⟩
theorem LT.pre {K : PySem.W.Frag} {H H1 : Hp} {σ : Sg} {σv : St} {Q : Bool → Mp → Prop} (e : Ext K H H1) {v : Bool} {H' : Hp} (h : LT K H1 σ σv Q v H') : LT K H σ σv Q v H' := by
  obtain ⟨M', e', r⟩ := h
  exact ⟨M', e.trans e', r⟩
theorem LN.pre {K : PySem.W.Frag} {H H1 : Hp} {N : Sg → Mp → Prop} (e : Ext K H H1) {σv : St} {H' : Hp} (h : LN K H1 N σv H') : LN K H N σv H' := by
  obtain ⟨σ, M', e', r⟩ := h
  exact ⟨σ, M', e.trans e', r⟩
theorem LR.pre {K : PySem.W.Frag} {H H1 : Hp} {N : D → Mp → Prop} (e : Ext K H H1) {v : V} {H' : Hp} (h : LR K H1 N v H') : LR K H N v H' := by
  obtain ⟨σ, M', e', r⟩ := h
  exact ⟨σ, M', e.trans e', r⟩
/-- from a part evaluated at H to what follows it -/
theorem DE.then {e : Expr} {t : DE0} (h : DE X e t) {σv : St} {H : Hp} {σ : Sg} {M : Mp} {Q : D → Mp → Prop} {P : VK} (S : Sim X.K σ M σv H) (z : t σ M Q)
    (k : ∀ v H1 d M1, Ext X.K H H1 → Sim X.K σ M1 σv H1 → R X.K H1 d v → Q d M1 → P v H1) : semE X e σv H P :=
  (h.run σv H σ M Q S z).mono fun v H1 ⟨d, M1, e1, S1, r, q⟩ => k v H1 d M1 e1 S1 r q
theorem DT.then {e : Expr} {t : DT0} (h : DT X e t) {σv : St} {H : Hp} {σ : Sg} {M : Mp} {Q : Bool → Mp → Prop} {P : Bool → Hp → Prop} (S : Sim X.K σ M σv H) (z : t σ M Q)
    (k : ∀ b H1 M1, Ext X.K H H1 → Sim X.K σ M1 σv H1 → Q b M1 → P b H1) : semT X e σv H P :=
  (h.run σv H σ M Q S z).mono fun v H1 ⟨M1, e1, S1, q⟩ => k v H1 M1 e1 S1 q
theorem DA.then {e : List Expr} {t : DA0} (h : DA X e t) {σv : St} {H : Hp} {σ : Sg} {M : Mp} {Q : List D → Mp → Prop} {P : List V → Hp → Prop} (S : Sim X.K σ M σv H) (z : t σ M Q)
    (k : ∀ v H1 d M1, Ext X.K H H1 → Sim X.K σ M1 σv H1 → Rs X.K H1 d v → Q d M1 → P v H1) : semA X e σv H P :=
  (h.run σv H σ M Q S z).mono fun v H1 ⟨d, M1, e1, S1, r, q⟩ => k v H1 d M1 e1 S1 r q
end
end DL
namespace DL
open PySem PySem.Spec PyProof.Rows L2
abbrev B2 := D → D → Mp → (D → Mp → Prop) → Prop
abbrev BL := List D → Mp → (D → Mp → Prop) → Prop
/-! ### names, constants -/
def dVar (i : Nat) : DE0 := fun σ M Q => match σ[i]? with
  | some (some d) => Q d M
  | _ => False
def dC (d : D) : DE0 := fun _ M Q => Q d M
section
variable {X : Cx}
theorem de_var (i : Nat) {x : Str} {pos : Pos} (hN : X.N[i]? = some x := by rfl) (hv : Vis X.env.scope x := by first | exact Or.inl rfl | exact Or.inr (Or.inl rfl) | exact Or.inr (Or.inr rfl)) (hd : (x == ("__debug__" : Str)) = false := by decide)
    (hcd : (x == ("__classdict__" : Str)) = false := by decide) : DE X (.Name x pos) (dVar i) :=
  de_of (pe_var hN hv hd hcd) fun σv H σ M Q S z => by
    unfold dVar at z
    split at z
    · rename_i d e
      obtain ⟨v, h1, r⟩ := S.slot i d e
      exact ⟨v, h1, d, M, Ext.refl, S, r, z⟩
    · exact z.elim
theorem de_int {i : Int} {j pos} : DE X (.Constant (.int i) j pos) (dC (.int i)) := de_of pe_int fun σv H σ M Q S z => L.mk S z rfl
theorem de_bl {b : Bool} {j pos} : DE X (.Constant (.bool b) j pos) (dC (.bl b)) := de_of pe_bl fun σv H σ M Q S z => L.mk S z rfl
theorem de_non {j pos} : DE X (.Constant .none j pos) (dC .non) := de_of pe_non fun σv H σ M Q S z => L.mk S z rfl
theorem de_str {x : Str} {j pos} : DE X (.Constant (.str x) j pos) (dC (.str x)) := de_of pe_str fun σv H σ M Q S z => L.mk S z rfl
/-- a name of the module -/
theorem de_glob {x : Str} {v : V} {d : D} {u : Value} {pos : Pos} (hg : Gl X x) (hm : X.mg x = some u) (r : RelV v u) (q : ∀ H, R X.K H d v) (hd : (x == ("__debug__" : Str)) = false := by decide) : DE X (.Name x pos) (dC d) :=
  de_of (pe_glob hg hm r hd) fun σv H σ M Q S z => L.mk S z (q H)
/-- a built-in type as a value -/
theorem de_bty {x : Str} {n : String} {pos : Pos} (hg : Gl X x) (hm : X.mg x = none) (hv : bootBuiltins x = some (.type n)) (hn : x ≠ "__name__" := by decide) (hd : (x == ("__debug__" : Str)) = false := by decide) : DE X (.Name x pos) (dC (.ty n)) :=
  de_of (pe_bltn (v := .ty n) hg hm hv rfl hn hd) fun σv H σ M Q S z => L.mk S z rfl
end
/-! ### operators -/
def dOp (b : B2) (ta tb : DE0) : DE0 := fun σ M Q => ta σ M fun x M1 => tb σ M1 fun y M2 => b x y M2 Q
def TrB (K : PySem.W.Frag) (b : B2) (r : R2) : Prop := ∀ (σ : Sg) (σv : St) (M : Mp) (H : Hp) (x y : D) (vx vy : V) (Q : D → Mp → Prop) (P : VK), Sim K σ M σv H → R K H x vx → R K H y vy → b x y M Q →
  (∀ v H', L K H σ σv Q v H' → P v H') → r vx vy H P
section
variable {X : Cx} {e f : Expr} {te tf : DE0} {pos : Pos}
theorem tr_op {b : B2} {r : R2} (tr : TrB X.K b r) {σv : St} {H : Hp} {σ : Sg} {M : Mp} {Q : D → Mp → Prop} {P : VK} (he : DE X e te) (hf : DE X f tf) (S : Sim X.K σ M σv H) (z : dOp b te tf σ M Q) (k : ∀ v H', L X.K H σ σv Q v H' → P v H') :
    tOp r (semE X e) (semE X f) σv H P :=
  he.then S z fun v H1 d M1 e1 S1 r1 q1 => hf.then S1 q1 fun u H2 d2 M2 e2 S2 r2 q2 =>
    tr σ σv M2 H2 d d2 v u Q _ S2 (R.mono e2 _ _ r1) r2 q2 fun v' H' h => k _ _ ((h.pre e2).pre e1)
theorem L.test {K : PySem.W.Frag} {H : Hp} {σ : Sg} {σv : St} {Q : Bool → Mp → Prop} {v : V} {H' : Hp} (h : L K H σ σv (fun x M1 => match x with
  | .bl b => Q b M1
  | _ => False) v H') : ∃ k, v = .bl k ∧ LT K H σ σv Q k H' := by
  obtain ⟨d', M', e', S', r', q'⟩ := h
  cases d' with
  | bl b => cases r'; exact ⟨b, rfl, M', e', S', q'⟩
  | _ => exact q'.elim
theorem de_bin {op : Operator} {b : B2} {r : R2} (ho : OpR X (binaryOp op) r) (tr : TrB X.K b r) (he : DE X e te) (hf : DE X f tf) : DE X (.BinOp e op f pos) (dOp b te tf) :=
  de_of (pe_op ho pe_sem pe_sem) fun σv H σ M Q S z => tr_op tr he hf S z fun _ _ h => h
theorem de_cmp {op : CmpOp} {b : B2} {r : R2} (ho : OpR X (compareOp op) r) (tr : TrB X.K b r) (he : DE X e te) (hf : DE X f tf) (hm : behindInMarks op f = false) : DE X (.Compare e [op] [f] pos) (dOp b te tf) :=
  de_of (pe_cmpR ho pe_sem pe_sem hm) fun σv H σ M Q S z => tr_op tr he hf S z fun _ _ h => h
/-- a value that is a bool, as a test -/
def dTest (t : DE0) : DT0 := fun σ M Q => t σ M fun x M1 => match x with
  | .bl b => Q b M1
  | _ => False
theorem dt_cmp {op : CmpOp} {b : B2} {r : R2} (ho : OpR X (compareOp op) r) (tr : TrB X.K b r) (he : DE X e te) (hf : DE X f tf) (hm : behindInMarks op f = false) : DT X (.Compare e [op] [f] pos) (dTest (dOp b te tf)) :=
  dt_of (pt_cmpR ho pe_sem pe_sem hm) fun σv H σ M Q S z => tr_op tr he hf S z fun _ _ h => h.test
/-- any expression whose value is a bool (a call ..), as a test -/
theorem dt_val (h : DE X e te) (he : ∀ whole, isTrue e X.env whole = (do let v ← whole; standAt e.pos; holding [v] (truthy v)) := by intro _; rfl) : DT X e (dTest te) :=
  dt_of (pt_val pe_sem he) fun σv H σ M Q S z => h.then S z fun v H1 d M1 e1 S1 r1 q1 => by
    cases d with
    | bl b => cases r1; exact ⟨b, rfl, M1, e1, S1, q1⟩
    | _ => exact q1.elim
end
/-- chains -/
def dChain (b b' : B2) (ta tb tc : DE0) : DE0 := fun σ M Q => ta σ M fun x M1 => tb σ M1 fun y M2 => b x y M2 fun z M3 => match z with
  | .bl k => if k = true then tc σ M3 fun w M4 => b' y w M4 Q else Q (.bl false) M3
  | _ => False
section
variable {X : Cx} {e f g : Expr} {te tf tg : DE0} {pos : Pos}
theorem tr_chain {b b' : B2} {r r' : R2} (tr : TrB X.K b r) (tr' : TrB X.K b' r') {σv : St} {H : Hp} {σ : Sg} {M : Mp} {Q : D → Mp → Prop} (he : DE X e te) (hf : DE X f tf) (hg : DE X g tg) {P : VK} (S : Sim X.K σ M σv H) (z : dChain b b' te tf tg σ M Q) (kk : ∀ v H', L X.K H σ σv Q v H' → P v H') :
    tChain r r' (semE X e) (semE X f) (semE X g) σv H P :=
  he.then S z fun v H1 d M1 e1 S1 r1 q1 => hf.then S1 q1 fun u H2 d2 M2 e2 S2 r2 q2 =>
    tr σ σv M2 H2 d d2 v u _ _ S2 (R.mono e2 _ _ r1) r2 q2 fun v' H' h => by
      obtain ⟨d', M', e', S', r', q'⟩ := h
      cases d' with
      | bl k =>
        cases r'
        refine ⟨k, rfl, ?_⟩
        cases k with
        | true =>
          rw [if_pos rfl]
          exact hg.then S' q' fun w' H4 d4 M4 e4 S4 r4 q4 => tr' σ σv M4 H4 d2 d4 u w' Q _ S4 (R.mono (e'.trans e4) _ _ r2) r4 q4 fun v5 H5 h5 => kk _ _ ((((h5.pre e4).pre e').pre e2).pre e1)
        | false =>
          rw [if_neg Bool.false_ne_true]
          exact kk _ _ (L.mk' ((e1.trans e2).trans e') S' (d := .bl false) q' rfl)
      | _ => exact q'.elim
theorem de_chain {op op' : CmpOp} {b b' : B2} {r r' : R2} (ho : OpR X (compareOp op) r) (ho' : OpR X (compareOp op') r') (tr : TrB X.K b r) (tr' : TrB X.K b' r') (he : DE X e te) (hf : DE X f tf) (hg : DE X g tg)
    (hm : lastMarks [op, op'] [f, g] = false := by with_unfolding_all rfl) : DE X (.Compare e [op, op'] [f, g] pos) (dChain b b' te tf tg) :=
  de_of (pe_chain ho ho' pe_sem pe_sem pe_sem hm) fun σv H σ M Q S z => tr_chain tr tr' he hf hg S z fun _ _ h => h
theorem dt_chain {op op' : CmpOp} {b b' : B2} {r r' : R2} (ho : OpR X (compareOp op) r) (ho' : OpR X (compareOp op') r') (tr : TrB X.K b r) (tr' : TrB X.K b' r') (he : DE X e te) (hf : DE X f tf) (hg : DE X g tg)
    (hm : lastMarks [op, op'] [f, g] = false := by with_unfolding_all rfl) : DT X (.Compare e [op, op'] [f, g] pos) (dTest (dChain b b' te tf tg)) :=
  dt_of (pt_chain ho ho' pe_sem pe_sem pe_sem hm) fun σv H σ M Q S z => tr_chain tr tr' he hf hg S z fun _ _ h => h.test
end
/-! the operators by values -/
def bInt (g : Int → Int → D) : B2 := fun x y M Q => match x, y with
  | .int i, .int j => Q (g i j) M
  | _, _ => False
theorem tr_int {K : PySem.W.Frag} {g : Int → Int → Int} : TrB K (bInt fun i j => .int (g i j)) (rI0 fun i j => .int (g i j)) := fun σ σv M H x y vx vy Q P S rx ry z k => by
  cases x <;> cases y <;> try exact z.elim
  cases rx; cases ry
  exact ⟨_, _, rfl, rfl, k _ _ (L.mk S z rfl)⟩
theorem tr_intB {K : PySem.W.Frag} {g : Int → Int → Bool} : TrB K (bInt fun i j => .bl (g i j)) (rI0 fun i j => .bl (g i j)) := fun σ σv M H x y vx vy Q P S rx ry z k => by
  cases x <;> cases y <;> try exact z.elim
  cases rx; cases ry
  exact ⟨_, _, rfl, rfl, k _ _ (L.mk S z rfl)⟩
def bIntC (C : Int → Int → Prop) (g : Int → Int → Int) : B2 := fun x y M Q => match x, y with
  | .int i, .int j => C i j ∧ Q (.int (g i j)) M
  | _, _ => False
theorem tr_intC {K : PySem.W.Frag} {C : Int → Int → Prop} {g : Int → Int → Int} : TrB K (bIntC C g) (rI C fun i j => .int (g i j)) := fun σ σv M H x y vx vy Q P S rx ry z k => by
  cases x <;> cases y <;> try exact z.elim
  cases rx; cases ry
  exact ⟨_, _, rfl, rfl, z.1, k _ _ (L.mk S z.2 rfl)⟩
def bAdd : B2 := fun x y M Q => match x, y with
  | .int i, .int j => Q (.int (i + j)) M
  | .str a, .str b => a.length + b.length ≤ sizeLine ∧ Q (.str (a ++ b)) M
  | .tup a, .tup b => a.length + b.length ≤ sizeLine ∧ Q (.tup (a ++ b)) M
  | .ref a, .ref b => ∃ xs ys, M a = some (.lst xs) ∧ M b = some (.lst ys) ∧ xs.length + ys.length ≤ sizeLine ∧ ∀ p, M p = none → Q (.ref p) (put M p (.lst (xs ++ ys)))
  | _, _ => False
def rAdd4 (K : PySem.W.Frag) : R2 := fun x y H Q => (∃ i j, x = .int i ∧ y = .int j ∧ Q (.int (i + j)) H) ∨ (∃ i j, x = .str i ∧ y = .str j ∧ i.length + j.length ≤ sizeLine ∧ Q (.str (i ++ j)) H) ∨ rCatA K x y H Q ∨ rCat x y H Q
theorem op_add4 {X : Cx} : OpR X (binaryOp .Add) (rAdd4 X.K) := OpR.or op_add (OpR.or op_add_str (OpR.or op_catA op_cat))
theorem tr_add {K : PySem.W.Frag} : TrB K bAdd (rAdd4 K) := fun σ σv M H x y vx vy Q P S rx ry z k => by
  cases x <;> cases y <;> try exact z.elim
  · cases rx; cases ry
    exact .inl ⟨_, _, rfl, rfl, k _ _ (L.mk S z rfl)⟩
  · cases rx; cases ry
    exact .inr (.inl ⟨_, _, rfl, rfl, z.1, k _ _ (L.mk S z.2 rfl)⟩)
  · rename_i ds es
    obtain ⟨a, vs, rfl, ha, ra⟩ := rx
    obtain ⟨b, ws, rfl, hb, rb⟩ := ry
    refine .inr (.inr (.inl ⟨a, b, vs, ws, rfl, rfl, ha, hb, by rw [ra.length, rb.length]; exact z.1, fun e => ?_, fun e1 e2 => ?_, fun e1 e2 p hp => ?_⟩))
    · subst e
      have : ds = [] := List.eq_nil_of_length_eq_zero (by rw [← ra.length]; rfl)
      subst this
      exact k _ _ (L.mk S z.2 ⟨b, ws, rfl, hb, rb⟩)
    · subst e2
      have : es = [] := List.eq_nil_of_length_eq_zero (by rw [← rb.length]; rfl)
      subst this
      refine k _ _ (L.mk S z.2 ?_)
      rw [List.append_nil]
      exact ⟨a, vs, rfl, ha, ra⟩
    · have e := Ext.new (K := K) (o := .tup (vs ++ ws)) hp
      exact k _ _ (L.mk' e (S.to e (S.mem.new hp)) z.2 ⟨p, _, rfl, .inl (.inl upd_same), (Rs.mono e _ _ ra).append (Rs.mono e _ _ rb)⟩)
  · cases rx; cases ry
    obtain ⟨xs, ys, h1, h2, hl, q⟩ := z
    obtain ⟨vs, e1, r1⟩ := S.mem.at_ _ _ h1
    obtain ⟨ws, e2, r2⟩ := S.mem.at_ _ _ h2
    refine .inr (.inr (.inr ⟨_, _, vs, ws, rfl, rfl, e1, e2, by rw [r1.length, r2.length]; exact hl, fun p hp => ?_⟩))
    have e := Ext.new (K := K) (o := .lst (vs ++ ws)) hp
    exact k _ _ (L.mk' e (S.to e (S.mem.newM (mo := .lst _) hp ⟨_, upd_same, (Rs.mono e _ _ r1).append (Rs.mono e _ _ r2)⟩)) (q p (S.mem.free hp)) rfl)
/-! ### data -/
mutual
def toP : D → Option PyData
  | .non => some .none
  | .bl b => some (.bool b)
  | .int i => some (.int i)
  | .str x => some (.str x)
  | .tup l => (toPs l).map .tuple
  | .fro l => (toPs l).map .list
  | .ref _ => none
  | .ty _ => none
def toPs : List D → Option (List PyData)
  | [] => some []
  | d :: ds => match toP d, toPs ds with
    | some p, some ps => some (p :: ps)
    | _, _ => none
end
mutual
theorem toP_dp {K : PySem.W.Frag} {H : Hp} : ∀ (d : D) (v : V) (p : PyData), R K H d v → toP d = some p → Dp K H v p
  | .non, v, p, r, e => by cases r; cases e; exact .non
  | .bl b, v, p, r, e => by cases r; cases e; exact .bl b
  | .int i, v, p, r, e => by cases r; cases e; exact .int i
  | .str x, v, p, r, e => by cases r; cases e; exact .str x
  | .ref a, v, p, r, e => by cases e
  | .ty a, v, p, r, e => by cases e
  | .tup l, v, p, r, e => by
    obtain ⟨a, vs, rfl, hs, hr⟩ := r
    unfold toP at e
    cases q : toPs l with
    | none => rw [q] at e; cases e
    | some ps =>
      rw [q] at e; cases e
      exact .tup hs (toPs_dp l vs ps hr q)
  | .fro l, v, p, r, e => by
    obtain ⟨a, vs, rfl, hs, hr⟩ := r
    unfold toP at e
    cases q : toPs l with
    | none => rw [q] at e; cases e
    | some ps =>
      rw [q] at e; cases e
      exact .lst hs.sq (toPs_dp l vs ps hr q)
theorem toPs_dp {K : PySem.W.Frag} {H : Hp} : ∀ (l : List D) (vs : List V) (ps : List PyData), Rs K H l vs → toPs l = some ps → DpAll K H vs ps
  | [], vs, ps, r, e => by cases r; cases e; exact .nil
  | d :: ds, vs, ps, r, e => by
    obtain ⟨v, rr, rfl, h1, h2⟩ := r
    unfold toPs at e
    split at e
    · rename_i p qs e1 e2
      cases e
      exact .cons (toP_dp d v p h1 e1) (toPs_dp ds rr qs h2 e2)
    · cases e
end
/-- .. a list of the map too -/
def toPM (M : Mp) (d : D) : Option PyData := match d with
  | .ref a => match M a with
    | some (.lst l) => (toPs l).map .list
    | _ => none
  | d => toP d
theorem toPM_dp {K : PySem.W.Frag} {M : Mp} {H : Hp} (m : Mem K M H) (d : D) (v : V) (p : PyData) (r : R K H d v) (e : toPM M d = some p) : Dp K H v p := by
  unfold toPM at e
  split at e
  · rename_i a
    cases r
    split at e
    · rename_i l h
      obtain ⟨vs, h1, h2⟩ := m.at_ _ _ h
      cases q : toPs l with
      | none => rw [q] at e; cases e
      | some ps =>
        rw [q] at e; cases e
        exact .lst (.inl (.inl h1)) (toPs_dp l vs ps h2 q)
    · cases e
  · exact toP_dp _ _ _ r e
def bEq : B2 := fun x y M Q => ∃ p q, toPM M x = some p ∧ toPM M y = some q ∧ SeqAt.shaped p = true ∧ SeqAt.shaped q = true ∧ Q (.bl (PyData.eqv p q)) M
def bNe : B2 := fun x y M Q => ∃ p q, toPM M x = some p ∧ toPM M y = some q ∧ SeqAt.shaped p = true ∧ SeqAt.shaped q = true ∧ Q (.bl (!PyData.eqv p q)) M
theorem tr_eq {K : PySem.W.Frag} : TrB K bEq (rEqD K) := fun σ σv M H x y vx vy Q P S rx ry z k => by
  obtain ⟨p, q, e1, e2, s1, s2, z⟩ := z
  exact ⟨p, q, toPM_dp S.mem _ _ _ rx e1, toPM_dp S.mem _ _ _ ry e2, s1, s2, k _ _ (L.mk S z rfl)⟩
theorem tr_ne {K : PySem.W.Frag} : TrB K bNe (rNeD K) := fun σ σv M H x y vx vy Q P S rx ry z k => by
  obtain ⟨p, q, e1, e2, s1, s2, z⟩ := z
  exact ⟨p, q, toPM_dp S.mem _ _ _ rx e1, toPM_dp S.mem _ _ _ ry e2, s1, s2, k _ _ (L.mk S z rfl)⟩
/-- in a tuple, a list, a text -/
def rInT (K : PySem.W.Frag) : R2 := fun x y H Q => ∃ d ds, Dp K H x d ∧ Dp K H y (.tuple ds) ∧ SeqAt.shaped d = true ∧ SeqAt.shaped (.tuple ds) = true ∧ Q (.bl (ds.any fun z => PyData.eqv z d)) H
def rNotInT (K : PySem.W.Frag) : R2 := fun x y H Q => ∃ d ds, Dp K H x d ∧ Dp K H y (.tuple ds) ∧ SeqAt.shaped d = true ∧ SeqAt.shaped (.tuple ds) = true ∧ Q (.bl (!ds.any fun z => PyData.eqv z d)) H
def rInL (K : PySem.W.Frag) : R2 := fun x y H Q => ∃ d ds, Dp K H x d ∧ Dp K H y (.list ds) ∧ SeqAt.shaped d = true ∧ SeqAt.shaped (.list ds) = true ∧ Q (.bl (ds.any fun z => PyData.eqv z d)) H
def rNotInL (K : PySem.W.Frag) : R2 := fun x y H Q => ∃ d ds, Dp K H x d ∧ Dp K H y (.list ds) ∧ SeqAt.shaped d = true ∧ SeqAt.shaped (.list ds) = true ∧ Q (.bl (!ds.any fun z => PyData.eqv z d)) H
section
variable {X : Cx}
theorem op_inT (hu : X.A.units + 65 < cLine) : OpR X (compareOp .In) (rInT X.K) := fun pins s σ H x y v u Q I rx ry ⟨d, ds, hd, he, sd, se, q⟩ => by
  have ⟨as, r1⟩ := Dp.reads I d x v hd rx
  have ⟨bs, r2⟩ := Dp.reads I (.tuple ds) y u he ry
  exact SeqAt.in_tuple_reads r2 r1 (SeqAt.canLay_of_shaped se) (SeqAt.canLay_of_shaped sd) (room_in_shaped sd hu) ⟨.bl _, H, I, rfl, q⟩
theorem op_notInT (hu : X.A.units + 65 < cLine) : OpR X (compareOp .NotIn) (rNotInT X.K) := fun pins s σ H x y v u Q I rx ry ⟨d, ds, hd, he, sd, se, q⟩ => by
  have ⟨as, r1⟩ := Dp.reads I d x v hd rx
  have ⟨bs, r2⟩ := Dp.reads I (.tuple ds) y u he ry
  exact SeqAt.notIn_tuple_reads r2 r1 (SeqAt.canLay_of_shaped se) (SeqAt.canLay_of_shaped sd) (room_in_shaped sd hu) ⟨.bl _, H, I, rfl, q⟩
theorem op_inLd (hu : X.A.units + 65 < cLine) : OpR X (compareOp .In) (rInL X.K) := fun pins s σ H x y v u Q I rx ry ⟨d, ds, hd, he, sd, se, q⟩ => by
  have ⟨as, r1⟩ := Dp.reads I d x v hd rx
  have ⟨bs, r2⟩ := Dp.reads I (.list ds) y u he ry
  exact SeqAt.in_list_reads r2 r1 (SeqAt.canLay_of_shaped se) (SeqAt.canLay_of_shaped sd) (room_in_shaped sd hu) ⟨.bl _, H, I, rfl, q⟩
theorem op_notInLd (hu : X.A.units + 65 < cLine) : OpR X (compareOp .NotIn) (rNotInL X.K) := fun pins s σ H x y v u Q I rx ry ⟨d, ds, hd, he, sd, se, q⟩ => by
  have ⟨as, r1⟩ := Dp.reads I d x v hd rx
  have ⟨bs, r2⟩ := Dp.reads I (.list ds) y u he ry
  exact SeqAt.notIn_list_reads r2 r1 (SeqAt.canLay_of_shaped se) (SeqAt.canLay_of_shaped sd) (room_in_shaped sd hu) ⟨.bl _, H, I, rfl, q⟩
def rIn3 (K : PySem.W.Frag) : R2 := fun x y H Q => rInT K x y H Q ∨ rInL K x y H Q ∨ (∃ i j, x = .str i ∧ y = .str j ∧ Q (.bl (!(Builtin.Str.occurrences j i 0 j.length 1).isEmpty)) H)
def rNotIn3 (K : PySem.W.Frag) : R2 := fun x y H Q => rNotInT K x y H Q ∨ rNotInL K x y H Q ∨ (∃ i j, x = .str i ∧ y = .str j ∧ Q (.bl (!(!(Builtin.Str.occurrences j i 0 j.length 1).isEmpty))) H)
theorem op_in3 (hu : X.A.units + 65 < cLine) : OpR X (compareOp .In) (rIn3 X.K) := OpR.or (op_inT hu) (OpR.or (op_inLd hu) op_in_str)
theorem op_notIn3 (hu : X.A.units + 65 < cLine) : OpR X (compareOp .NotIn) (rNotIn3 X.K) := OpR.or (op_notInT hu) (OpR.or (op_notInLd hu) op_notin_str)
end
def inAns (M : Mp) (x y : D) (b : Bool) : Prop :=
  (∃ p ps, toPM M x = some p ∧ (toPM M y = some (.tuple ps) ∧ SeqAt.shaped (.tuple ps) = true ∨ toPM M y = some (.list ps) ∧ SeqAt.shaped (.list ps) = true) ∧ SeqAt.shaped p = true ∧ b = ps.any fun z => PyData.eqv z p) ∨
  ∃ i j, x = .str i ∧ y = .str j ∧ b = !(Builtin.Str.occurrences j i 0 j.length 1).isEmpty
def bIn : B2 := fun x y M Q => ∃ b, inAns M x y b ∧ Q (.bl b) M
def bNotIn : B2 := fun x y M Q => ∃ b, inAns M x y b ∧ Q (.bl (!b)) M
theorem tr_in {K : PySem.W.Frag} : TrB K bIn (rIn3 K) := fun σ σv M H x y vx vy Q P S rx ry z k => by
  obtain ⟨b, z, q⟩ := z
  rcases z with ⟨p, ps, e1, e2, s1, rfl⟩ | ⟨i, j, rfl, rfl, rfl⟩
  · rcases e2 with ⟨e2, s2⟩ | ⟨e2, s2⟩
    · exact .inl ⟨p, ps, toPM_dp S.mem _ _ _ rx e1, toPM_dp S.mem _ _ _ ry e2, s1, s2, k _ _ (L.mk S q rfl)⟩
    · exact .inr (.inl ⟨p, ps, toPM_dp S.mem _ _ _ rx e1, toPM_dp S.mem _ _ _ ry e2, s1, s2, k _ _ (L.mk S q rfl)⟩)
  · cases rx; cases ry
    exact .inr (.inr ⟨_, _, rfl, rfl, k _ _ (L.mk S q rfl)⟩)
theorem tr_notIn {K : PySem.W.Frag} : TrB K bNotIn (rNotIn3 K) := fun σ σv M H x y vx vy Q P S rx ry z k => by
  obtain ⟨b, z, q⟩ := z
  rcases z with ⟨p, ps, e1, e2, s1, rfl⟩ | ⟨i, j, rfl, rfl, rfl⟩
  · rcases e2 with ⟨e2, s2⟩ | ⟨e2, s2⟩
    · exact .inl ⟨p, ps, toPM_dp S.mem _ _ _ rx e1, toPM_dp S.mem _ _ _ ry e2, s1, s2, k _ _ (L.mk S q rfl)⟩
    · exact .inr (.inl ⟨p, ps, toPM_dp S.mem _ _ _ rx e1, toPM_dp S.mem _ _ _ ry e2, s1, s2, k _ _ (L.mk S q rfl)⟩)
  · cases rx; cases ry
    exact .inr (.inr ⟨_, _, rfl, rfl, k _ _ (L.mk S q rfl)⟩)
/-- is None, is not None -/
def isNon : D → Bool
  | .non => true
  | _ => false
def bIs : B2 := fun x y M Q => match y with
  | .non => Q (.bl (isNon x)) M
  | _ => False
def bIsNot : B2 := fun x y M Q => match y with
  | .non => Q (.bl (!isNon x)) M
  | _ => False
theorem R.isNon {K : PySem.W.Frag} {H : Hp} {d : D} {v : V} (r : R K H d v) : decide (v = V.non) = isNon d := by
  cases d with
  | non => cases r; rfl
  | tup l => obtain ⟨a, vs, rfl, _⟩ := r; rfl
  | fro l => obtain ⟨a, vs, rfl, _⟩ := r; rfl
  | _ => cases r; rfl
theorem tr_is {K : PySem.W.Frag} : TrB K bIs (fun x y H Q => y = .non ∧ Q (.bl (decide (x = .non))) H) := fun σ σv M H x y vx vy Q P S rx ry z k => by
  cases y <;> try exact z.elim
  cases ry
  exact ⟨rfl, k _ _ (L.mk S z (by rw [rx.isNon]; rfl))⟩
theorem tr_isNot {K : PySem.W.Frag} : TrB K bIsNot (fun x y H Q => y = .non ∧ Q (.bl (!decide (x = .non))) H) := fun σ σv M H x y vx vy Q P S rx ry z k => by
  cases y <;> try exact z.elim
  cases ry
  exact ⟨rfl, k _ _ (L.mk S z (by rw [rx.isNon]; rfl))⟩
/-! ### and, or, not, if-else -/
def dAndT (t u : DT0) : DT0 := fun σ M Q => t σ M fun c M1 => if c = true then u σ M1 Q else Q false M1
def dOrT (t u : DT0) : DT0 := fun σ M Q => t σ M fun c M1 => if c = true then Q true M1 else u σ M1 Q
def dNotT (t : DT0) : DT0 := fun σ M Q => t σ M fun c M1 => Q (!c) M1
def dIf (t : DT0) (a b : DE0) : DE0 := fun σ M Q => t σ M fun c M1 => if c = true then a σ M1 Q else b σ M1 Q
def dAndV (a b : DE0) : DE0 := fun σ M Q => a σ M fun x M1 => match x with
  | .bl c => if c = true then b σ M1 Q else Q (.bl false) M1
  | _ => False
def dOrV (a b : DE0) : DE0 := fun σ M Q => a σ M fun x M1 => match x with
  | .bl c => if c = true then Q (.bl true) M1 else b σ M1 Q
  | _ => False
def dNotV (a : DE0) : DE0 := fun σ M Q => a σ M fun x M1 => match x with
  | .bl c => Q (.bl (!c)) M1
  | _ => False
structure DW (X : Cx) (e : Expr) (t : DT0) : Prop where
  run : ∀ σv H σ M Q, Sim X.K σ M σv H → t σ M Q → ∀ (whole : Sem Value) pins s, Inv X pins σv H s → wpAny (model X.prog X.w) X.A (isTrue e X.env whole) (TP X pins σv (LT X.K H σ σv Q)) X.xe s
def semW (X : Cx) (e : Expr) : TT := fun σ H Q => ∀ (whole : Sem Value) pins s, Inv X pins σ H s → wpAny (model X.prog X.w) X.A (isTrue e X.env whole) (TP X pins σ Q) X.xe s
theorem pw_sem {X : Cx} {e : Expr} : PW X e (semW X e) := ⟨fun wh pins s σ H Q I h => h wh pins s I⟩
section
variable {X : Cx} {e f g : Expr} {rest : List Expr} {te tf : DE0} {t u : DT0} {pos : Pos}
theorem dw_of {t0 : TT} (h : PW X e t0) (q : ∀ σv H σ M Q, Sim X.K σ M σv H → t σ M Q → t0 σv H (LT X.K H σ σv Q)) : DW X e t :=
  ⟨fun σv H σ M Q S z wh pins s I => h.run wh pins s σv H _ I (q σv H σ M Q S z)⟩
theorem DW.sem (h : DW X e t) {σv : St} {H : Hp} {σ : Sg} {M : Mp} {Q : Bool → Mp → Prop} (S : Sim X.K σ M σv H) (z : t σ M Q) : semW X e σv H (LT X.K H σ σv Q) := fun wh pins s I => h.run σv H σ M Q S z wh pins s I
theorem semW.mono {σ : St} {H : Hp} {Q Q' : Bool → Hp → Prop} (h : semW X e σ H Q) (q : ∀ v H', Q v H' → Q' v H') : semW X e σ H Q' := fun wh pins s I =>
  thn (h wh pins s I) fun u s' ⟨H', I', z⟩ => ⟨H', I', q _ H' z⟩
theorem DW.dt (h : DW X e t) : DT X e t := dt_of (PW.pt pw_sem) fun σv H σ M Q S z => h.sem S z
theorem dw_and1 (h : DT X e t) : DW X (.BoolOp .And [e] pos) t := dw_of (pw_and1 pt_sem) fun σv H σ M Q S z => h.run σv H σ M Q S z
theorem dw_or1 (h : DT X e t) : DW X (.BoolOp .Or [e] pos) t := dw_of (pw_or1 pt_sem) fun σv H σ M Q S z => h.run σv H σ M Q S z
theorem dw_and (h : DT X e t) (h2 : DW X (.BoolOp .And (f :: rest) pos) u) : DW X (.BoolOp .And (e :: f :: rest) pos) (dAndT t u) :=
  dw_of (pw_and pt_sem pw_sem) fun σv H σ M Q S z => h.then S z fun b H1 M1 e1 S1 q1 => by
    cases b with
    | true => exact (h2.sem S1 q1).mono fun b H2 h => h.pre e1
    | false => exact ⟨M1, e1, S1, q1⟩
theorem dw_or (h : DT X e t) (h2 : DW X (.BoolOp .Or (f :: rest) pos) u) : DW X (.BoolOp .Or (e :: f :: rest) pos) (dOrT t u) :=
  dw_of (pw_or pt_sem pw_sem) fun σv H σ M Q S z => h.then S z fun b H1 M1 e1 S1 q1 => by
    cases b with
    | true => exact ⟨M1, e1, S1, q1⟩
    | false => exact (h2.sem S1 q1).mono fun b H2 h => h.pre e1
theorem dt_not (h : DT X e t) : DT X (.UnaryOp .Not e pos) (dNotT t) :=
  dt_of (pt_not pt_sem) fun σv H σ M Q S z => h.then S z fun b H1 M1 e1 S1 q1 => ⟨M1, e1, S1, q1⟩
theorem de_one {op} (h : DE X e te) : DE X (.BoolOp op [e] pos) te := de_of (pe_one pe_sem) fun σv H σ M Q S z => h.run σv H σ M Q S z
theorem de_and (h : DE X e te) (h2 : DE X (.BoolOp .And (f :: rest) pos) tf) : DE X (.BoolOp .And (e :: f :: rest) pos) (dAndV te tf) :=
  de_of (pe_and pe_sem pe_sem) fun σv H σ M Q S z => h.then S z fun v H1 d M1 e1 S1 r1 q1 => by
    cases d with
    | bl c =>
      cases r1
      refine ⟨c, rfl, ?_⟩
      cases c with
      | true => exact (h2.run σv H1 σ M1 Q S1 q1).mono fun b H2 h => h.pre e1
      | false => exact L.mk' e1 S1 (d := .bl false) q1 rfl
    | _ => exact q1.elim
theorem de_or (h : DE X e te) (h2 : DE X (.BoolOp .Or (f :: rest) pos) tf) : DE X (.BoolOp .Or (e :: f :: rest) pos) (dOrV te tf) :=
  de_of (pe_or pe_sem pe_sem) fun σv H σ M Q S z => h.then S z fun v H1 d M1 e1 S1 r1 q1 => by
    cases d with
    | bl c =>
      cases r1
      refine ⟨c, rfl, ?_⟩
      cases c with
      | true => exact L.mk' e1 S1 (d := .bl true) q1 rfl
      | false => exact (h2.run σv H1 σ M1 Q S1 q1).mono fun b H2 h => h.pre e1
    | _ => exact q1.elim
theorem de_not (h : DE X e te) : DE X (.UnaryOp .Not e pos) (dNotV te) :=
  de_of (pe_not pe_sem) fun σv H σ M Q S z => h.then S z fun v H1 d M1 e1 S1 r1 q1 => by
    cases d with
    | bl c => cases r1; exact ⟨c, rfl, L.mk' e1 S1 q1 rfl⟩
    | _ => exact q1.elim
theorem de_if (h : DT X g t) (he : DE X e te) (hf : DE X f tf) : DE X (.IfExp g e f pos) (dIf t te tf) :=
  de_of (pe_ifExp pt_sem pe_sem pe_sem) fun σv H σ M Q S z => h.then S z fun b H1 M1 e1 S1 q1 => by
    cases b with
    | true => exact (he.run σv H1 σ M1 Q S1 q1).mono fun b H2 h => h.pre e1
    | false => exact (hf.run σv H1 σ M1 Q S1 q1).mono fun b H2 h => h.pre e1
/-- a negative number -/
def dNeg (t : DE0) : DE0 := fun σ M Q => t σ M fun x M1 => match x with
  | .int i => Q (.int (-i)) M1
  | _ => False
theorem de_neg (h : DE X e te) : DE X (.UnaryOp .USub e pos) (dNeg te) :=
  de_of (pe_un un_neg pe_sem) fun σv H σ M Q S z => h.then S z fun v H1 d M1 e1 S1 r1 q1 => by
    cases d with
    | int i => cases r1; exact ⟨i, rfl, L.mk' e1 S1 q1 rfl⟩
    | _ => exact q1.elim
end
end DL
namespace DL
open PySem PySem.Spec PyProof.Rows L2
/-! ### arguments -/
def dNil : DA0 := fun _ M Q => Q [] M
def dCons (te : DE0) (ta : DA0) : DA0 := fun σ M Q => te σ M fun x M1 => ta σ M1 fun xs M2 => Q (x :: xs) M2
def dStar (te : DE0) (ta : DA0) : DA0 := fun σ M Q => te σ M fun x M1 => match x with
  | .tup l => ta σ M1 fun xs M2 => Q (l ++ xs) M2
  | _ => False
def tStar (K : PySem.W.Frag) (te : TE) (t : TA) : TA := fun σ H Q => te σ H fun x H1 => ∃ a xs, x = .ref a ∧ SqT K H1 a xs ∧ t σ H1 fun ys H2 => Q (xs ++ ys) H2
section
variable {X : Cx} {e : Expr} {es : List Expr} {te : DE0} {ta : DA0} {pos p2 : Pos}
theorem pa_star {t0 : TE} {t : TA} (he : PE X e t0) (ha : PA X es t) : PA X (.Starred e p2 :: es) (tStar X.K t0 t) := by
  refine ⟨fun pos pins s σ H Q I h => ?_⟩
  show wpAny _ _ (spliced ((true, (do let v ← eval e X.env; standAt pos; pure v)) :: backTo pos (starEach es X.env))) _ _ s
  refine PySem.W.ks_spliced (thn (he.run pins s σ H _ I h) fun u s1 ⟨x, H1, I1, r1, a, xs, ex, hx, q⟩ => ?_)
  subst ex
  cases r1
  obtain ⟨its, rv, ⟨o, ho, hc, n, hd⟩, hz⟩ := I1.tuple hx
  have hl := rv.length
  have z : wpAny (model X.prog X.w) X.A (collect (.ref a)) (fun here s2 => wpAny (model X.prog X.w) X.A (spliced (backTo pos (starEach es X.env))) (fun vs s3 => AP X pins σ Q (here ++ vs) s3) X.xe s2) X.xe s1 := by
    refine wpAny_collect_seq a (.inr rfl) ho hc hd (fun h' hk => ?_) (by rw [List.size_toArray]; omega)
    have I2 : Inv X pins σ H1 { s1 with heap := h' } := I1.kept (t' := s1.toks) hk
    refine thn (ha.run pos pins _ σ H1 _ I2 q) fun vs s3 ⟨ys, H3, I3, r3, q3⟩ => ⟨xs ++ ys, H3, I3, ?_, q3⟩
    simpa using rv.append r3
  unfold PySem.W.StarOf notIterableAtAll
  exact wpAny_bind (wpAny_specialOf ⟨o, ho, hc⟩ PySem.F.slot_tuple_iter.lookup (wpAny_pure ⟨rfl, z⟩))
theorem da_nil : DA X [] dNil := da_of pa_nil fun σv H σ M Q S z => ⟨[], M, Ext.refl, S, rfl, z⟩
theorem da_cons (he : DE X e te) (ha : DA X es ta) (hs : starEach (e :: es) X.env = (false, eval e X.env) :: starEach es X.env := by rfl) : DA X (e :: es) (dCons te ta) :=
  da_of (pa_cons pe_sem pa_sem hs) fun σv H σ M Q S z => he.then S z fun v H1 d M1 e1 S1 r1 q1 => ha.then S1 q1 fun vs H2 ds M2 e2 S2 r2 q2 =>
    ⟨d :: ds, M2, e1.trans e2, S2, ⟨v, vs, rfl, R.mono e2 _ _ r1, r2⟩, q2⟩
theorem da_star (he : DE X e te) (ha : DA X es ta) : DA X (.Starred e p2 :: es) (dStar te ta) :=
  da_of (pa_star pe_sem pa_sem) fun σv H σ M Q S z => he.then S z fun v H1 d M1 e1 S1 r1 q1 => by
    cases d with
    | tup l =>
      obtain ⟨a, xs, rfl, hx, rx⟩ := r1
      exact ⟨a, xs, rfl, hx, ha.then S1 q1 fun vs H2 ds M2 e2 S2 r2 q2 => ⟨l ++ ds, M2, e1.trans e2, S2, (Rs.mono e2 _ _ rx).append r2, q2⟩⟩
    | _ => exact q1.elim
/-! ### displays -/
def dTup (t : DA0) : DE0 := fun σ M Q => t σ M fun xs M1 => xs.length ≤ sizeLine ∧ Q (.tup xs) M1
def dLst (t : DA0) : DE0 := fun σ M Q => t σ M fun xs M1 => xs.length ≤ sizeLine ∧ ∀ p, M1 p = none → Q (.ref p) (put M1 p (.lst xs))
theorem de_tup {x1} (h : DA X es ta) : DE X (.Tuple es x1 pos) (dTup ta) :=
  de_of (pe_tup pa_sem) fun σv H σ M Q S z => h.then S z fun vs H1 ds M1 e1 S1 r1 q1 => ⟨by rw [r1.length]; exact q1.1, fun p hp => by
    have e := Ext.new (K := X.K) (o := .tup vs) hp
    exact L.mk' (e1.trans e) (S1.to e (S1.mem.new hp)) q1.2 ⟨p, vs, rfl, .inl (.inl upd_same), Rs.mono e _ _ r1⟩⟩
theorem de_lst (h : DA X es ta) : DE X (.List es pos) (dLst ta) :=
  de_of (pe_lst pa_sem) fun σv H σ M Q S z => h.then S z fun vs H1 ds M1 e1 S1 r1 q1 => ⟨by rw [r1.length]; exact q1.1, fun p hp => by
    have e := Ext.new (K := X.K) (o := .lst vs) hp
    exact L.mk' (e1.trans e) (S1.to e (S1.mem.newM (mo := .lst ds) hp ⟨vs, upd_same, Rs.mono e _ _ r1⟩)) (q1.2 p (S1.mem.free hp)) rfl⟩
end
/-- {k: v, ..}, keys written texts -/
def kD : Key → D
  | .inl i => .int i
  | .inr x => .str x
section
variable {κ : Type} [DecidableEq κ]
def valD (kvs : List (κ × D)) (k : κ) : Option D := (kvs.find? fun kv => decide (kv.1 = k)).map (·.2)
def putD (kvs : List (κ × D)) (k : κ) (v : D) : List (κ × D) :=
  if (kvs.any fun kv => decide (kv.1 = k)) = true then kvs.map (fun kv => if kv.1 = k then (kv.1, v) else kv) else kvs ++ [(k, v)]
theorem Rk.val {K : PySem.W.Frag} {H : Hp} {k : κ} : ∀ {ds : List (κ × D)} {vs : List (κ × V)}, Rk K H ds vs →
    (valD ds k = none ∧ valV vs k = none) ∨ ∃ d v, valD ds k = some d ∧ valV vs k = some v ∧ R K H d v
  | [], _, h => by cases h; exact .inl ⟨rfl, rfl⟩
  | (k', d) :: ds, _, h => by
    obtain ⟨v, r, rfl, h1, h2⟩ := h
    by_cases e : k' = k
    · subst e
      exact .inr ⟨d, v, by simp [valD], by simp [valV], h1⟩
    · have := Rk.val (k := k) h2
      simpa [valD, valV, List.find?_cons, e] using this
theorem Rk.anyK {K : PySem.W.Frag} {H : Hp} {k : κ} : ∀ {ds : List (κ × D)} {vs : List (κ × V)}, Rk K H ds vs → (ds.any fun kv => decide (kv.1 = k)) = vs.any fun kv => decide (kv.1 = k)
  | [], _, h => by cases h; rfl
  | (k', d) :: ds, _, h => by
    obtain ⟨v, r, rfl, h1, h2⟩ := h
    rw [List.any_cons, List.any_cons, Rk.anyK h2]
theorem Rk.mapK {K : PySem.W.Frag} {H : Hp} {k : κ} {d : D} {v : V} (hd : R K H d v) : ∀ {ds : List (κ × D)} {vs : List (κ × V)}, Rk K H ds vs →
    Rk K H (ds.map fun kv => if kv.1 = k then (kv.1, d) else kv) (vs.map fun kv => if kv.1 = k then (kv.1, v) else kv)
  | [], _, h => by cases h; rfl
  | (k', d') :: ds, _, h => by
    obtain ⟨v', r, rfl, h1, h2⟩ := h
    rw [List.map_cons, List.map_cons]
    by_cases e : k' = k
    · rw [if_pos e, if_pos e]; exact ⟨v, _, rfl, hd, Rk.mapK hd h2⟩
    · rw [if_neg e, if_neg e]; exact ⟨v', _, rfl, h1, Rk.mapK hd h2⟩
theorem Rk.snoc {K : PySem.W.Frag} {H : Hp} {k : κ} {d : D} {v : V} (hd : R K H d v) : ∀ {ds : List (κ × D)} {vs : List (κ × V)}, Rk K H ds vs → Rk K H (ds ++ [(k, d)]) (vs ++ [(k, v)])
  | [], _, h => by cases h; exact ⟨v, [], rfl, hd, rfl⟩
  | (k', d') :: ds, _, h => by
    obtain ⟨v', r, rfl, h1, h2⟩ := h
    exact ⟨v', _, rfl, h1, Rk.snoc hd h2⟩
theorem Rk.put {K : PySem.W.Frag} {H : Hp} {k : κ} {d : D} {v : V} (hd : R K H d v) {ds : List (κ × D)} {vs : List (κ × V)} (h : Rk K H ds vs) : Rk K H (putD ds k d) (putK vs k v) := by
  unfold putD putK
  rw [h.anyK]
  split
  · exact h.mapK hd
  · exact h.snoc hd
end
def mergeD (kvs more : List (Key × D)) : List (Key × D) := more.foldl (fun acc kv => putD acc kv.1 kv.2) kvs
theorem Rk.merge {K : PySem.W.Frag} {H : Hp} : ∀ {more : List (Key × D)} {mv : List (Key × V)} {ds : List (Key × D)} {vs : List (Key × V)}, Rk K H more mv → Rk K H ds vs → Rk K H (mergeD ds more) (mergeK vs mv)
  | [], _, _, _, h, h' => by cases h; exact h'
  | (k, d) :: more, _, _, _, h, h' => by
    obtain ⟨v, r, rfl, h1, h2⟩ := h
    exact (Rk.merge (more := more) (mv := r) h2 (h'.put h1) :)
def dPairs : List (DE0 × DE0) → Sg → Mp → (List (D × D) → Mp → Prop) → Prop
  | [], _, M, Q => Q [] M
  | (tk, tv) :: r, σ, M, Q => tk σ M fun x M1 => tv σ M1 fun y M2 => dPairs r σ M2 fun ps M3 => Q ((x, y) :: ps) M3
inductive DPs (X : Cx) : List (Option Expr) → List Expr → List (DE0 × DE0) → Prop
  | nil : DPs X [] [] []
  | cons {k v : Expr} {ks vs tk tv ts} : DE X k tk → DE X v tv → DPs X ks vs ts → DPs X (some k :: ks) (v :: vs) ((tk, tv) :: ts)
def RPs (K : PySem.W.Frag) (H : Hp) : List (D × D) → List (V × V) → Prop
  | [], vs => vs = []
  | (a, b) :: ds, vs => ∃ x y r, vs = (x, y) :: r ∧ R K H a x ∧ R K H b y ∧ RPs K H ds r
section
variable {X : Cx} {pos : Pos}
theorem DPs.pps {ks vs ts} (h : DPs X ks vs ts) : ∃ trs, PPs X pos ks vs trs ∧ ∀ σv H σ M (Q : List (D × D) → Mp → Prop) (P : List (V × V) → Hp → Prop), Sim X.K σ M σv H → dPairs ts σ M Q →
    (∀ ps H' ds M', Ext X.K H H' → Sim X.K σ M' σv H' → RPs X.K H' ds ps → Q ds M' → P ps H') → tPairs trs σv H P := by
  induction h with
  | nil => exact ⟨[], pps_nil, fun σv H σ M Q P S z k => k [] H [] M Ext.refl S rfl z⟩
  | @cons k v ks vs tk tv ts hk hv _ ih =>
    obtain ⟨trs, h1, h2⟩ := ih
    refine ⟨(semE X k, semE X v) :: trs, pps_cons pe_sem pe_sem h1, fun σv H σ M Q P S z kk => ?_⟩
    exact hk.then S z fun x H1 d M1 e1 S1 r1 q1 => hv.then S1 q1 fun y H2 d2 M2 e2 S2 r2 q2 => h2 σv H2 σ M2 _ _ S2 q2 fun ps H3 ds M3 e3 S3 r3 q3 =>
      kk _ H3 ((d, d2) :: ds) M3 ((e1.trans e2).trans e3) S3 ⟨x, y, ps, rfl, R.mono (e2.trans e3) _ _ r1, R.mono e3 _ _ r2, r3⟩ q3
theorem RPs.keys {K : PySem.W.Frag} {H : Hp} : ∀ {kvs : List (Key × D)} {ps : List (V × V)}, RPs K H (kvs.map fun kv => (kD kv.1, kv.2)) ps → ∃ vs : List (Key × V), ps = vs.map (fun kv => (kV kv.1, kv.2)) ∧ Rk K H kvs vs
  | [], _, h => ⟨[], h, rfl⟩
  | (k, d) :: kvs, _, h => by
    obtain ⟨x, y, r, rfl, h1, h2, h3⟩ := h
    obtain ⟨vs, rfl, h4⟩ := RPs.keys h3
    have e : x = kV k := by cases k <;> exact h1
    exact ⟨(k, y) :: vs, by rw [e]; rfl, y, vs, rfl, h2, h4⟩
def dDisp (trs : List (DE0 × DE0)) : DE0 := fun σ M Q => ∀ p, M p = none → dPairs trs σ (put M p (.dk [])) fun ps M2 => M2 p = some (.dk []) ∧ ∃ kvs : List (Key × D), ps = kvs.map (fun kv => (kD kv.1, kv.2)) ∧ kvs.length ≤ 15 ∧ Q (.ref p) (put M2 p (.dk (mergeD [] kvs)))
theorem de_disp {ks vs ts} (h : DPs X ks vs ts) (hall : ks.all (·.isSome) = true) (hl : ks.length = vs.length) (h0 : ks ≠ []) (h15 : ks.length ≤ 15) : DE X (.Dict ks vs pos) (dDisp ts) := by
  obtain ⟨trs, h1, h2⟩ := h.pps (pos := pos)
  refine de_of (pe_disp h1 hall hl h0 h15) fun σv H σ M Q S z p hp => ?_
  have e := Ext.new (K := X.K) (o := .dK []) hp
  refine h2 σv _ σ _ _ _ (S.to e (S.mem.newM (mo := .dk []) hp ⟨[], upd_same, rfl⟩)) (z p (S.mem.free hp)) fun ps H2 ds M2 e2 S2 r2 q2 => ?_
  obtain ⟨h3, kvs, rfl, h4, q⟩ := q2
  obtain ⟨vs0, a1, a2⟩ := S2.mem.at_ _ _ h3
  cases a2
  obtain ⟨vs, rfl, r3⟩ := r2.keys
  have w : Wr (.dK []) := ⟨fun _ z => (nomatch z), fun _ _ z => (nomatch z)⟩
  have e3 := Ext.wr (K := X.K) (o' := .dK (mergeK [] vs)) a1 w
  refine ⟨a1, vs, rfl, by rw [r3.length]; exact h4, L.mk' ((e.trans e2).trans e3) (S2.to e3 (S2.mem.write (mo := .dk (mergeD [] kvs)) a1 w ⟨_, upd_same, Rk.merge (Rk.mono e3 _ _ r3) rfl⟩)) q rfl⟩
end
/-! ### subscripts -/
def rIxD : R2 := fun x y H Q => ∃ a v, x = .ref a ∧ DGet H a y (some v) ∧ Q v H
theorem ix_dict {X : Cx} (hu : X.A.units + 1 < cLine) : IxR X rIxD := by
  intro value slice pins s σ H x y v u Q I rx ry h hs
  obtain ⟨a, w, rfl, g, q⟩ := h
  cases rx
  exact tail_any (dict_typeIs I g) PySem.F.slot_dict_getitem.lookup (d_getItem hu I g ry fun w' s' I' rw' => ⟨w, H, I', rw', q⟩) hs
def rIx4 (K : PySem.W.Frag) : R2 := fun x y H Q => rIx K x y H Q ∨ rIxD x y H Q
theorem ix4 {X : Cx} (hu : X.A.units + 1 < cLine) : IxR X (rIx4 X.K) := IxR.or ix_seq (ix_dict hu)
def keyOf : D → Option Key
  | .int i => some (.inl i)
  | .str x => some (.inr x)
  | _ => none
def bIx : B2 := fun x y M Q => match x with
  | .tup l => match y with
    | .int i => ∃ d, atI l i = some d ∧ Q d M
    | _ => False
  | .fro l => match y with
    | .int i => ∃ d, atI l i = some d ∧ Q d M
    | _ => False
  | .str z => match y with
    | .int i => z.length ≤ sizeLine ∧ ∃ c, atI z.cps.toList i = some c ∧ Q (.str ⟨#[c]⟩) M
    | _ => False
  | .ref a => match M a with
    | some (.lst l) => match y with
      | .int i => ∃ d, atI l i = some d ∧ Q d M
      | _ => False
    | some (.dk kvs) => ∃ k d, keyOf y = some k ∧ valD kvs k = some d ∧ Q d M
    | _ => False
  | _ => False
theorem Rs.atI {K : PySem.W.Frag} {H : Hp} {l : List D} {vs : List V} {i : Int} {d : D} (r : Rs K H l vs) (h : L2.atI l i = some d) : ∃ v, L2.atI vs i = some v ∧ R K H d v := by
  unfold L2.atI at h ⊢
  rw [r.length]
  cases e : ixN l.length i with
  | none => rw [e] at h; cases h
  | some j => rw [e] at h; exact r.get h
theorem keyOf_kV {K : PySem.W.Frag} {H : Hp} {y : D} {v : V} {k : Key} (r : R K H y v) (h : keyOf y = some k) : v = kV k := by
  unfold keyOf at h
  split at h
  · cases h; exact r
  · cases h; exact r
  · cases h
theorem tr_ix {K : PySem.W.Frag} : TrB K bIx (rIx4 K) := fun σ σv M H x y vx vy Q P S rx ry z k => by
  unfold bIx at z
  cases x with
  | tup l =>
    cases y <;> try exact z.elim
    cases ry
    obtain ⟨d, h, q⟩ := z
    obtain ⟨a, vs, rfl, hs, r⟩ := rx
    obtain ⟨v, h', r'⟩ := r.atI h
    exact .inl (.inr (.inl ⟨a, vs, _, v, rfl, rfl, hs, h', k _ _ (L.mk S q r')⟩))
  | fro l =>
    cases y <;> try exact z.elim
    cases ry
    obtain ⟨d, h, q⟩ := z
    obtain ⟨a, vs, rfl, hs, r⟩ := rx
    obtain ⟨v, h', r'⟩ := r.atI h
    exact .inl (.inl ⟨a, vs, _, v, rfl, rfl, hs.sq, h', k _ _ (L.mk S q r')⟩)
  | str zz =>
    cases y <;> try exact z.elim
    cases rx; cases ry
    obtain ⟨hz, c, h, q⟩ := z
    exact .inl (.inr (.inr ⟨_, _, c, rfl, rfl, hz, h, k _ _ (L.mk S q rfl)⟩))
  | ref a =>
    cases rx
    dsimp only at z
    split at z
    · rename_i l hM
      cases y <;> try exact z.elim
      cases ry
      obtain ⟨d, h, q⟩ := z
      obtain ⟨vs, h1, r⟩ := S.mem.at_ _ _ hM
      obtain ⟨v, h', r'⟩ := r.atI h
      exact .inl (.inl ⟨_, vs, _, v, rfl, rfl, SqL.of h1, h', k _ _ (L.mk S q r')⟩)
    · rename_i kvs hM
      obtain ⟨kk, d, h, hv, q⟩ := z
      obtain ⟨vs, h1, r⟩ := S.mem.at_ _ _ hM
      obtain rfl := keyOf_kV ry h
      rcases r.val (k := kk) with ⟨n1, _⟩ | ⟨d', v, e1, e2, r'⟩
      · rw [n1] at hv; cases hv
      · rw [e1] at hv; cases hv
        exact .inr ⟨_, v, rfl, by rw [← e2]; exact DGet.k h1, k _ _ (L.mk S q r')⟩
    · exact z.elim
  | _ => exact z.elim
section
variable {X : Cx} {e f : Expr} {te tf : DE0} {pos p2 : Pos}
theorem de_ix (hu : X.A.units + 1 < cLine) (he : DE X e te) (hf : DE X f tf) (hs : PlainIx f := by intro _ _; rfl) : DE X (.Subscript e f pos) (dOp bIx te tf) :=
  de_of (pe_ix (ix4 hu) pe_sem pe_sem hs) fun σv H σ M Q S z => tr_op tr_ix he hf S z fun _ _ h => h
end
end DL
namespace DL
open PySem PySem.Spec PyProof.Rows L2
/-! ### slices -/
abbrev DO0 := Sg → Mp → (Option Int → Mp → Prop) → Prop
def dNoPart : DO0 := fun _ M Q => Q none M
def dPart (t : DE0) : DO0 := fun σ M Q => t σ M fun x M1 => match x with
  | .int i => Q (some i) M1
  | _ => False
structure DO (X : Cx) (e : Option Expr) (t : DO0) (t0 : TO) : Prop where
  po : PO X e t0
  run : ∀ σv H σ M (Q : Option Int → Mp → Prop) (P : Option Int → Hp → Prop), Sim X.K σ M σv H → t σ M Q → (∀ o H' M', Ext X.K H H' → Sim X.K σ M' σv H' → Q o M' → P o H') → t0 σv H P
def cutL {α : Type} (xs : List α) (lo hi : Option Int) : List α := (xs.drop (HT.sIx xs.length 0 lo)).take (HT.sIx xs.length xs.length hi - HT.sIx xs.length 0 lo)
theorem Rs.cut {K : PySem.W.Frag} {H : Hp} {ds : List D} {vs : List V} (r : Rs K H ds vs) (lo hi : Option Int) : Rs K H (cutL ds lo hi) (cutV vs lo hi) := by
  unfold cutL cutV
  rw [r.length]
  exact (r.drop _).take _
theorem cut_whole {α : Type} {xs : List α} {lo hi : Option Int} (h : HT.sIx xs.length 0 lo = 0 ∧ HT.sIx xs.length xs.length hi = xs.length) : cutL xs lo hi = xs := by
  unfold cutL
  rw [h.1, h.2]
  simp
def bSl : D → Option Int → Option Int → Mp → (D → Mp → Prop) → Prop := fun x lo hi M Q => match x with
  | .tup l => Q (.tup (cutL l lo hi)) M
  | .fro l => ∀ p, M p = none → Q (.ref p) (put M p (.lst (cutL l lo hi)))
  | .str z => z.length ≤ sizeLine ∧ Q (.str (cutS z lo hi)) M
  | .ref a => match M a with
    | some (.lst l) => ∀ p, M p = none → Q (.ref p) (put M p (.lst (cutL l lo hi)))
    | _ => False
  | _ => False
def dSl (te : DE0) (tl th : DO0) : DE0 := fun σ M Q => te σ M fun x M1 => tl σ M1 fun l M2 => th σ M2 fun u M3 => bSl x l u M3 Q
def rSl3 (K : PySem.W.Frag) : V → Option Int → Option Int → Hp → VK → Prop := fun x lo hi H Q => rSlA K x lo hi H Q ∨ rSlL K x lo hi H Q ∨ rSlS x lo hi H Q
theorem sl3 {X : Cx} : SlR X (rSl3 X.K) := SlR.or sl_tupA (SlR.or sl_list sl_str)
theorem tr_sl {K : PySem.W.Frag} {σ : Sg} {σv : St} {M : Mp} {H : Hp} {x : D} {vx : V} {lo hi : Option Int} {Q : D → Mp → Prop} {P : VK} (S : Sim K σ M σv H) (rx : R K H x vx) (z : bSl x lo hi M Q) (k : ∀ v H', L K H σ σv Q v H' → P v H') : rSl3 K vx lo hi H P := by
  unfold bSl at z
  cases x with
  | tup l =>
    obtain ⟨a, vs, rfl, hs, r⟩ := rx
    refine .inl ⟨a, vs, rfl, hs, fun hw => ?_, fun hw p hp => ?_⟩
    · rw [r.length] at hw
      refine k _ _ (L.mk S z ?_)
      rw [cut_whole hw]
      exact ⟨a, vs, rfl, hs, r⟩
    · have e := Ext.new (K := K) (o := .tup (cutV vs lo hi)) hp
      exact k _ _ (L.mk' e (S.to e (S.mem.new hp)) z ⟨p, _, rfl, .inl (.inl upd_same), Rs.mono e _ _ (r.cut lo hi)⟩)
  | fro l =>
    obtain ⟨a, vs, rfl, hs, r⟩ := rx
    refine .inr (.inl ⟨a, vs, rfl, hs.sq, fun p hp => ?_⟩)
    have e := Ext.new (K := K) (o := .lst (cutV vs lo hi)) hp
    exact k _ _ (L.mk' e (S.to e (S.mem.newM (mo := .lst _) hp ⟨_, upd_same, Rs.mono e _ _ (r.cut lo hi)⟩)) (z p (S.mem.free hp)) rfl)
  | str s => cases rx; exact .inr (.inr ⟨_, rfl, z.1, k _ _ (L.mk S z.2 rfl)⟩)
  | ref a =>
    cases rx
    dsimp only at z
    split at z
    · rename_i l hM
      obtain ⟨vs, h1, r⟩ := S.mem.at_ _ _ hM
      refine .inr (.inl ⟨_, vs, rfl, SqL.of h1, fun p hp => ?_⟩)
      have e := Ext.new (K := K) (o := .lst (cutV vs lo hi)) hp
      exact k _ _ (L.mk' e (S.to e (S.mem.newM (mo := .lst _) hp ⟨_, upd_same, Rs.mono e _ _ (r.cut lo hi)⟩)) (z p (S.mem.free hp)) rfl)
    · exact z.elim
  | _ => exact z.elim
section
variable {X : Cx} {e f g : Expr} {te tf : DE0} {tl th : DO0} {l0 h0 : TO} {lo hi : Option Expr} {pos p2 : Pos}
theorem do_none : DO X none dNoPart tNoPart := ⟨po_none, fun σv H σ M Q P S z k => k _ _ M Ext.refl S z⟩
theorem do_some (h : DE X e te) : DO X (some e) (dPart te) (tPart (semE X e)) := ⟨po_some pe_sem, fun σv H σ M Q P S z k => h.then S z fun v H1 d M1 e1 S1 r1 q1 => by
  cases d with
  | int i => cases r1; exact ⟨i, rfl, k _ _ M1 e1 S1 q1⟩
  | _ => exact q1.elim⟩
theorem de_sl (he : DE X e te) (hl : DO X lo tl l0) (hh : DO X hi th h0) : DE X (.Subscript e (.Slice lo hi none p2) pos) (dSl te tl th) :=
  de_of (pe_slice sl3 pe_sem hl.po hh.po) fun σv H σ M Q S z => he.then S z fun v H1 d M1 e1 S1 r1 q1 => hl.run σv H1 σ M1 _ _ S1 q1 fun l H2 M2 e2 S2 q2 => hh.run σv H2 σ M2 _ _ S2 q2 fun u H3 M3 e3 S3 q3 =>
    tr_sl S3 (R.mono (e2.trans e3) _ _ r1) q3 fun v' H' h => ((h.pre e3).pre e2).pre e1
/-- xs[::-1] of a list -/
def dRevL (te : DE0) : DE0 := fun σ M Q => te σ M fun x M1 => match x with
  | .ref a => match M1 a with
    | some (.lst l) => ∀ p, M1 p = none → Q (.ref p) (put M1 p (.lst l.reverse))
    | _ => False
  | _ => False
theorem de_revL {k : Nat} {p1 p3 p4 : Pos} (he : DE X e te) : DE X (.Subscript e (.Slice none none (some (.UnaryOp .USub (.Constant (.int 1) k p1) p2)) p3) pos) (dRevL te) :=
  de_of (pe_revL pe_sem) fun σv H σ M Q S z => he.then S z fun v H1 d M1 e1 S1 r1 q1 => by
    cases d with
    | ref a =>
      cases r1
      dsimp only at q1
      split at q1
      · rename_i l hM
        obtain ⟨vs, h1, r⟩ := S1.mem.at_ _ _ hM
        refine ⟨_, vs, rfl, SqL.of h1, fun p hp => ?_⟩
        have e := Ext.new (K := X.K) (o := .lst vs.reverse) hp
        exact L.mk' (e1.trans e) (S1.to e (S1.mem.newM (mo := .lst _) hp ⟨_, upd_same, Rs.mono e _ _ r.reverse⟩)) (q1 p (S1.mem.free hp)) rfl
      · exact q1.elim
    | _ => exact q1.elim
end
/-! ### built-ins by name -/
def dCallB (b : BL) (t : DA0) : DE0 := fun σ M Q => t σ M fun xs M1 => b xs M1 Q
def TrC (K : PySem.W.Frag) (b : BL) (r : List V → Hp → VK → Prop) : Prop := ∀ (σ : Sg) (σv : St) (M : Mp) (H : Hp) (xs : List D) (vs : List V) (Q : D → Mp → Prop) (P : VK), Sim K σ M σv H → Rs K H xs vs → b xs M Q →
  (∀ v H', L K H σ σv Q v H' → P v H') → r vs H P
section
variable {X : Cx} {x : Str} {p pos : Pos} {e : Expr} {es : List Expr} {ta : DA0} {id T : String} {r : List V → Hp → VK → Prop} {b : BL}
theorem de_callB (hc : CallR X (.builtin id) r) (tr : TrC X.K b r) (hg : Gl X x) (hm : X.mg x = none) (hv : bootBuiltins x = some (.builtin id)) (ha : DA X (e :: es) ta) (hn : x ≠ "__name__" := by decide) (hdb : (x == ("__debug__" : Str)) = false := by decide)
    (he : starEach (e :: es) X.env = (false, eval e X.env) :: starEach es X.env := by rfl) (hpl : (backTo pos (starEach es X.env)).any (·.1) = false := by rfl) : DE X (.Call (.Name x p) (e :: es) [] pos) (dCallB b ta) :=
  de_of (pe_callB hc hg hm hv pa_sem hn hdb he hpl) fun σv H σ M Q S z => ha.then S z fun vs H1 ds M1 e1 S1 r1 q1 => tr σ σv M1 H1 ds vs Q _ S1 r1 q1 fun v H' h => h.pre e1
theorem de_callTy (hc : CallR X (.type T) r) (tr : TrC X.K b r) (hg : Gl X x) (hm : X.mg x = none) (hv : bootBuiltins x = some (.type T)) (ha : DA X (e :: es) ta) (hn : x ≠ "__name__" := by decide) (hdb : (x == ("__debug__" : Str)) = false := by decide)
    (he : starEach (e :: es) X.env = (false, eval e X.env) :: starEach es X.env := by rfl) (hpl : (backTo pos (starEach es X.env)).any (·.1) = false := by rfl) : DE X (.Call (.Name x p) (e :: es) [] pos) (dCallB b ta) :=
  de_of (pe_callTy hc hg hm hv pa_sem hn hdb he hpl) fun σv H σ M Q S z => ha.then S z fun vs H1 ds M1 e1 S1 r1 q1 => tr σ σv M1 H1 ds vs Q _ S1 r1 q1 fun v H' h => h.pre e1
end
/-- the name of a value's type -/
def tyName (M : Mp) (d : D) : Option String := match d with
  | .non => some "NoneType"
  | .bl _ => some "bool"
  | .int _ => some "int"
  | .str _ => some "str"
  | .tup _ => some "tuple"
  | .fro _ => some "list"
  | .ref a => match M a with
    | some (.lst _) => some "list"
    | some (.dk _) => some "dict"
    | _ => none
  | .ty _ => none
theorem tyName_x {K : PySem.W.Frag} {M : Mp} {H : Hp} (m : Mem K M H) {d : D} {v : V} {t : String} (r : R K H d v) (h : tyName M d = some t) : TyX K H v (.type t) := by
  unfold tyName at h
  cases d with
  | non => cases r; cases h; exact .base .non
  | bl b => cases r; cases h; exact .base (.bl b)
  | int b => cases r; cases h; exact .base (.int b)
  | str b => cases r; cases h; exact .base (.str b)
  | tup l =>
    obtain ⟨a, vs, rfl, hs, _⟩ := r
    cases h
    rcases hs with (hs | ⟨o, hs⟩) | ⟨o, its, n, hk, hc, _⟩
    · exact .base (.tup hs)
    · exact .fTuple hs
    · exact .kTuple hk hc
  | fro l =>
    obtain ⟨a, vs, rfl, hs, _⟩ := r
    cases h
    rcases hs with ⟨o, hs⟩ | ⟨o, its, n, hk, hc, _⟩
    · exact .base (.frz hs)
    · exact .kList hk hc
  | ref a =>
    cases r
    dsimp only at h
    split at h
    · rename_i l hM
      cases h
      obtain ⟨vs, h1, _⟩ := m.at_ _ _ hM
      exact .base (.lst h1)
    · rename_i l hM
      cases h
      obtain ⟨vs, h1, _⟩ := m.at_ _ _ hM
      exact .base (.dK h1)
    · cases h
  | ty n => cases h
def bIsi : BL := fun xs M Q => match xs with
  | [x, .ty T] => ∃ t r, tyName M x = some t ∧ kitB t T = some r ∧ Q (.bl r) M
  | _ => False
theorem tr_isi {K : PySem.W.Frag} : TrC K bIsi (rIsi K) := fun σ σv M H xs vs Q P S r z k => by
  unfold bIsi at z
  split at z
  · rename_i x T
    obtain ⟨v, r1, rfl, rx, c, r2, rfl, rc, e3⟩ := r
    cases e3; cases rc
    obtain ⟨t, b, h1, h2, q⟩ := z
    exact ⟨v, _, _, _, b, rfl, .ty T, tyName_x S.mem rx h1, kit_ty h2, k _ _ (L.mk S q rfl)⟩
  · exact z.elim
def bLen : BL := fun xs M Q => match xs with
  | [.tup l] => Q (.int l.length) M
  | [.fro l] => Q (.int l.length) M
  | [.str z] => z.length ≤ sizeLine ∧ Q (.int z.length) M
  | [.ref a] => match M a with
    | some (.lst l) => Q (.int l.length) M
    | _ => False
  | _ => False
theorem tr_len {K : PySem.W.Frag} : TrC K bLen (fun xs H Q => ∃ x n, xs = [x] ∧ LenV K x H n ∧ Q (.int n) H) := fun σ σv M H xs vs Q P S r z k => by
  unfold bLen at z
  split at z
  · obtain ⟨v, r1, rfl, ⟨a, ws, rfl, hs, rx⟩, e3⟩ := r
    cases e3
    exact ⟨_, ws.length, rfl, .inr ⟨ws, hs, rfl⟩, k _ _ (by rw [rx.length]; exact L.mk S z rfl)⟩
  · obtain ⟨v, r1, rfl, ⟨a, ws, rfl, hs, rx⟩, e3⟩ := r
    cases e3
    exact ⟨_, ws.length, rfl, .inl ⟨ws, hs.sq, rfl⟩, k _ _ (by rw [rx.length]; exact L.mk S z rfl)⟩
  · obtain ⟨v, r1, rfl, rx, e3⟩ := r
    cases e3; cases rx
    exact ⟨_, _, rfl, ⟨z.1, rfl⟩, k _ _ (L.mk S z.2 rfl)⟩
  · obtain ⟨v, r1, rfl, rx, e3⟩ := r
    cases e3; cases rx
    split at z
    · rename_i l hM
      obtain ⟨ws, h1, rx⟩ := S.mem.at_ _ _ hM
      exact ⟨_, ws.length, rfl, .inl ⟨ws, SqL.of h1, rfl⟩, k _ _ (by rw [rx.length]; exact L.mk S z rfl)⟩
    · exact z.elim
  · exact z.elim
def bAbs : BL := fun xs M Q => match xs with
  | [.int i] => Q (.int (if i < 0 then -i else i)) M
  | _ => False
theorem tr_abs {K : PySem.W.Frag} : TrC K bAbs (fun xs H Q => ∃ i, xs = [.int i] ∧ Q (.int (if i < 0 then -i else i)) H) := fun σ σv M H xs vs Q P S r z k => by
  unfold bAbs at z
  split at z
  · obtain ⟨v, r1, rfl, rx, e3⟩ := r
    cases e3; cases rx
    exact ⟨_, rfl, k _ _ (L.mk S z rfl)⟩
  · exact z.elim
def bInt1 : BL := fun xs M Q => match xs with
  | [.int i] => Q (.int i) M
  | [.bl b] => Q (.int (if b then 1 else 0)) M
  | _ => False
theorem tr_int1 {K : PySem.W.Frag} : TrC K bInt1 (fun xs H Q => (∃ i, xs = [.int i] ∧ Q (.int i) H) ∨ ∃ k, xs = [.bl k] ∧ Q (.int (if k then 1 else 0)) H) := fun σ σv M H xs vs Q P S r z k => by
  unfold bInt1 at z
  split at z
  · obtain ⟨v, r1, rfl, rx, e3⟩ := r
    cases e3; cases rx
    exact .inl ⟨_, rfl, k _ _ (L.mk S z rfl)⟩
  · obtain ⟨v, r1, rfl, rx, e3⟩ := r
    cases e3; cases rx
    exact .inr ⟨_, rfl, k _ _ (L.mk S z rfl)⟩
  · exact z.elim
def bStrI : BL := fun xs M Q => match xs with
  | [.int i] => i.natAbs.log2 < 1920 ∧ Q (.str (toString i)) M
  | _ => False
theorem tr_strI {K : PySem.W.Frag} : TrC K bStrI (fun xs H Q => ∃ i, xs = [.int i] ∧ i.natAbs.log2 < 1920 ∧ Q (.str (toString i)) H) := fun σ σv M H xs vs Q P S r z k => by
  unfold bStrI at z
  split at z
  · obtain ⟨v, r1, rfl, rx, e3⟩ := r
    cases e3; cases rx
    exact ⟨_, rfl, z.1, k _ _ (L.mk S z.2 rfl)⟩
  · exact z.elim
/-- the items of a list or a tuple -/
def itemsOf (M : Mp) (d : D) : Option (List D) := match d with
  | .tup l => some l
  | .fro l => some l
  | .ref a => match M a with
    | some (.lst l) => some l
    | _ => none
  | _ => none
theorem itemsOf_x {K : PySem.W.Frag} {M : Mp} {H : Hp} (m : Mem K M H) {d : D} {v : V} {l : List D} (r : R K H d v) (h : itemsOf M d = some l) : ∃ a vs, v = .ref a ∧ (SqL K H a vs ∨ SqT K H a vs) ∧ Rs K H l vs := by
  unfold itemsOf at h
  cases d with
  | tup l => obtain ⟨a, vs, rfl, hs, r⟩ := r; cases h; exact ⟨a, vs, rfl, .inr hs, r⟩
  | fro l => obtain ⟨a, vs, rfl, hs, r⟩ := r; cases h; exact ⟨a, vs, rfl, .inl hs.sq, r⟩
  | ref a =>
    cases r
    dsimp only at h
    split at h
    · rename_i l hM
      cases h
      obtain ⟨vs, h1, r⟩ := m.at_ _ _ hM
      exact ⟨_, vs, rfl, .inl (SqL.of h1), r⟩
    · cases h
  | _ => cases h
def bTuple : BL := fun xs M Q => match xs with
  | [x] => ∃ l, itemsOf M x = some l ∧ Q (.tup l) M
  | _ => False
theorem tr_tuple {K : PySem.W.Frag} : TrC K bTuple (fun xs H Q => ∃ p ys, xs = [.ref p] ∧ ((SqL K H p ys ∧ ∀ l, H l = none → Q (.ref l) (upd H l (.tup ys))) ∨ (SqT K H p ys ∧ Q (.ref p) H))) := fun σ σv M H xs vs Q P S r z k => by
  unfold bTuple at z
  split at z
  · obtain ⟨v, r1, rfl, rx, e3⟩ := r
    cases e3
    obtain ⟨l, hl, q⟩ := z
    obtain ⟨a, ws, rfl, hs, r⟩ := itemsOf_x S.mem rx hl
    refine ⟨a, ws, rfl, ?_⟩
    rcases hs with hs | hs
    · refine .inl ⟨hs, fun p hp => ?_⟩
      have e := Ext.new (K := K) (o := .tup ws) hp
      exact k _ _ (L.mk' e (S.to e (S.mem.new hp)) q ⟨p, _, rfl, .inl (.inl upd_same), Rs.mono e _ _ r⟩)
    · exact .inr ⟨hs, k _ _ (L.mk S q ⟨a, ws, rfl, hs, r⟩)⟩
  · exact z.elim
def bList : BL := fun xs M Q => match xs with
  | [x] => ∃ l, itemsOf M x = some l ∧ ∀ p, M p = none → Q (.ref p) (put M p (.lst l))
  | _ => False
theorem tr_list {K : PySem.W.Frag} : TrC K bList (fun xs H Q => ∃ p ys, xs = [.ref p] ∧ (SqL K H p ys ∨ SqT K H p ys) ∧ ∀ l, H l = none → Q (.ref l) (upd H l (.lst ys))) := fun σ σv M H xs vs Q P S r z k => by
  unfold bList at z
  split at z
  · obtain ⟨v, r1, rfl, rx, e3⟩ := r
    cases e3
    obtain ⟨l, hl, q⟩ := z
    obtain ⟨a, ws, rfl, hs, r⟩ := itemsOf_x S.mem rx hl
    refine ⟨a, ws, rfl, hs, fun p hp => ?_⟩
    have e := Ext.new (K := K) (o := .lst ws) hp
    exact k _ _ (L.mk' e (S.to e (S.mem.newM (mo := .lst _) hp ⟨_, upd_same, Rs.mono e _ _ r⟩)) (q p (S.mem.free hp)) rfl)
  · exact z.elim
/-- all, any of a list of bools -/
def bAll : BL := fun xs M Q => match xs with
  | [.ref a] => ∃ bs : List Bool, M a = some (.lst (bs.map D.bl)) ∧ Q (.bl (bs.all id)) M
  | _ => False
def bAny : BL := fun xs M Q => match xs with
  | [.ref a] => ∃ bs : List Bool, M a = some (.lst (bs.map D.bl)) ∧ Q (.bl (bs.any id)) M
  | _ => False
theorem tr_all {K : PySem.W.Frag} : TrC K bAll (rAll K) := fun σ σv M H xs vs Q P S r z k => by
  unfold bAll at z
  split at z
  · obtain ⟨v, r1, rfl, rx, e3⟩ := r
    cases e3; cases rx
    obtain ⟨bs, hM, q⟩ := z
    obtain ⟨ws, h1, r⟩ := S.mem.at_ _ _ hM
    cases Rs.ofBls r
    exact ⟨_, bs, rfl, SqL.of h1, k _ _ (L.mk S q rfl)⟩
  · exact z.elim
theorem tr_any {K : PySem.W.Frag} : TrC K bAny (rAny K) := fun σ σv M H xs vs Q P S r z k => by
  unfold bAny at z
  split at z
  · obtain ⟨v, r1, rfl, rx, e3⟩ := r
    cases e3; cases rx
    obtain ⟨bs, hM, q⟩ := z
    obtain ⟨ws, h1, r⟩ := S.mem.at_ _ _ hM
    cases Rs.ofBls r
    exact ⟨_, bs, rfl, SqL.of h1, k _ _ (L.mk S q rfl)⟩
  · exact z.elim
/-- list(range(n)) -/
def dListRg (te : DE0) : DE0 := fun σ M Q => te σ M fun x M1 => match x with
  | .int n => 0 ≤ n ∧ n ≤ 16777216 ∧ ∀ p, M1 p = none → Q (.ref p) (put M1 p (.lst ((List.range n.toNat).map fun i => .int (i : Nat))))
  | _ => False
theorem rgV_Rs {K : PySem.W.Frag} {H : Hp} (n : Int) : Rs K H ((List.range n.toNat).map fun i => D.int ((i : Nat) : Int)) (rgV 0 n) := by
  have e : rgV 0 n = ((List.range n.toNat).map fun i => ((i : Nat) : Int)).map V.int := by
    unfold rgV
    rw [Int.sub_zero, List.map_map]
    exact List.map_congr_left fun i _ => by simp
  have e2 : (List.range n.toNat).map (fun i => D.int ((i : Nat) : Int)) = ((List.range n.toNat).map fun i => ((i : Nat) : Int)).map D.int := by rw [List.map_map]; rfl
  rw [e, e2]
  exact Rs.ints _
theorem de_listRg {X : Cx} {p pos p2 pos2 : Pos} {e : Expr} {te : DE0} (hc : X.calm = true) (hg : Gl X "list") (hm : X.mg "list" = none) (hg2 : Gl X "range") (hm2 : X.mg "range" = none) (he : DE X e te)
    (na : starEach [(.Call (.Name "range" p2) [e] [] pos2)] X.env = (false, eval (.Call (.Name "range" p2) [e] [] pos2) X.env) :: starEach [] X.env := by rfl) (nb : starEach [e] X.env = (false, eval e X.env) :: starEach [] X.env := by rfl) :
    DE X (.Call (.Name "list" p) [.Call (.Name "range" p2) [e] [] pos2] [] pos) (dListRg te) :=
  de_of (pe_listRg hc hg hm (prg_1 hg2 hm2 pe_sem nb) na) fun σv H σ M Q S z => he.then S z fun v H1 d M1 e1 S1 r1 q1 => by
    cases d with
    | int n =>
      cases r1
      obtain ⟨h0, h1, q⟩ := q1
      refine ⟨n, rfl, RgOk.of_le (Int.le_refl 0) h1 (by omega) h0, fun p hp => ?_⟩
      have e := Ext.new (K := X.K) (o := .lst (rgV 0 n)) hp
      exact L.mk' (e1.trans e) (S1.to e (S1.mem.newM (mo := .lst _) hp ⟨_, upd_same, rgV_Rs n⟩)) (q p (S1.mem.free hp)) rfl
    | _ => exact q1.elim
/-! ### methods of built-in types -/
def dTy (T : String) (x : D) (M : Mp) : Prop := match x with
  | .str _ => T = "str"
  | .fro _ => T = "list"
  | .ref a => match M a with
    | some (.lst _) => T = "list"
    | some (.dk _) => T = "dict"
    | _ => False
  | _ => False
theorem dTy_x {K : PySem.W.Frag} {M : Mp} {H : Hp} (m : Mem K M H) {T : String} {d : D} {v : V} (r : R K H d v) (h : dTy T d M) : tyV K T v H := by
  unfold dTy at h
  cases d with
  | str z => cases r; exact h
  | fro l => obtain ⟨a, vs, rfl, hs, r⟩ := r; exact .inl ⟨h, vs, hs.sq⟩
  | ref a =>
    cases r
    dsimp only at h
    split at h
    · rename_i l hM
      obtain ⟨vs, h1, _⟩ := m.at_ _ _ hM
      exact .inl ⟨h, vs, SqL.of h1⟩
    · rename_i l hM
      obtain ⟨vs, h1, _⟩ := m.at_ _ _ hM
      exact .inr (.inr (.inl ⟨h, .inl ⟨vs, h1⟩⟩))
    · exact h.elim
  | _ => exact h.elim
abbrev BM := D → List D → Mp → (D → Mp → Prop) → Prop
def TrM (K : PySem.W.Frag) (b : BM) (r : V → List V → Hp → VK → Prop) : Prop := ∀ (σ : Sg) (σv : St) (M : Mp) (H : Hp) (x : D) (vx : V) (xs : List D) (vs : List V) (Q : D → Mp → Prop) (P : VK), Sim K σ M σv H → R K H x vx → Rs K H xs vs → b x xs M Q →
  (∀ v H', L K H σ σv Q v H' → P v H') → r vx vs H P
def dBM0 (T : String) (b : BM) (te : DE0) : DE0 := fun σ M Q => te σ M fun x M1 => dTy T x M1 ∧ b x [] M1 Q
def dBM (T : String) (b : BM) (te : DE0) (ta : DA0) : DE0 := fun σ M Q => te σ M fun x M1 => dTy T x M1 ∧ ta σ M1 fun xs M2 => b x xs M2 Q
section
variable {X : Cx} {o e : Expr} {es : List Expr} {to : DE0} {ta : DA0} {name : Str} {apos cpos : Pos} {T id : String} {r : V → List V → Hp → VK → Prop} {b : BM}
theorem de_bm0 (pa : PlainAttrs T) (slot : Slot T name id) (hty : typeOf (.builtin id) = pure (.type "method_descriptor")) (hm : MtR X id r) (tr : TrM X.K b r) (ho : DE X o to)
    (hbase : attributeBase o name X.env (eval o X.env) = eval o X.env := by rfl) (hline : (apos.endLine == cpos.line) = true := by rfl) : DE X (.Call (.Attribute o name apos) [] [] cpos) (dBM0 T b to) :=
  de_of (pe_bm0 pa slot hty hm pe_sem hbase hline) fun σv H σ M Q S z => ho.then S z fun v H1 d M1 e1 S1 r1 q1 => ⟨dTy_x S1.mem r1 q1.1, tr σ σv M1 H1 d v [] [] Q _ S1 r1 rfl q1.2 fun v' H' h => h.pre e1⟩
theorem de_bm (pa : PlainAttrs T) (slot : Slot T name id) (hty : typeOf (.builtin id) = pure (.type "method_descriptor")) (hm : MtR X id r) (tr : TrM X.K b r) (ho : DE X o to) (ha : DA X (e :: es) ta)
    (hbase : attributeBase o name X.env (eval o X.env) = eval o X.env := by rfl)
    (hfew : ((backTo cpos (starEach (e :: es) X.env)).all (fun x => !x.1) && (backToKw cpos (keywordEach [] X.env)).all (fun x => x.1.isSome)
      && decide ((e :: es).length + ([] : List Keyword).length + (if ([] : List Keyword).isEmpty then 0 else 1) < 30)) = true := by rfl)
    (hline : (apos.endLine == cpos.line) = true := by rfl) (hs : starEach (e :: es) X.env = (false, eval e X.env) :: starEach es X.env := by rfl) (hplain : (backTo cpos (starEach es X.env)).any (·.1) = false := by rfl) :
    DE X (.Call (.Attribute o name apos) (e :: es) [] cpos) (dBM T b to ta) :=
  de_of (pe_bm pa slot hty hm pe_sem pa_sem hbase hfew hline hs hplain) fun σv H σ M Q S z => ho.then S z fun v H1 d M1 e1 S1 r1 q1 => ⟨dTy_x S1.mem r1 q1.1, ha.then S1 q1.2 fun vs H2 ds M2 e2 S2 r2 q2 =>
    tr σ σv M2 H2 d v ds vs Q _ S2 (R.mono e2 _ _ r1) r2 q2 fun v' H' h => (h.pre e2).pre e1⟩
end
theorem wr_lst {xs : List V} : Wr (.lst xs) := ⟨fun _ z => (nomatch z), fun _ _ z => (nomatch z)⟩
theorem wr_dK {xs : List (Key × V)} : Wr (.dK xs) := ⟨fun _ z => (nomatch z), fun _ _ z => (nomatch z)⟩
theorem wr_ins {C dx : Addr} {xs : List (Str × V)} : Wr (.ins C dx xs) := ⟨fun _ z => (nomatch z), fun _ _ z => (nomatch z)⟩
def bAppend : BM := fun x xs M Q => match x, xs with
  | .ref a, [y] => ∃ l, M a = some (.lst l) ∧ l.length < sizeLine ∧ Q .non (put M a (.lst (l ++ [y])))
  | _, _ => False
theorem tr_append {K : PySem.W.Frag} : TrM K bAppend rAppend := fun σ σv M H x vx xs vs Q P S rx r z k => by
  unfold bAppend at z
  split at z
  · cases rx
    obtain ⟨v, r1, rfl, ry, e3⟩ := r
    cases e3
    obtain ⟨l, hM, hl, q⟩ := z
    obtain ⟨ws, h1, rl⟩ := S.mem.at_ _ _ hM
    have e := Ext.wr (K := K) (o' := .lst (ws ++ [v])) h1 wr_lst
    exact ⟨_, ws, v, rfl, rfl, h1, by rw [rl.length]; exact hl, k _ _ (L.mk' e (S.to e (S.mem.write (mo := .lst _) h1 wr_lst ⟨_, upd_same, (Rs.mono e _ _ rl).append (.one (R.mono e _ _ ry))⟩)) q rfl)⟩
  · exact z.elim
def bExtend : BM := fun x xs M Q => match x, xs with
  | .ref a, [.ref b] => ∃ l ys, M a = some (.lst l) ∧ M b = some (.lst ys) ∧ l.length + ys.length ≤ sizeLine ∧ Q .non (put M a (.lst (l ++ ys)))
  | _, _ => False
theorem tr_extend {K : PySem.W.Frag} : TrM K bExtend rExtend := fun σ σv M H x vx xs vs Q P S rx r z k => by
  unfold bExtend at z
  split at z
  · cases rx
    obtain ⟨v, r1, rfl, ry, e3⟩ := r
    cases e3; cases ry
    obtain ⟨l, ys, hM, hN, hl, q⟩ := z
    obtain ⟨ws, h1, rl⟩ := S.mem.at_ _ _ hM
    obtain ⟨us, h2, ru⟩ := S.mem.at_ _ _ hN
    have e := Ext.wr (K := K) (o' := .lst (ws ++ us)) h1 wr_lst
    exact ⟨_, _, ws, us, rfl, rfl, h1, h2, by rw [rl.length, ru.length]; exact hl, k _ _ (L.mk' e (S.to e (S.mem.write (mo := .lst _) h1 wr_lst ⟨_, upd_same, (Rs.mono e _ _ rl).append (Rs.mono e _ _ ru)⟩)) q rfl)⟩
  · exact z.elim
def bPop : BM := fun x xs M Q => match x, xs with
  | .ref a, [] => ∃ l y, M a = some (.lst l) ∧ l[l.length - 1]? = some y ∧ Q y (put M a (.lst l.dropLast))
  | _, _ => False
theorem tr_pop {K : PySem.W.Frag} : TrM K bPop rPop := fun σ σv M H x vx xs vs Q P S rx r z k => by
  unfold bPop at z
  split at z
  · cases rx; cases r
    obtain ⟨l, y, hM, hl, q⟩ := z
    obtain ⟨ws, h1, rl⟩ := S.mem.at_ _ _ hM
    have e := Ext.wr (K := K) (o' := .lst ws.dropLast) h1 wr_lst
    obtain ⟨v, hv, ry⟩ := rl.get hl
    exact ⟨_, ws, v, rfl, rfl, h1, by rw [rl.length]; exact hv, k _ _ (L.mk' e (S.to e (S.mem.write (mo := .lst _) h1 wr_lst ⟨_, upd_same, Rs.mono e _ _ rl.dropLast⟩)) q (R.mono e _ _ ry))⟩
  · exact z.elim
def bJoin : BM := fun x xs M Q => match x, xs with
  | .str a, [y] => ∃ ys : List Str, itemsOf M y = some (ys.map D.str) ∧ (ys.map (·.length)).sum + ys.length * a.length ≤ 16777216 ∧ Q (.str (Txt.join a ys)) M
  | _, _ => False
theorem tr_join {K : PySem.W.Frag} : TrM K bJoin (fun x xs H Q => ∃ a p ys, x = .str a ∧ xs = [.ref p] ∧ (SqL K H p (ys.map V.str) ∨ SqT K H p (ys.map V.str)) ∧ (ys.map (·.length)).sum + ys.length * a.length ≤ 16777216 ∧ Q (.str (Txt.join a ys)) H) := fun σ σv M H x vx xs vs Q P S rx r z k => by
  unfold bJoin at z
  split at z
  · cases rx
    obtain ⟨v, r1, rfl, ry, e3⟩ := r
    cases e3
    obtain ⟨ys, hy, hl, q⟩ := z
    obtain ⟨p, ws, rfl, hs, r⟩ := itemsOf_x S.mem ry hy
    cases Rs.ofStrs r
    exact ⟨_, p, ys, rfl, rfl, hs, hl, k _ _ (L.mk S q rfl)⟩
  · exact z.elim
def bStarts : BM := fun x xs M Q => match x, xs with
  | .str a, [.str b, .int i] => Q (.bl (Txt.startswith3 a b i)) M
  | _, _ => False
theorem tr_starts {K : PySem.W.Frag} : TrM K bStarts (fun x xs H Q => ∃ (a b : Str) (i : Int), x = .str a ∧ xs = [.str b, .int i] ∧ Q (.bl (Txt.startswith3 a b i)) H) := fun σ σv M H x vx xs vs Q P S rx r z k => by
  unfold bStarts at z
  split at z
  · cases rx
    obtain ⟨v, r1, rfl, ry, v2, r2, rfl, ry2, e3⟩ := r
    cases e3; cases ry; cases ry2
    exact ⟨_, _, _, rfl, rfl, k _ _ (L.mk S z rfl)⟩
  · exact z.elim
def bSindex : BM := fun x xs M Q => match x, xs with
  | .str a, [.str b] => ∃ i rest, Builtin.Str.occurrences a b 0 a.length 1 = i :: rest ∧ Q (.int (i : Nat)) M
  | _, _ => False
theorem tr_sindex {K : PySem.W.Frag} : TrM K bSindex (fun x xs H Q => ∃ a b i rest, x = .str a ∧ xs = [.str b] ∧ Builtin.Str.occurrences a b 0 a.length 1 = i :: rest ∧ Q (.int (i : Nat)) H) := fun σ σv M H x vx xs vs Q P S rx r z k => by
  unfold bSindex at z
  split at z
  · cases rx
    obtain ⟨v, r1, rfl, ry, e3⟩ := r
    cases e3; cases ry
    obtain ⟨i, rest, h, q⟩ := z
    exact ⟨_, _, i, rest, rfl, rfl, h, k _ _ (L.mk S q rfl)⟩
  · exact z.elim
end DL
namespace DL
open PySem PySem.Spec PyProof.Rows L2
/-! ### blocks -/
theorem SP.lift {X : Cx} {pins : List (Addr × Obj)} {H H1 : Hp} {E : DEnds} (e : Ext X.K H H1) {f : Flow} {s : Shared} (h : SP X pins (LE X.K H1 E) f s) : SP X pins (LE X.K H E) f s :=
  SP.mono (D := LE X.K H1 E) (D' := LE X.K H E) (fun _ _ z => LN.pre e z) (fun _ _ z => LR.pre e z) (fun _ _ z => LN.pre e z) (fun _ _ z => LN.pre e z) h
def dNext : DS0 := fun E σ M => E.nx σ M
def dSeq (t u : DS0) : DS0 := fun E σ M => t { E with nx := u E } σ M
section
variable {X : Cx} {st : Stmt} {rest : List Stmt} {t u : DS0} {pos : Pos}
theorem dss_of {t0 : TS} {l : List Stmt} (h : PSs X l t0) (q : ∀ σv H σ M E, Sim X.K σ M σv H → t E σ M → t0 (LE X.K H E) σv H) : DSs X l t :=
  ⟨fun σv H σ M E S z pins s I => h.run pins s σv H _ I (q σv H σ M E S z)⟩
theorem dss_nil : DSs X [] dNext := dss_of pss_nil fun σv H σ M E S z => ⟨σ, M, Ext.refl, S, z⟩
theorem dss_cons (h : DS X st t) (h2 : DSs X rest u) : DSs X (st :: rest) (dSeq t u) :=
  dss_of (pss_cons ps_sem pss_sem) fun σv H σ M E S z pins s I => thn (h.run σv H σ M { E with nx := u E } S z pins s I) fun f s' q => by
    cases f with
    | next =>
      obtain ⟨σv', H', I', σ', M', e, S', z'⟩ := q
      exact ⟨σv', H', I', fun pins' s'' I'' => thn (h2.run σv' H' σ' M' E S' z' pins' s'' I'') fun f' s3 q3 => SP.lift e q3⟩
    | brk => exact q
    | cont => exact q
    | ret v => exact q
theorem dss_one (h : DS X st t) : DSs X [st] t := dss_of (pss_one ps_sem) fun σv H σ M E S z => h.run σv H σ M E S z
end
/-! ### statements -/
def dDrop (t : DE0) : DS0 := fun E σ M => t σ M fun _ M1 => E.nx σ M1
def dRet (t : DE0) : DS0 := fun E σ M => t σ M E.rt
def dRetN : DS0 := fun E _ M => E.rt .non M
def dIfS (c : DT0) (t u : DS0) : DS0 := fun E σ M => c σ M fun b M1 => if b = true then t E σ M1 else u E σ M1
def dFalse : DS0 := fun _ _ _ => False
def dBreak : DS0 := fun E σ M => E.bk σ M
def dCont : DS0 := fun E σ M => E.ct σ M
section
variable {X : Cx} {e : Expr} {te : DE0} {a b : List Stmt} {t u : DS0} {c : DT0} {pos : Pos}
theorem ds_expr (h : DE X e te) (hs : swapsWith e none pos.line X.env = pure false := by rfl) : DS X (.Expr e pos) (dDrop te) :=
  ds_of (ps_expr pe_sem hs) fun σv H σ M E S z => h.then S z fun v H1 d M1 e1 S1 r1 q1 => ⟨σ, M1, e1, S1, q1⟩
theorem ds_ret (h : DE X e te) : DS X (.Return (some e) pos) (dRet te) :=
  ds_of (ps_ret pe_sem) fun σv H σ M E S z => h.then S z fun v H1 d M1 e1 S1 r1 q1 => ⟨d, M1, e1, S1.mem, r1, q1⟩
theorem ds_retN : DS X (.Return none pos) dRetN := ds_of ps_retN fun σv H σ M E S z => ⟨.non, M, Ext.refl, S.mem, rfl, z⟩
theorem ds_if (h : DT X e c) (ha : DSs X a t) (hb : DSs X b u) : DS X (.If e a b pos) (dIfS c t u) :=
  ds_of (ps_if pt_sem pss_sem pss_sem) fun σv H σ M E S z => h.then S z fun k H1 M1 e1 S1 q1 => by
    cases k with
    | true => exact fun pins s I => thn (ha.run σv H1 σ M1 E S1 q1 pins s I) fun f s3 q3 => SP.lift e1 q3
    | false => exact fun pins s I => thn (hb.run σv H1 σ M1 E S1 q1 pins s I) fun f s3 q3 => SP.lift e1 q3
/-- what is not reached -/
theorem ds_never {st : Stmt} : DS X st dFalse := ⟨fun σv H σ M E S z => z.elim⟩
theorem de_never {e : Expr} : DE X e (fun _ _ _ => False) := ⟨fun σv H σ M E S z => z.elim⟩
end
/-! ### targets -/
abbrev DG0 := D → Sg → Mp → (Sg → Mp → Prop) → Prop
abbrev DGs0 := List D → Sg → Mp → (Sg → Mp → Prop) → Prop
structure DG (X : Cx) (tg : Expr) (t : DG0) (t0 : TG) : Prop where
  pg : PG X tg t0
  run : ∀ σv H σ M d v (N : Sg → Mp → Prop) (P : St → Hp → Prop), Sim X.K σ M σv H → R X.K H d v → t d σ M N → (∀ σv' H' σ' M', Ext X.K H H' → Sim X.K σ' M' σv' H' → N σ' M' → P σv' H') → t0 v σv H P
structure DGs (X : Cx) (tgs : List Expr) (t : DGs0) (t0 : TGs) : Prop where
  pg : PGs X tgs t0
  run : ∀ σv H σ M ds vs (N : Sg → Mp → Prop) (P : St → Hp → Prop), Sim X.K σ M σv H → Rs X.K H ds vs → t ds σ M N → (∀ σv' H' σ' M', Ext X.K H H' → Sim X.K σ' M' σv' H' → N σ' M' → P σv' H') → t0 vs σv H P
def dgName (i : Nat) : DG0 := fun d σ M N => N (σ.set i (some d)) M
def dgNil : DGs0 := fun ds σ M N => ds = [] ∧ N σ M
def dgCons (t : DG0) (u : DGs0) : DGs0 := fun ds σ M N => match ds with
  | d :: r => t d σ M fun σ' M' => u r σ' M' N
  | [] => False
def dgTup (n : Nat) (t : DGs0) : DG0 := fun d σ M N => match d with
  | .tup ds => ds.length = n ∧ t ds σ M N
  | _ => False
def dAsg (te : DE0) (g : DG0) : DS0 := fun E σ M => te σ M fun d M1 => g d σ M1 E.nx
section
variable {X : Cx} {e tg : Expr} {es : List Expr} {te : DE0} {g : DG0} {gs : DGs0} {g0 : TG} {gs0 : TGs} {pos pos' : Pos} {i : Nat} {x : Str}
theorem dg_name (hN : X.N.Nodup) (hi : X.N[i]? = some x) (hx : Loc X.env.scope x) (hf : X.fn x = true ∨ X.env.scope.names.lookup x = some .local := by first | exact .inl rfl | exact .inr rfl | assumption) : DG X (.Name x pos) (dgName i) (gName i) :=
  ⟨pg_name hN hi hx hf, fun σv H σ M d v N P S r z k => k _ _ _ _ Ext.refl (S.set i r) z⟩
theorem dgs_nil : DGs X [] dgNil gNil := ⟨pgs_nil, fun σv H σ M ds vs N P S r z k => by obtain ⟨rfl, z⟩ := z; cases r; exact ⟨rfl, k _ _ _ _ Ext.refl S z⟩⟩
theorem dgs_cons (h1 : DG X e g g0) (h2 : DGs X es gs gs0) (hs : (assignEach (e :: es) X.env).map (·.2) = assign e X.env :: (assignEach es X.env).map (·.2) := by rfl) : DGs X (e :: es) (dgCons g gs) (gCons g0 gs0) :=
  ⟨pgs_cons h1.pg h2.pg hs, fun σv H σ M ds vs N P S r z k => by
    cases ds with
    | nil => exact z.elim
    | cons d ds =>
      obtain ⟨v, r', rfl, ra, rb⟩ := r
      exact ⟨v, r', rfl, h1.run σv H σ M d v _ _ S ra z fun σv1 H1 σ1 M1 e1 S1 z1 => h2.run σv1 H1 σ1 M1 ds r' _ _ S1 (Rs.mono e1 _ _ rb) z1 fun σv2 H2 σ2 M2 e2 S2 z2 => k _ _ _ _ (e1.trans e2) S2 z2⟩⟩
theorem dg_tup {n k : Nat} (hc : X.calm = true) (h : DGs X es gs gs0) (hn : (assignEach es X.env).length = n := by rfl) (hst : (assignEach es X.env).findIdx? (·.1) = none := by rfl) : DG X (.Tuple es k pos) (dgTup n gs) (gTup X.K n gs0) :=
  ⟨pg_tup hc h.pg hn hst, fun σv H σ M d v N P S r z k => by
    cases d with
    | tup ds =>
      obtain ⟨a, vs, rfl, hs, rs⟩ := r
      exact ⟨a, vs, rfl, hs, by rw [rs.length]; exact z.1, h.run σv H σ M ds vs N P S rs z.2 k⟩
    | _ => exact z.elim⟩
theorem ds_asg (he : DE X e te) (hg : DG X tg g g0) (hs : swapsWithSole [tg] e pos.line X.env = pure false := by rfl) (hw : swappedStores [tg] e X.env = pure none := by rfl)
    (h1 : (assignEach [tg] X.env).map (·.2) = [assign tg X.env] := by rfl) : DS X (.Assign [tg] e pos) (dAsg te g) :=
  ds_of (ps_asg pe_sem hg.pg hs hw h1) fun σv H σ M E S z => he.then S z fun v H1 d M1 e1 S1 r1 q1 => hg.run σv H1 σ M1 d v _ _ S1 r1 q1 fun σv2 H2 σ2 M2 e2 S2 z2 => ⟨σ2, M2, e1.trans e2, S2, z2⟩
theorem ds_set (hN : X.N.Nodup) (hi : X.N[i]? = some x) (hx : Loc X.env.scope x) (he : DE X e te) (hs : swapsWith e (some (.Name x pos')) pos.line X.env = pure false := by rfl) (hf : X.fn x = true ∨ X.env.scope.names.lookup x = some .local := by first | exact .inl rfl | exact .inr rfl | assumption) :
    DS X (.Assign [.Name x pos'] e pos) (dAsg te (dgName i)) :=
  ds_of (ps_set hN hi hx pe_sem hs hf) fun σv H σ M E S z => he.then S z fun v H1 d M1 e1 S1 r1 q1 => ⟨_, M1, e1, S1.set i r1, q1⟩
/-- a, b = x, y; a, b, c = x, y, z -/
def dPar (is : List Nat) (ta : DA0) : DS0 := fun E σ M => ta σ M fun ds M1 => ds.length = is.length ∧ E.nx ((is.zip ds).foldl (fun σ p => σ.set p.1 (some p.2)) σ) M1
theorem ds_par {j : Nat} {y : Str} {a b : Expr} {ta : DA0} {px py pt : Pos} {kt k2 pt2} (hc : X.calm = true) (hN : X.N.Nodup) (hi : X.N[i]? = some x) (hj : X.N[j]? = some y) (hij : i ≠ j)
    (hx : X.env.scope.names.lookup x = some .local) (hy : X.env.scope.names.lookup y = some .local) (ha : DA X [a, b] ta)
    (hw : swappedStores [.Tuple [.Name x px, .Name y py] kt pt] (.Tuple [a, b] k2 pt2) X.env = pure (some [x, y]))
    (hs : swapsWithSole [.Tuple [.Name x px, .Name y py] kt pt] (.Tuple [a, b] k2 pt2) pos.line X.env = pure false := by rfl) : DS X (.Assign [.Tuple [.Name x px, .Name y py] kt pt] (.Tuple [a, b] k2 pt2) pos) (dPar [i, j] ta) :=
  ds_of (ps_par hc hN hi hj hij hx hy pa_sem hw hs) fun σv H σ M E S z => ha.then S z fun vs H1 ds M1 e1 S1 r1 q1 => by
    match ds, q1.1 with
    | [d1, d2], _ =>
      obtain ⟨v1, _, rfl, ra, v2, _, rfl, rb, rfl⟩ := r1
      exact ⟨v1, v2, rfl, _, M1, e1, (S1.set i ra).set j rb, q1.2⟩
theorem ds_par3 {j l : Nat} {y zz : Str} {a b c : Expr} {ta : DA0} {px py pz pt : Pos} {kt k2 pt2} (hc : X.calm = true) (hN : X.N.Nodup) (hi : X.N[i]? = some x) (hj : X.N[j]? = some y) (hl : X.N[l]? = some zz) (hij : i ≠ j) (hil : i ≠ l) (hjl : j ≠ l)
    (hx : X.env.scope.names.lookup x = some .local) (hy : X.env.scope.names.lookup y = some .local) (hz : X.env.scope.names.lookup zz = some .local) (ha : DA X [a, b, c] ta)
    (hw : swappedStores [.Tuple [.Name x px, .Name y py, .Name zz pz] kt pt] (.Tuple [a, b, c] k2 pt2) X.env = pure (some [x, y, zz]))
    (hs : swapsWithSole [.Tuple [.Name x px, .Name y py, .Name zz pz] kt pt] (.Tuple [a, b, c] k2 pt2) pos.line X.env = pure false := by rfl) :
    DS X (.Assign [.Tuple [.Name x px, .Name y py, .Name zz pz] kt pt] (.Tuple [a, b, c] k2 pt2) pos) (dPar [i, j, l] ta) :=
  ds_of (ps_par3 hc hN hi hj hl hij hil hjl hx hy hz pa_sem hw hs) fun σv H σ M E S z => ha.then S z fun vs H1 ds M1 e1 S1 r1 q1 => by
    match ds, q1.1 with
    | [d1, d2, d3], _ =>
      obtain ⟨v1, _, rfl, ra, v2, _, rfl, rb, v3, _, rfl, rc, rfl⟩ := r1
      exact ⟨v1, v2, v3, rfl, _, M1, e1, ((S1.set i ra).set j rb).set l rc, q1.2⟩
/-- o[i] = v: a dict's, a list's -/
def dgSub (to ti : DE0) : DG0 := fun d σ M N => to σ M fun o M1 => ti σ M1 fun y M2 => match o with
  | .ref a => match M2 a with
    | some (.lst l) => match y with
      | .int k => ∃ j, ixN l.length k = some j ∧ N σ (put M2 a (.lst (l.set j d)))
      | _ => False
    | some (.dk kvs) => ∃ k, keyOf y = some k ∧ kvs.length < sizeLine ∧ N σ (put M2 a (.dk (putD kvs k d)))
    | _ => False
  | _ => False
def rSet2 : TSet := fun o i v H Q => rSetL o i v H Q ∨ ∃ a H', o = .ref a ∧ DPut H a i v H' ∧ Q H'
theorem set2 (hu : X.A.units + 1 < cLine) : PSet X rSet2 := fun pins s σ H o i v ov iv u Q I ro ri rv h => by
  rcases h with h | ⟨a, H', rfl, g, q⟩
  · exact set_list pins s σ H o i v ov iv u Q I ro ri rv h
  · cases ro
    exact d_setItem hu I g ri rv fun s' I' => ⟨H', I', q⟩
theorem dg_sub {f : Expr} {tf : DE0} (hu : X.A.units + 1 < cLine) (he : DE X e te) (hf : DE X f tf)
    (ha : ∀ v, assign (.Subscript e f pos) X.env v = (do
      let ov ← holding [v] (eval e X.env)
      let iv ← holding [v, ov] (eval f X.env)
      standAt pos
      holding [v, ov, iv] (setItem ov iv v)
      release [v, ov, iv] []) := by intro _; rfl) : DG X (.Subscript e f pos) (dgSub te tf) (gSub (semE X e) (semE X f) rSet2) :=
  ⟨pg_sub pe_sem pe_sem (set2 hu) ha, fun σv H σ M d v N P S r z k => he.then S z fun ov H1 o M1 e1 S1 r1 q1 => hf.then S1 q1 fun iv H2 y M2 e2 S2 r2 q2 => by
    have r' := R.mono (e1.trans e2) _ _ r
    cases o with
    | ref a =>
      cases r1
      dsimp only at q2
      split at q2
      · rename_i l hM
        cases y <;> try exact q2.elim
        cases r2
        obtain ⟨j, hj, n⟩ := q2
        obtain ⟨ws, h1, rl⟩ := S2.mem.at_ _ _ hM
        have e3 := Ext.wr (K := X.K) (o' := .lst (ws.set j v)) h1 wr_lst
        exact .inl ⟨_, ws, _, j, rfl, rfl, h1, by rw [rl.length]; exact hj, k _ _ _ _ ((e1.trans e2).trans e3) (S2.to e3 (S2.mem.write (mo := .lst _) h1 wr_lst ⟨_, upd_same, (Rs.mono e3 _ _ rl).set (R.mono e3 _ _ r')⟩)) n⟩
      · rename_i kvs hM
        obtain ⟨kk, hk, hl, n⟩ := q2
        obtain ⟨ws, h1, rl⟩ := S2.mem.at_ _ _ hM
        obtain rfl := keyOf_kV r2 hk
        have e3 := Ext.wr (K := X.K) (o' := .dK (putK ws kk v)) h1 wr_dK
        exact .inr ⟨_, _, rfl, DPut.k h1 (by rw [rl.length]; exact hl), k _ _ _ _ ((e1.trans e2).trans e3) (S2.to e3 (S2.mem.write (mo := .dk _) h1 wr_dK ⟨_, upd_same, (Rk.mono e3 _ _ rl).put (R.mono e3 _ _ r')⟩)) n⟩
      · exact q2.elim
    | _ => exact q2.elim⟩
end
/-! ### attributes -/
def putFD (f : Str) (v : D) : List (Str × D) → List (Str × D)
  | [] => [(f, v)]
  | (g, x) :: r => if g = f then (g, v) :: r else (g, x) :: putFD f v r
theorem Rk.look {K : PySem.W.Frag} {H : Hp} {f : Str} : ∀ {fs : List (Str × D)} {vs : List (Str × V)}, Rk K H fs vs → (fs.lookup f = none ∧ vs.lookup f = none) ∨ ∃ d v, fs.lookup f = some d ∧ vs.lookup f = some v ∧ R K H d v
  | [], _, h => by cases h; exact .inl ⟨rfl, rfl⟩
  | (g, d) :: fs, _, h => by
    obtain ⟨v, r, rfl, h1, h2⟩ := h
    rw [List.lookup_cons, List.lookup_cons]
    cases hb : f == g with
    | true => exact .inr ⟨d, v, rfl, rfl, h1⟩
    | false => exact Rk.look h2
theorem Rk.putF {K : PySem.W.Frag} {H : Hp} {f : Str} {d : D} {v : V} (hd : R K H d v) : ∀ {fs : List (Str × D)} {vs : List (Str × V)}, Rk K H fs vs → Rk K H (putFD f d fs) (putF f v vs)
  | [], _, h => by cases h; exact ⟨v, [], rfl, hd, rfl⟩
  | (g, d') :: fs, _, h => by
    obtain ⟨v', r, rfl, h1, h2⟩ := h
    unfold putFD L2.putF
    by_cases e : g = f
    · rw [if_pos e, if_pos e]; exact ⟨v, r, rfl, hd, h2⟩
    · rw [if_neg e, if_neg e]; exact ⟨v', _, rfl, h1, Rk.putF hd h2⟩
def dFld (C : Addr) (f : Str) (te : DE0) : DE0 := fun σ M Q => te σ M fun x M1 => match x with
  | .ref a => ∃ fs d, M1 a = some (.ins C fs) ∧ fs.lookup f = some d ∧ Q d M1
  | _ => False
def dFldS (C : Addr) (f : Str) (to tv : DE0) : DS0 := fun E σ M => tv σ M fun y M1 => to σ M1 fun x M2 => match x with
  | .ref a => ∃ fs, M2 a = some (.ins C fs) ∧ fs.length < 1000 ∧ E.nx σ (put M2 a (.ins C (putFD f y fs)))
  | _ => False
section
variable {X : Cx} {e v : Expr} {te tv : DE0} {pos pos' : Pos} {C : Addr} {f : Str}
theorem de_fld (c : Cls X.K C) (n : NoAttr X.K C f) (he : DE X e te) (hb : attributeBase e f X.env (eval e X.env) = eval e X.env := by rfl) : DE X (.Attribute e f pos) (dFld C f te) :=
  de_of (pe_fld pe_sem hb) fun σv H σ M Q S z => he.then S z fun v H1 d M1 e1 S1 r1 q1 => by
    cases d with
    | ref a =>
      cases r1
      obtain ⟨fs, d, hM, hl, q⟩ := q1
      obtain ⟨dx, vs, h1, rf⟩ := S1.mem.at_ _ _ hM
      rcases rf.look (f := f) with ⟨n1, _⟩ | ⟨d', w, l1, l2, r⟩
      · rw [n1] at hl; cases hl
      · rw [l1] at hl; cases hl
        exact ⟨_, C, dx, vs, w, rfl, h1, c, n, l2, L.mk' e1 S1 q r⟩
    | _ => exact q1.elim
theorem ds_fld (c : Cls X.K C) (n : NoAttr X.K C f) (he : DE X e te) (hv : DE X v tv) (hs : swapsWith v (some (.Attribute e f pos')) pos.line X.env = pure false := by rfl) : DS X (.Assign [.Attribute e f pos'] v pos) (dFldS C f te tv) :=
  ds_of (ps_fld pe_sem pe_sem hs) fun σv H σ M E S z => hv.then S z fun w H1 y M1 e1 S1 r1 q1 => he.then S1 q1 fun u H2 x M2 e2 S2 r2 q2 => by
    cases x with
    | ref a =>
      cases r2
      obtain ⟨fs, hM, hl, q⟩ := q2
      obtain ⟨dx, vs, h1, rf⟩ := S2.mem.at_ _ _ hM
      have e3 := Ext.wr (K := X.K) (o' := .ins C dx (putF f w vs)) h1 wr_ins
      exact ⟨_, C, dx, vs, rfl, h1, c, n, by rw [rf.length]; exact hl, σ, _, (e1.trans e2).trans e3, S2.to e3 (S2.mem.write (mo := .ins C _) h1 wr_ins ⟨dx, _, upd_same, (Rk.mono e3 _ _ rf).putF (R.mono (e2.trans e3) _ _ r1)⟩), q⟩
    | _ => exact q2.elim
end
/-! ### while -/
def dWhile (c : DT0) (tb : DS0) : DS0 := fun E σ M => ∃ I : Nat → Sg → Mp → Prop, (∃ m, I m σ M) ∧ ∀ m σ M, I m σ M → c σ M fun b M1 =>
  if b = true then tb { E with nx := fun σ' M' => ∃ m', m' < m ∧ I m' σ' M', ct := fun σ' M' => ∃ m', m' < m ∧ I m' σ' M', bk := E.nx } σ M1 else E.nx σ M1
section
variable {X : Cx} {c : Expr} {body : List Stmt} {tc : DT0} {tb : DS0} {pos : Pos}
theorem ds_while (hp : PassesOwn (model X.prog X.w) X.A X.env X.xe) (hc : DT X c tc) (hb : DSs X body tb) : DS X (.While c body [] pos) (dWhile tc tb) :=
  ds_of (ps_while hp pt_sem pss_sem) fun σv H σ M E S z => by
    obtain ⟨I, ⟨m, h0⟩, step⟩ := z
    refine ⟨fun m σv' H' => ∃ σ' M', Ext X.K H H' ∧ Sim X.K σ' M' σv' H' ∧ I m σ' M', ⟨m, σ, M, Ext.refl, S, h0⟩, ?_⟩
    rintro m σv1 H1 ⟨σ1, M1, e1, S1, h1⟩
    refine hc.then S1 (step m σ1 M1 h1) fun b H2 M2 e2 S2 q2 => ?_
    cases b with
    | true =>
      rw [if_pos rfl]
      refine ⟨fun σv' H' => ∃ σ' M', Ext X.K H H' ∧ Sim X.K σ' M' σv' H' ∧ ∃ m', m' < m ∧ I m' σ' M', fun σ' H' ⟨a1, a2, a3, a4, m', a5, a6⟩ => ⟨m', a5, a1, a2, a3, a4, a6⟩, ?_⟩
      exact fun pins s Iv => thn (hb.run σv1 H2 σ1 M2 _ S2 q2 pins s Iv) fun f s3 q3 => SP.lift (e1.trans e2) q3
    | false =>
      rw [if_neg Bool.false_ne_true]
      exact ⟨σ1, M2, e1.trans e2, S2, q2⟩
end
/-! ### what is walked -/
structure DWalk (K : PySem.W.Frag) (J : It) (items : List D) (G : Mp → Prop) (H0 : Hp) : Prop where
  go : ∀ (i : Nat) (M : Mp) (H : Hp), i < items.length → Ext K H0 H → Mem K M H → G M → J.go i H
  stop : ∀ (M : Mp) (H : Hp), Ext K H0 H → Mem K M H → G M → J.stop items.length H
  yld : ∀ (i : Nat) (d : D) (M : Mp) (H : Hp) (x : V) (H' : Hp), items[i]? = some d → Ext K H0 H → Mem K M H → G M → J.yld i H x H' → Ext K H H' ∧ Mem K M H' ∧ R K H' d x
abbrev DI0 := Sg → Mp → (List D → (Mp → Prop) → Mp → Prop) → Prop
structure DI (X : Cx) (tg iter : Expr) (t : DI0) (wi : TI) : Prop where
  pi : PI X tg iter wi
  run : ∀ σv H σ M (Q : List D → (Mp → Prop) → Mp → Prop) (P : It → Hp → Prop), Sim X.K σ M σv H → t σ M Q →
    (∀ J H' items G M', Ext X.K H H' → Sim X.K σ M' σv H' → DWalk X.K J items G H' → Q items G M' → P J H') → wi σv H P
end DL
namespace DL
open PySem PySem.Spec PyProof.Rows L2
/-! ### enumerate(tuple) -/
section
open AutoSeq1 (wpAny_loadPart')
theorem enumT_new (l : Addr) (items : Array Value) (n : Nat) (dct : Option Addr) (sl : Array (Option Value)) :
    Meets (Builtin.«enumerate.__new__» ⟨[.type "enumerate", .ref l], []⟩) (fun _ R s => s.heap.get? l = some { cls := .type "tuple", dict := dct, data := .seq items n, slots := sl } ∧
      R (.ok (.ret (.ref (s.heap.push { cls := .type "tuple_iterator", data := .fields #[.ref l, .int 0 0] }).objs.size)))
        { s with heap := (s.heap.push { cls := .type "tuple_iterator", data := .fields #[.ref l, .int 0 0] }).push { cls := .type "enumerate", data := .fields #[.none, .bool false, .ref s.heap.objs.size, rawInt 0, .none, .none] } }) :=
  .of_wp fun prog w A R s h => by
    have hsub := sub_enumerate
    have hl := h.1
    have hT : s.heap.IsTuple l items := ⟨_, hl, rfl, n, rfl⟩
    obtain ⟨hp, g, d, tk, os⟩ := s
    wp_walk using wpAny_loadPart' hl
    refine wpAny_stack_any fun st => wpAny_pure ?_
    split
    · rename_i c _ _ _ _ _
      cases (c == Value.type "enumerate") <;> (wp_walk using wpAny_loadPart' hl, wpAny_pyIter_tuple hT) <;> exact ⟨_, rfl, h.2⟩
    · wp_walk using wpAny_loadPart' hl, wpAny_pyIter_tuple hT
      exact ⟨_, rfl, h.2⟩
end
section
variable {prog : Program} {w : World} {A : Around} {E : Value → Shared → Prop} {s : Shared}
theorem call_enumT {l : Addr} {items : Array Value} {Q : Value → Shared → Prop} (hT : s.heap.IsTuple l items)
    (h : ∀ h', IsEnum h' (s.heap.objs.size + 1) s.heap.objs.size 0 .none → h'.IsTupleIter s.heap.objs.size l 0 → (∀ b o, s.heap.get? b = some o → h'.get? b = some o) → Q (.ref (s.heap.objs.size + 1)) { s with heap := h' }) :
    wpAny (model prog w) A (call (.type "enumerate") [.ref l]) Q E s := by
  obtain ⟨⟨c, dct, dt, sl⟩, hl, hc, n, hd⟩ := hT
  have hc' : c = .type "tuple" := hc
  have hd' : dt = .seq items n := hd
  subst hc' hd'
  refine callType_new F.called_enumerate (by decide) (F.typeCall_enumerate_1 _) (F.newCall_enumerate_1 _) (fun obj => F.args_object_init_2 obj _) F.entry_enumerate_new (enumT_new l items n dct sl) ⟨hl, ?_⟩
  show _ ∧ _
  have hz : (s.heap.push { cls := .type "tuple_iterator", data := .fields #[.ref l, .int 0 0] }).objs.size = s.heap.objs.size + 1 := Heap.size_push ..
  rw [hz]
  have e1 := Heap.get?_push_size (s.heap.push { cls := .type "tuple_iterator", data := .fields #[.ref l, .int 0 0] }) (o := { cls := .type "enumerate", data := .fields #[.none, .bool false, .ref s.heap.objs.size, rawInt 0, .none, .none] }) rfl
  rw [hz] at e1
  exact ⟨⟨_, e1, rfl⟩, h _ e1 ⟨_, Heap.get?_push_of_some _ (Heap.get?_push_size _ rfl), rfl, rfl⟩ fun b o x => Heap.get?_push_of_some _ (Heap.get?_push_of_some _ x)⟩
end
/-- the tuple at a, the items in new pairs with their places -/
def IteT (K : PySem.W.Frag) (a : Addr) : It :=
  ⟨fun i H => ∃ (xs : List V) (x : V), SqT K H a xs ∧ xs[i]? = some x, fun i H v H' => ∃ T x, v = .ref T ∧ H T = none ∧ H' = upd H T (.tup [.int (i : Nat), x]) ∧ ∀ xs, SqT K H a xs → xs[i]? = some x,
    fun i H => ∃ xs : List V, SqT K H a xs ∧ xs.length ≤ i⟩
theorem turn_enumT {P : Program} {w : World} {K : PySem.W.Frag} {elts : List Expr} {kk : Nat} {tpos : Pos} (a e it : Addr) (hae : a ≠ e) (hai : a ≠ it) :
    Turn P w K (.Tuple elts kk tpos) (IteT K a) [e, it] e (fun i h => (∃ old, IsEnum h e it ((i : Nat) : Int) old) ∧ h.IsTupleIter it a i ∧ e ≠ it) where
  mem := List.mem_cons_self
  obj := fun i h st b hb => by
    obtain ⟨⟨old, he⟩, ⟨o, ho, hc, hd⟩, _⟩ := st
    rcases List.mem_cons.mp hb with z | hb
    · exact z ▸ ⟨_, he, fun v q => (nomatch q)⟩
    · exact List.mem_singleton.mp hb ▸ ⟨o, ho, fun v q => by rw [hd] at q; cases q⟩
  keep := fun i h h' ⟨⟨old, he⟩, ⟨o, ho, hr⟩, hne⟩ k => ⟨⟨old, k e List.mem_cons_self _ he⟩, ⟨o, k it (List.mem_cons_of_mem _ List.mem_cons_self) o ho, hr⟩, hne⟩
  item := by
    intro X hP hw hK hc i pins s σ H E I hf ⟨⟨old, he⟩, hit, hne⟩ ⟨xs, x, hq, hx⟩
    subst hP; subst hw; subst hK
    obtain ⟨its, rv, p, hz⟩ := I.tuple hq
    have hT : s.heap.IsTuple a its.toArray := p
    obtain ⟨u, hu, ru⟩ := rv.get hx
    have hlt : i < its.toArray.size := by rw [List.size_toArray]; exact (List.getElem?_eq_some_iff.mp hu).1
    have hel : e < s.heap.objs.size := Heap.lt_size he
    have hil : it < s.heap.objs.size := by obtain ⟨_, q, _⟩ := hit; exact Heap.lt_size q
    refine wpAny_pyNext_enum_itemD (fp := [it, a]) (Draws.tuple (A := X.A.in1) (I.ok.hd hc) it a hai its.toArray) he ⟨hit, hT⟩ hlt hne (fun z => ?_) fun x' h' tk px ho hst hTu hsz hk => ?_
    · rcases List.mem_cons.mp z with z | z
      · exact hne z
      · exact hae (List.mem_singleton.mp z).symm
    · have ex : x' = u := by
        have e1 : its[i]? = some x' := by simpa using px
        rw [hu] at e1; exact (Option.some.inj e1).symm
      subst ex
      refine ⟨_, rfl, wpAny_letOwnedTupleGo_enum (s := { s with heap := h', toks := tk + 1 }) ho fun h'' he' sb => ?_⟩
      have hT2 : h''.get? s.heap.objs.size = some { cls := .type "tuple", data := .seq #[.int i tk, x'] } := (sb.2 _ (Nat.ne_of_gt hel)).trans hTu
      have new : ObjOk X.prog X.w (upd H s.heap.objs.size (.tup [.int (i : Nat), x])) h'' s.heap.objs.size (.tup [.int (i : Nat), x]) :=
        ⟨by show 2 ≤ sizeLine; decide, [.int i tk, x'], .cons ⟨_, rfl⟩ (.cons ru .nil), ⟨_, hT2, rfl, _, rfl⟩⟩
      have I1 : Inv X pins σ (upd H s.heap.objs.size (.tup [.int (i : Nat), x])) { s with heap := h'', toks := tk + 1 } :=
        I.turnedNew (ch := [e, it]) (fun b ob hb q => (sb.2 b (fun z => hb (z ▸ List.mem_cons_self))).trans (hk b ob (fun z => hb (z ▸ List.mem_cons_self)) (fun z => hb (z ▸ List.mem_cons_of_mem _ List.mem_cons_self)) q)) hf (Nat.le_refl _) new
      refine ⟨.ref s.heap.objs.size, _, I1, rfl, ⟨_, x, rfl, I.hok.fresh (Nat.le_refl _), rfl, fun ys hy => by rw [I.tuple_inj hy hq]; exact hx⟩, ⟨⟨x', ?_⟩, ?_, hne⟩, fun b hb => ?_⟩
      · have e1 : ((i + 1 : Nat) : Int) = (i : Int) + 1 := by omega
        rw [e1]; exact he'
      · obtain ⟨o1, q1, q2⟩ := hst.1
        exact ⟨o1, (sb.2 it (Ne.symm hne)).trans q1, q2⟩
      · have hb' : b < s.heap.objs.size := by
          rcases List.mem_cons.mp hb with z | z
          · rw [z]; exact hel
          · rw [List.mem_singleton.mp z]; exact hil
        rw [upd_ne (Nat.ne_of_lt hb')]
        exact (hf b hb).1
  done := by
    intro X hP hw hK hc i pins s σ H E I hf ⟨⟨old, he⟩, hit, hne⟩ ⟨xs, hq, hx⟩
    subst hP; subst hw; subst hK
    obtain ⟨its, rv, p, hz⟩ := I.tuple hq
    have hT : s.heap.IsTuple a its.toArray := p
    obtain ⟨f0, f1, f2, f3, f4, f5⟩ := hf it (List.mem_cons_of_mem _ List.mem_cons_self)
    have hl := rv.length
    refine wpAny_pyNext_enum_endD (n := i) (St := fun j h => j = i ∧ h.IsTupleIter it a i ∧ h.IsTuple a its.toArray) (fp := [it, a]) (P := fun _ _ => False) ⟨fun _ _ st => ?_, fun _ _ _ st hk => ?_, fun j s1 Q E1 hj st hQ => ?_, fun s1 Q E1 st hE => ?_⟩ he ⟨rfl, hit, hT⟩ fun h' eb => ⟨rfl, I.turned (t' := s.toks) (fun b o hb q => eb b o hb q) f0 f1 f3 f4 f5⟩
    · obtain ⟨_, ⟨o1, q1, _⟩, _⟩ := st; exact ⟨o1, q1⟩
    · obtain ⟨e0, ⟨o1, q1, q2⟩, ⟨o2, q3, q4⟩⟩ := st
      exact ⟨e0, ⟨o1, hk it List.mem_cons_self _ q1, q2⟩, ⟨o2, hk a (List.mem_cons_of_mem _ List.mem_cons_self) _ q3, q4⟩⟩
    · exact absurd st.1 (Nat.ne_of_lt hj)
    · exact wpAny_nextOf_tuple_end (show X.A.in1.handled = none from I.ok.hd hc) st.2.1 st.2.2 (by simp; omega) hE
  self := fun A i s Q E st h => wpAny_pyIter_enum st.1.choose_spec h
/-! ### iterators by values -/
def iSeq (K : PySem.W.Frag) (tl : TE) : TI := fun σ H R => tl σ H fun x H1 => (∃ a, x = .ref a ∧ (∃ xs, SqL K H1 a xs) ∧ R (Itl K a) H1) ∨ ∃ a, x = .ref a ∧ (∃ xs, SqT K H1 a xs) ∧ R (Itt K a) H1
theorem pi_seq {X : Cx} {tg l : Expr} {tl : TE} (hl : PE X l tl) : PI X tg l (iSeq X.K tl) :=
  ⟨fun pins s σ H R I h => thn (hl.run pins s σ H _ I h) fun v s1 ⟨x, H1, I1, r1, q1⟩ => by
    have new : ∀ b ∈ [s1.heap.objs.size], FpOk X pins H1 b := fun b hb => by
      rw [List.mem_singleton.mp hb]
      exact I1.fpOk (Nat.le_refl _) (I1.hok.fresh (Nat.le_refl _))
    rcases q1 with ⟨a, rfl, ⟨xs, hq⟩, q⟩ | ⟨a, rfl, ⟨xs, hq⟩, q⟩
    · cases r1
      obtain ⟨its, rv, p, hz⟩ := I1.list hq
      exact wpAny_pyIter_list p.isList ⟨s1.heap.objs.size, [s1.heap.objs.size], _, _, H1, rfl, I1.kept (t' := s1.toks) fun b o e => Heap.get?_push_of_some _ e, turn_list a _, ⟨_, Heap.get?_push_size _ rfl, rfl, rfl⟩, new, q⟩
    · cases r1
      obtain ⟨its, rv, p, hz⟩ := I1.tuple hq
      exact wpAny_pyIter_tuple (show s1.heap.IsTuple a its.toArray from p) ⟨s1.heap.objs.size, [s1.heap.objs.size], _, _, H1, rfl, I1.kept (t' := s1.toks) fun b o e => Heap.get?_push_of_some _ e, turn_tuple a _, ⟨_, Heap.get?_push_size _ rfl, rfl, rfl⟩, new, q⟩⟩
def iEnumA (K : PySem.W.Frag) (ta : TA) : TI := fun σ H R => ta σ H fun vs H1 => (∃ a xs, vs = [.ref a] ∧ SqL K H1 a xs ∧ R (Ite K a) H1) ∨ ∃ a xs, vs = [.ref a] ∧ SqT K H1 a xs ∧ R (IteT K a) H1
theorem pi_enumA {X : Cx} {e : Expr} {ta : TA} {p pos tpos : Pos} {elts : List Expr} {kk : Nat} (hg : Gl X "enumerate") (hm : X.mg "enumerate" = none) (ha : PA X [e] ta) (hs : starEach [e] X.env = [(false, eval e X.env)] := by rfl) :
    PI X (.Tuple elts kk tpos) (.Call (.Name "enumerate" p) [e] [] pos) (iEnumA X.K ta) :=
  ⟨fun pins s σ H R I h => Call_ (ld_blt I hg hm boot_enumerate (PyProof.Rows.callWith_type1 (thn (ha.run pos pins s σ H _ I h) fun us s1 ⟨vs, H1, I1, r1, q1⟩ => by
    have new : ∀ b ∈ [s1.heap.objs.size + 1, s1.heap.objs.size], FpOk X pins H1 b := fun b hb => by
      have hle : s1.heap.objs.size ≤ b := by
        rcases List.mem_cons.mp hb with z | z
        · rw [z]; exact Nat.le_succ _
        · rw [List.mem_singleton.mp z]; exact Nat.le_refl _
      exact I1.fpOk hle (I1.hok.fresh hle)
    rcases q1 with ⟨a, xs, rfl, hq, q⟩ | ⟨a, xs, rfl, hq, q⟩
    · obtain ⟨u, rfl, r⟩ := Vals.one r1
      cases r
      obtain ⟨its, rv, p', hz⟩ := I1.list hq
      exact call_enumerate_list p'.isList fun h' he hit hsz hk => wpAny_pyIter_enum he
        ⟨s1.heap.objs.size + 1, [s1.heap.objs.size + 1, s1.heap.objs.size], _, _, H1, rfl, I1.kept (t' := s1.toks) hk, turn_enum a (s1.heap.objs.size + 1) s1.heap.objs.size, ⟨⟨.none, he⟩, hit, Nat.succ_ne_self _⟩, new, q⟩
    · obtain ⟨u, rfl, r⟩ := Vals.one r1
      cases r
      obtain ⟨its, rv, p', hz⟩ := I1.tuple hq
      have hT : s1.heap.IsTuple a its.toArray := p'
      have hal : a < s1.heap.objs.size := by obtain ⟨o, q, _⟩ := hT; exact Heap.lt_size q
      exact call_enumT hT fun h' he hit hk => wpAny_pyIter_enum he
        ⟨s1.heap.objs.size + 1, [s1.heap.objs.size + 1, s1.heap.objs.size], _, _, H1, rfl, I1.kept (t' := s1.toks) hk, turn_enumT a (s1.heap.objs.size + 1) s1.heap.objs.size (Nat.ne_of_lt (Nat.lt_succ_of_lt hal)) (Nat.ne_of_lt hal), ⟨⟨.none, he⟩, hit, Nat.succ_ne_self _⟩, new, q⟩) hs rfl))⟩
/-! ### iterators of plain data -/
def diSeq (te : DE0) : DI0 := fun σ M Q => te σ M fun x M1 => match x with
  | .tup l => Q l (fun _ => True) M1
  | .fro l => Q l (fun _ => True) M1
  | .ref a => match M1 a with
    | some (.lst l) => Q l (fun M' => M' a = some (.lst l)) M1
    | _ => False
  | _ => False
theorem dw_tup {K : PySem.W.Frag} {a : Addr} {vs : List V} {l : List D} {H0 : Hp} (hs : SqT K H0 a vs) (r : Rs K H0 l vs) : DWalk K (Itt K a) l (fun _ => True) H0 where
  go := fun i M H hi e m _ => by
    obtain ⟨v, hv, _⟩ := r.get (List.getElem?_eq_getElem hi)
    exact ⟨vs, v, e.tup _ _ hs, hv⟩
  stop := fun M H e m _ => ⟨vs, e.tup _ _ hs, by rw [r.length]; exact Nat.le_refl _⟩
  yld := fun i d M H x H' hd e m _ ⟨e1, h⟩ => by
    subst e1
    obtain ⟨v, hv, rv⟩ := r.get hd
    have := h vs (e.tup _ _ hs)
    rw [hv] at this
    cases this
    exact ⟨Ext.refl, m, R.mono e _ _ rv⟩
theorem dw_fro {K : PySem.W.Frag} {a : Addr} {vs : List V} {l : List D} {H0 : Hp} (hs : FroL K H0 a vs) (r : Rs K H0 l vs) : DWalk K (Itl K a) l (fun _ => True) H0 where
  go := fun i M H hi e m _ => by
    obtain ⟨v, hv, _⟩ := r.get (List.getElem?_eq_getElem hi)
    exact ⟨vs, v, (e.fro hs).sq, hv⟩
  stop := fun M H e m _ => ⟨vs, (e.fro hs).sq, by rw [r.length]; exact Nat.le_refl _⟩
  yld := fun i d M H x H' hd e m _ ⟨e1, h⟩ => by
    subst e1
    obtain ⟨v, hv, rv⟩ := r.get hd
    have := h vs (e.fro hs).sq
    rw [hv] at this
    cases this
    exact ⟨Ext.refl, m, R.mono e _ _ rv⟩
theorem dw_lst {K : PySem.W.Frag} {a : Addr} {l : List D} {H0 : Hp} : DWalk K (Itl K a) l (fun M' => M' a = some (.lst l)) H0 where
  go := fun i M H hi e m g => by
    obtain ⟨vs, h1, r⟩ := m.at_ _ _ g
    obtain ⟨v, hv, _⟩ := r.get (List.getElem?_eq_getElem hi)
    exact ⟨vs, v, SqL.of h1, hv⟩
  stop := fun M H e m g => by
    obtain ⟨vs, h1, r⟩ := m.at_ _ _ g
    exact ⟨vs, SqL.of h1, by rw [r.length]; exact Nat.le_refl _⟩
  yld := fun i d M H x H' hd e m g ⟨e1, h⟩ => by
    subst e1
    obtain ⟨vs, h1, r⟩ := m.at_ _ _ g
    obtain ⟨v, hv, rv⟩ := r.get hd
    have := h vs (SqL.of h1)
    rw [hv] at this
    cases this
    exact ⟨Ext.refl, m, rv⟩
section
variable {X : Cx} {tg e : Expr} {te : DE0} {p pos : Pos}
theorem di_seq (he : DE X e te) : DI X tg e (diSeq te) (iSeq X.K (semE X e)) := ⟨pi_seq pe_sem, fun σv H σ M Q P S z k => he.then S z fun v H1 d M1 e1 S1 r1 q1 => by
  cases d with
  | tup l =>
    obtain ⟨a, vs, rfl, hs, r⟩ := r1
    exact .inr ⟨a, rfl, ⟨vs, hs⟩, k _ H1 l _ M1 e1 S1 (dw_tup hs r) q1⟩
  | fro l =>
    obtain ⟨a, vs, rfl, hs, r⟩ := r1
    exact .inl ⟨a, rfl, ⟨vs, hs.sq⟩, k _ H1 l _ M1 e1 S1 (dw_fro hs r) q1⟩
  | ref a =>
    cases r1
    dsimp only at q1
    split at q1
    · rename_i l hM
      obtain ⟨vs, h1, r⟩ := S1.mem.at_ _ _ hM
      exact .inl ⟨_, rfl, ⟨vs, SqL.of h1⟩, k _ H1 l _ M1 e1 S1 dw_lst q1⟩
    · exact q1.elim
  | _ => exact q1.elim⟩
/-- range(n); range(a, b) -/
def rngD (lo : Int) (n : Nat) : List D := (List.range n).map fun i => .int (lo + (i : Nat))
theorem dw_rng {K : PySem.W.Frag} {lo : Int} {n : Nat} {H0 : Hp} : DWalk K (Itr lo n) (rngD lo n) (fun _ => True) H0 where
  go := fun i M H hi e m _ => by
    have : i < n := by simpa [rngD] using hi
    exact this
  stop := fun M H e m _ => by
    have : n ≤ (rngD lo n).length := by simp [rngD]
    exact this
  yld := fun i d M H x H' hd e m _ ⟨e1, e2⟩ => by
    subst e1 e2
    have hi : i < n := by
      have := (List.getElem?_eq_some_iff.mp hd).1
      simpa [rngD] using this
    have : d = .int (lo + (i : Nat)) := by
      have h := hd
      unfold rngD at h
      rw [List.getElem?_map, List.getElem?_range hi] at h
      exact (Option.some.inj h).symm
    subst this
    exact ⟨Ext.refl, m, rfl⟩
def diRng (ta : DA0) : DI0 := fun σ M Q => ta σ M fun ds M1 => match ds with
  | [.int n] => -(2 ^ 62) ≤ n ∧ n < 2 ^ 62 ∧ Q (rngD 0 n.toNat) (fun _ => True) M1
  | [.int a, .int b] => (-(2 ^ 62) ≤ a ∧ a < 2 ^ 62 ∧ -(2 ^ 62) ≤ b ∧ b < 2 ^ 62) ∧ Q (rngD a (b - a).toNat) (fun _ => True) M1
  | _ => False
def diRng1 (ta : DA0) : DI0 := fun σ M Q => ta σ M fun ds M1 => match ds with
  | [.int n] => -(2 ^ 62) ≤ n ∧ n < 2 ^ 62 ∧ Q (rngD 0 n.toNat) (fun _ => True) M1
  | _ => False
def diRng2 (ta : DA0) : DI0 := fun σ M Q => ta σ M fun ds M1 => match ds with
  | [.int a, .int b] => (-(2 ^ 62) ≤ a ∧ a < 2 ^ 62 ∧ -(2 ^ 62) ≤ b ∧ b < 2 ^ 62) ∧ Q (rngD a (b - a).toNat) (fun _ => True) M1
  | _ => False
variable {ta : DA0} {f : Expr}
theorem di_rng1 (hg : Gl X "range") (hm : X.mg "range" = none) (ha : DA X [e] ta) (hs : starEach [e] X.env = [(false, eval e X.env)] := by rfl) :
    DI X tg (.Call (.Name "range" p) [e] [] pos) (diRng1 ta) (iRng1 (semA X [e])) := ⟨pi_range1 hg hm pa_sem hs, fun σv H σ M Q P S z k => ha.then S z fun vs H1 ds M1 e1 S1 r1 q1 => by
    split at q1
    · obtain ⟨v, _, rfl, rv, rfl⟩ := r1
      cases rv
      exact ⟨_, rfl, q1.1, q1.2.1, k _ H1 _ _ M1 e1 S1 dw_rng q1.2.2⟩
    · exact q1.elim⟩
theorem di_rng2 (hg : Gl X "range") (hm : X.mg "range" = none) (ha : DA X [e, f] ta) (hs : starEach [e, f] X.env = [(false, eval e X.env), (false, eval f X.env)] := by rfl) (hs2 : starEach [f] X.env = [(false, eval f X.env)] := by rfl) :
    DI X tg (.Call (.Name "range" p) [e, f] [] pos) (diRng2 ta) (iRng2 (semA X [e, f])) := ⟨pi_range2 hg hm pa_sem hs hs2, fun σv H σ M Q P S z k => ha.then S z fun vs H1 ds M1 e1 S1 r1 q1 => by
    split at q1
    · obtain ⟨v, _, rfl, rv, w, _, rfl, rw', rfl⟩ := r1
      cases rv; cases rw'
      exact ⟨_, _, rfl, q1.1, k _ H1 _ _ M1 e1 S1 dw_rng q1.2⟩
    · exact q1.elim⟩
/-- enumerate(x) -/
def enumD (l : List D) : List D := (List.range l.length).zip l |>.map fun p => .tup [.int (p.1 : Nat), p.2]
theorem enumD_get {l : List D} {i : Nat} {d : D} (h : (enumD l)[i]? = some d) : ∃ x, l[i]? = some x ∧ d = .tup [.int (i : Nat), x] := by
  unfold enumD at h
  rw [List.getElem?_map] at h
  cases e : ((List.range l.length).zip l)[i]? with
  | none => rw [e] at h; cases h
  | some p =>
    rw [e] at h
    obtain ⟨h1, h2⟩ := List.getElem?_zip_eq_some.mp e
    have hi : i < l.length := (List.getElem?_eq_some_iff.mp h2).1
    rw [List.getElem?_range hi] at h1
    refine ⟨p.2, h2, ?_⟩
    have e1 : p.1 = i := (Option.some.inj h1).symm
    rw [← (Option.some.inj h)]
    show D.tup [D.int ((p.1 : Nat) : Int), p.2] = _
    rw [e1]
theorem enumD_length (l : List D) : (enumD l).length = l.length := by simp [enumD]
def diEnum (ta : DA0) : DI0 := fun σ M Q => ta σ M fun ds M1 => match ds with
  | [.tup l] => Q (enumD l) (fun _ => True) M1
  | [.fro l] => Q (enumD l) (fun _ => True) M1
  | [.ref a] => match M1 a with
    | some (.lst l) => Q (enumD l) (fun M' => M' a = some (.lst l)) M1
    | _ => False
  | _ => False
theorem pair_R {K : PySem.W.Frag} {H : Hp} {T : Addr} {n : Nat} {d : D} {x : V} (hT : H T = none) (r : R K H d x) : R K (upd H T (.tup [.int (n : Nat), x])) (.tup [.int (n : Nat), d]) (.ref T) := by
  have e := Ext.new (K := K) (o := .tup [.int (n : Nat), x]) hT
  exact ⟨T, _, rfl, .inl (.inl upd_same), _, _, rfl, rfl, _, _, rfl, R.mono e _ _ r, rfl⟩
theorem di_enum {elts : List Expr} {kk : Nat} {tpos : Pos} (hg : Gl X "enumerate") (hm : X.mg "enumerate" = none) (ha : DA X [e] ta) (hs : starEach [e] X.env = [(false, eval e X.env)] := by rfl) :
    DI X (.Tuple elts kk tpos) (.Call (.Name "enumerate" p) [e] [] pos) (diEnum ta) (iEnumA X.K (semA X [e])) := ⟨pi_enumA hg hm pa_sem hs, fun σv H σ M Q P S z k => ha.then S z fun vs H1 ds M1 e1 S1 r1 q1 => by
    split at q1
    · rename_i l
      obtain ⟨v, _, rfl, ⟨a, ws, rfl, hsq, r⟩, rfl⟩ := r1
      refine .inr ⟨a, ws, rfl, hsq, k _ H1 _ _ M1 e1 S1 ⟨fun i M' H' hi e m _ => ?_, fun M' H' e m _ => ?_, fun i d M' H' x H'' hd e m _ y => ?_⟩ q1⟩
      · rw [enumD_length] at hi
        obtain ⟨w, hw, _⟩ := r.get (List.getElem?_eq_getElem hi)
        exact ⟨ws, w, e.tup _ _ hsq, hw⟩
      · exact ⟨ws, e.tup _ _ hsq, by rw [r.length, enumD_length]; exact Nat.le_refl _⟩
      · obtain ⟨T, w, rfl, hT, rfl, hy⟩ := y
        obtain ⟨x, hx, rfl⟩ := enumD_get hd
        obtain ⟨w', hw, rw'⟩ := r.get hx
        have := hy ws (e.tup _ _ hsq)
        rw [hw] at this; cases this
        exact ⟨Ext.new hT, m.new hT, pair_R hT (R.mono e _ _ rw')⟩
    · rename_i l
      obtain ⟨v, _, rfl, ⟨a, ws, rfl, hsq, r⟩, rfl⟩ := r1
      refine .inl ⟨a, ws, rfl, hsq.sq, k _ H1 _ _ M1 e1 S1 ⟨fun i M' H' hi e m _ => ?_, fun M' H' e m _ => ?_, fun i d M' H' x H'' hd e m _ y => ?_⟩ q1⟩
      · rw [enumD_length] at hi
        obtain ⟨w, hw, _⟩ := r.get (List.getElem?_eq_getElem hi)
        exact ⟨ws, w, (e.fro hsq).sq, hw⟩
      · exact ⟨ws, (e.fro hsq).sq, by rw [r.length, enumD_length]; exact Nat.le_refl _⟩
      · obtain ⟨T, w, rfl, hT, rfl, hy⟩ := y
        obtain ⟨x, hx, rfl⟩ := enumD_get hd
        obtain ⟨w', hw, rw'⟩ := r.get hx
        have := hy ws (e.fro hsq).sq
        rw [hw] at this; cases this
        exact ⟨Ext.new hT, m.new hT, pair_R hT (R.mono e _ _ rw')⟩
    · obtain ⟨v, _, rfl, rv, rfl⟩ := r1
      cases rv
      split at q1
      · rename_i l hM
        obtain ⟨ws, h1, r⟩ := S1.mem.at_ _ _ hM
        refine .inl ⟨_, ws, rfl, SqL.of h1, k _ H1 _ _ M1 e1 S1 ⟨fun i M' H' hi e m g => ?_, fun M' H' e m g => ?_, fun i d M' H' x H'' hd e m g y => ?_⟩ q1⟩
        · obtain ⟨ws, h1, r⟩ := m.at_ _ _ g
          rw [enumD_length] at hi
          obtain ⟨w, hw, _⟩ := r.get (List.getElem?_eq_getElem hi)
          exact ⟨ws, w, SqL.of h1, hw⟩
        · obtain ⟨ws, h1, r⟩ := m.at_ _ _ g
          exact ⟨ws, SqL.of h1, by rw [r.length, enumD_length]; exact Nat.le_refl _⟩
        · obtain ⟨ws, h1, r⟩ := m.at_ _ _ g
          obtain ⟨T, w, rfl, hT, rfl, hy⟩ := y
          obtain ⟨x, hx, rfl⟩ := enumD_get hd
          obtain ⟨w', hw, rw'⟩ := r.get hx
          have := hy ws (SqL.of h1)
          rw [hw] at this; cases this
          exact ⟨Ext.new hT, m.new hT, pair_R hT rw'⟩
      · exact q1.elim
    · exact q1.elim⟩
end
/-! ### for -/
def dFor (ti : DI0) (g : DG0) (tb : DS0) : DS0 := fun E σ M => ti σ M fun items G M1 => ∃ I : Nat → Sg → Mp → Prop, I 0 σ M1 ∧ (∀ i σ M, I i σ M → G M) ∧
  (∀ (i : Nat) x σ M, items[i]? = some x → I i σ M → g x σ M fun σ2 M2 => tb { E with nx := I (i + 1), ct := I (i + 1), bk := E.nx } σ2 M2) ∧ ∀ σ M, I items.length σ M → E.nx σ M
section
variable {X : Cx} {iter tg : Expr} {body : List Stmt} {ti : DI0} {wi : TI} {g : DG0} {g0 : TG} {tb : DS0} {pos : Pos}
theorem ds_for (hp : PassesOwn (model X.prog X.w) X.A X.env X.xe) (hc : X.calm = true) (hi : DI X tg iter ti wi) (hg : DG X tg g g0) (hb : DSs X body tb) (hs : ∀ x, foldedSetIterable iter X.env x = pure x := by intro _; rfl) :
    DS X (.For tg iter body [] pos) (dFor ti g tb) :=
  ds_of (ps_for hp hc hi.pi hg.pg pss_sem hs) fun σv H σ M E S z => hi.run σv H σ M _ _ S z fun J H1 items G M1 e1 S1 W q => by
    obtain ⟨I, h0, hG, step, fin⟩ := q
    refine ⟨fun i m σv' H' => m = items.length - i ∧ i ≤ items.length ∧ ∃ σ' M', Ext X.K H1 H' ∧ Sim X.K σ' M' σv' H' ∧ I i σ' M', ⟨items.length, by simp, Nat.zero_le _, σ, M1, Ext.refl, S1, h0⟩, ?_⟩
    rintro i m σv' H' ⟨rfl, hi', σ', M', e', S', hI⟩
    by_cases hlt : i < items.length
    · refine .inr ⟨W.go i M' H' hlt e' S'.mem (hG i σ' M' hI), fun σv2 H2 => ∃ σ2 M2, Ext X.K H1 H2 ∧ Sim X.K σ2 M2 σv2 H2 ∧ I (i + 1) σ2 M2, fun σ2 H2 a => ⟨items.length - (i + 1), by omega, rfl, hlt, a⟩, fun x H2 y => ?_⟩
      have hd := List.getElem?_eq_getElem hlt
      obtain ⟨e2, m2, r2⟩ := W.yld i _ M' H' x H2 hd e' S'.mem (hG i σ' M' hI) y
      refine hg.run σv' H2 σ' M' _ x _ _ (S'.to e2 m2) r2 (step i _ σ' M' hd hI) fun σv3 H3 σ3 M3 e3 S3 q3 => ?_
      have hb' := hb.run σv3 H3 σ3 M3 _ S3 q3
      have ee := ((e1.trans e').trans e2).trans e3
      have ec := (e'.trans e2).trans e3
      exact fun pins s Iv => thn (hb' pins s Iv) fun f s3 q3 => SP.mono (D := LE X.K H3 _) (fun _ _ ⟨a1, a2, a3, a4, a5⟩ => ⟨a1, a2, ec.trans a3, a4, a5⟩) (fun _ _ z => LR.pre ee z) (fun _ _ z => LN.pre ee z)
        (fun _ _ ⟨a1, a2, a3, a4, a5⟩ => ⟨a1, a2, ec.trans a3, a4, a5⟩) q3
    · have e : i = items.length := by omega
      subst e
      exact .inl ⟨W.stop M' H' e' S'.mem (hG _ σ' M' hI), σ', M', e1.trans e', S', fin σ' M' hI⟩
end
/-! ### list comprehensions -/
def wipeD (σ : Sg) : List Nat → Sg
  | [] => σ
  | v :: vs => (wipeD σ vs).set v none
theorem Sim.wipe {K : PySem.W.Frag} {σ : Sg} {M : Mp} {σv : St} {H : Hp} (s : Sim K σ M σv H) : ∀ vs : List Nat, Sim K (wipeD σ vs) M (L2.wipe σv vs) H
  | [] => s
  | v :: vs => by
    have ih := Sim.wipe s vs
    refine ⟨by simp [wipeD, L2.wipe, ih.len], fun i d h => ?_, s.mem⟩
    unfold wipeD at h
    unfold L2.wipe
    by_cases z : v = i
    · subst z
      by_cases hv : v < (wipeD σ vs).length
      · rw [List.getElem?_set_self hv] at h; cases h
      · rw [List.getElem?_eq_none (by simpa using hv)] at h; cases h
    · rw [List.getElem?_set_ne z] at h ⊢
      exact ih.slot i d h
structure DTs (X : Cx) (ifs : List Expr) (t : DT0) (t0 : TT) : Prop where
  pts : PTs X ifs t0
  run : ∀ σv H σ M (Q : Bool → Mp → Prop) (P : Bool → Hp → Prop), Sim X.K σ M σv H → t σ M Q → (∀ b H' M', Ext X.K H H' → Sim X.K σ M' σv H' → Q b M' → P b H') → t0 σv H P
def dYes : DT0 := fun _ M Q => Q true M
theorem dts_nil {X : Cx} : DTs X [] dYes tYes := ⟨pts_nil, fun σv H σ M Q P S z k => k _ _ M Ext.refl S z⟩
theorem dts_one {X : Cx} {c : Expr} {t : DT0} (h : DT X c t) : DTs X [c] t (semT X c) := ⟨pts_one pt_sem, fun σv H σ M Q P S z k => h.then S z fun b H1 M1 e1 S1 q1 => k b H1 M1 e1 S1 q1⟩
/-- the new list stands at p while it grows -/
def dLc (ti : DI0) (g : DG0) (tt : DT0) (te : DE0) (vs : List Nat) : DE0 := fun σ M Q => ti σ M fun items G M1 => ∀ p, M1 p = none → ∃ I : Nat → Mp → Prop, I 0 (put M1 p (.lst [])) ∧ (∀ i M, I i M → G M) ∧
  (∀ (i : Nat) x M, items[i]? = some x → I i M → g x (wipeD σ vs) M fun σ2 M2 => tt σ2 M2 fun b M3 =>
    if b = true then te σ2 M3 fun y M4 => ∃ acc, M4 p = some (.lst acc) ∧ acc.length < sizeLine ∧ I (i + 1) (put M4 p (.lst (acc ++ [y]))) else I (i + 1) M3) ∧ ∀ M, I items.length M → Q (.ref p) M
/-- a target that stores to the slots vs alone -/
def Only (vs : List Nat) (t : TG) : Prop := ∀ v σ H P P', t v σ H P → (∀ σ' H', P σ' H' → L2.wipe σ' vs = L2.wipe σ vs → P' σ' H') → t v σ H P'
def Onlys (vs : List Nat) (t : TGs) : Prop := ∀ v σ H P P', t v σ H P → (∀ σ' H', P σ' H' → L2.wipe σ' vs = L2.wipe σ vs → P' σ' H') → t v σ H P'
theorem wipe_set {σ : St} {i : Nat} {x : Option V} : ∀ {vs : List Nat}, i ∈ vs → L2.wipe (σ.set i x) vs = L2.wipe σ vs
  | v :: vs, h => by
    show (L2.wipe (σ.set i x) vs).set v none = (L2.wipe σ vs).set v none
    by_cases hi : i ∈ vs
    · rw [wipe_set hi]
    · rcases List.mem_cons.mp h with e | h
      · subst e
        have out : ∀ (vs : List Nat), i ∉ vs → L2.wipe (σ.set i x) vs = (L2.wipe σ vs).set i x := fun vs => by
          induction vs with
          | nil => intro _; rfl
          | cons w ws ih =>
            intro hn
            have h1 : i ≠ w := fun e => hn (e ▸ List.mem_cons_self)
            show (L2.wipe (σ.set i x) ws).set w none = ((L2.wipe σ ws).set w none).set i x
            rw [ih fun m => hn (List.mem_cons_of_mem _ m), List.set_comm _ _ h1]
        rw [out vs hi, List.set_set]
      · exact absurd h hi
theorem wipe_idem (σ : St) : ∀ {vs : List Nat}, L2.wipe (L2.wipe σ vs) vs = L2.wipe σ vs := fun {vs} => by
  have out : ∀ (ws : List Nat) (σ : St), (∀ v ∈ ws, v ∈ vs) → L2.wipe (L2.wipe σ ws) vs = L2.wipe σ vs := fun ws => by
    induction ws with
    | nil => intro σ _; rfl
    | cons w ws ih =>
      intro σ h
      show L2.wipe ((L2.wipe σ ws).set w none) vs = _
      rw [wipe_set (h w List.mem_cons_self), ih σ fun v hv => h v (List.mem_cons_of_mem _ hv)]
  exact out vs σ fun _ h => h
theorem only_name {vs : List Nat} {i : Nat} (h : i ∈ vs) : Only vs (gName i) := fun v σ H P P' q k => k _ _ q (wipe_set h)
theorem onlys_nil {vs : List Nat} : Onlys vs gNil := fun v σ H P P' q k => ⟨q.1, k _ _ q.2 rfl⟩
theorem onlys_cons {vs : List Nat} {t : TG} {u : TGs} (h : Only vs t) (h2 : Onlys vs u) : Onlys vs (gCons t u) := fun v σ H P P' ⟨x, r, e, q⟩ k =>
  ⟨x, r, e, h _ _ _ _ _ q fun σ' H' q' w => h2 _ _ _ _ _ q' fun σ2 H2 q2 w2 => k σ2 H2 q2 (w2.trans w)⟩
theorem only_tup {vs : List Nat} {K : PySem.W.Frag} {n : Nat} {u : TGs} (h : Onlys vs u) : Only vs (gTup K n u) := fun v σ H P P' ⟨a, xs, e, hq, hl, q⟩ k => ⟨a, xs, e, hq, hl, h _ _ _ _ _ q k⟩
def DGr (K : PySem.W.Frag) (t : DG0) (t0 : TG) : Prop := ∀ σv H σ M d v (N : Sg → Mp → Prop) (P : St → Hp → Prop), Sim K σ M σv H → R K H d v → t d σ M N → (∀ σv' H' σ' M', Ext K H H' → Sim K σ' M' σv' H' → N σ' M' → P σv' H') → t0 v σv H P
def DGrs (K : PySem.W.Frag) (t : DGs0) (t0 : TGs) : Prop := ∀ σv H σ M d v (N : Sg → Mp → Prop) (P : St → Hp → Prop), Sim K σ M σv H → Rs K H d v → t d σ M N → (∀ σv' H' σ' M', Ext K H H' → Sim K σ' M' σv' H' → N σ' M' → P σv' H') → t0 v σv H P
section
variable {K : PySem.W.Frag} {g : DG0} {gs : DGs0} {g0 : TG} {gs0 : TGs}
theorem dgr_name {i : Nat} : DGr K (dgName i) (gName i) := fun σv H σ M d v N P S r z k => k _ _ _ _ Ext.refl (S.set i r) z
theorem dgrs_nil : DGrs K dgNil gNil := fun σv H σ M ds vs N P S r z k => by obtain ⟨rfl, z⟩ := z; cases r; exact ⟨rfl, k _ _ _ _ Ext.refl S z⟩
theorem dgrs_cons (h1 : DGr K g g0) (h2 : DGrs K gs gs0) : DGrs K (dgCons g gs) (gCons g0 gs0) := fun σv H σ M ds vs N P S r z k => by
  cases ds with
  | nil => exact z.elim
  | cons d ds =>
    obtain ⟨v, r', rfl, ra, rb⟩ := r
    exact ⟨v, r', rfl, h1 σv H σ M d v _ _ S ra z fun σv1 H1 σ1 M1 e1 S1 z1 => h2 σv1 H1 σ1 M1 ds r' _ _ S1 (Rs.mono e1 _ _ rb) z1 fun σv2 H2 σ2 M2 e2 S2 z2 => k _ _ _ _ (e1.trans e2) S2 z2⟩
theorem dgr_tup {n : Nat} (h : DGrs K gs gs0) : DGr K (dgTup n gs) (gTup K n gs0) := fun σv H σ M d v N P S r z k => by
  cases d with
  | tup ds =>
    obtain ⟨a, vs, rfl, hs, rs⟩ := r
    exact ⟨a, vs, rfl, hs, by rw [rs.length]; exact z.1, h σv H σ M ds vs N P S rs z.2 k⟩
  | _ => exact z.elim
end
abbrev Blk (X : Cx) (scope : Scope) (s : Shared) (H : Hp) (C : Addr) (cl : List (Str × Addr)) (fp : List Addr) : Cx := X.blk s H scope (compEnvC scope cl C X.env) fp
def semB (X : Cx) (scope : Scope) (e : Expr) : TE := fun σ H Q => ∀ s H0 C cl fp, semE (Blk X scope s H0 C cl fp) e σ H Q
def semBT (X : Cx) (scope : Scope) (e : Expr) : TT := fun σ H Q => ∀ s H0 C cl fp, semT (Blk X scope s H0 C cl fp) e σ H Q
section
variable {X : Cx} {elt tg iter c : Expr} {ifs : List Expr} {scope : Scope} {own : List (Str × Nat)} {ti : DI0} {wi : TI} {g : DG0} {g0 : TG} {tt : DT0} {tt0 : TT} {te : DE0} {pos pos' spos py : Pos}
theorem lc_tr (hi : DI X tg iter ti wi) (hr : DGr X.K g g0) (ho : Only (own.map (·.2)) g0)
    (ht : ∀ σv H σ M (Q : Bool → Mp → Prop) (P : Bool → Hp → Prop), Sim X.K σ M σv H → tt σ M Q → (∀ b H' M', Ext X.K H H' → Sim X.K σ M' σv H' → Q b M' → P b H') → tt0 σv H P)
    (he : ∀ s H C cl fp, DE (Blk X scope s H C cl fp) elt te) {σv : St} {H : Hp} {σ : Sg} {M : Mp} {Q : D → Mp → Prop} {P : VK} (S : Sim X.K σ M σv H) (z : dLc ti g tt te (own.map (·.2)) σ M Q) (kk : ∀ v H', L X.K H σ σv Q v H' → P v H') :
    tLc wi g0 tt0 (semB X scope elt) (own.map (·.2)) σv H P :=
  hi.run σv H σ M _ _ S z fun J H1 items G M1 e1 S1 W q Dn hDn => by
    obtain ⟨I, h0, hG, step, fin⟩ := q Dn (S1.mem.free hDn)
    have e2 := Ext.new (K := X.K) (o := .lst []) hDn
    refine ⟨fun i m H' => m = items.length - i ∧ i ≤ items.length ∧ ∃ M', Ext X.K H1 H' ∧ Mem X.K M' H' ∧ I i M', ⟨items.length, by simp, Nat.zero_le _, put M1 Dn (.lst []), e2, S1.mem.newM (mo := .lst []) hDn ⟨[], upd_same, rfl⟩, h0⟩, ?_⟩
    rintro i m H' ⟨rfl, hi', M', e', m', hI⟩
    by_cases hlt : i < items.length
    · refine .inr ⟨W.go i M' H' hlt e' m' (hG i M' hI), fun H2 => ∃ M2, Ext X.K H1 H2 ∧ Mem X.K M2 H2 ∧ I (i + 1) M2, fun H2 a => ⟨items.length - (i + 1), by omega, rfl, hlt, a⟩, fun x H2 y => ?_⟩
      have hd := List.getElem?_eq_getElem hlt
      obtain ⟨e3, m3, r3⟩ := W.yld i _ M' H' x H2 hd e' m' (hG i M' hI) y
      have S2 : Sim X.K (wipeD σ (own.map (·.2))) M' (L2.wipe σv (own.map (·.2))) H2 := (S1.to (e'.trans e3) m3).wipe _
      refine ho _ _ _ (fun σv3 H3 => ∃ σ3 M3, Ext X.K H2 H3 ∧ Sim X.K σ3 M3 σv3 H3 ∧ _) _ (hr _ H2 _ M' _ x _ _ S2 r3 (step i _ M' hd hI) fun σv3 H3 σ3 M3 e4 S3 q3 => ⟨σ3, M3, e4, S3, q3⟩) fun σv3 H3 ⟨σ3, M3, e4, S3, q3⟩ hw => ⟨?_, ht σv3 H3 σ3 M3 _ _ S3 q3 fun b H4 M4 e5 S4 q4 => ?_⟩
      · exact hw.trans (wipe_idem _)
      · cases b with
        | true =>
          rw [if_pos rfl]
          intro s H0 C cl fp
          refine (he s H0 C cl fp).then S4 q4 fun v H5 d M5 e6 S5 r5 q5 => ?_
          obtain ⟨acc, ha, hl, hI'⟩ := q5
          obtain ⟨vs, h1, rv⟩ := S5.mem.at_ _ _ ha
          have e7 := Ext.wr (K := X.K) (o' := .lst (vs ++ [v])) h1 wr_lst
          exact ⟨vs, h1, by rw [rv.length]; exact hl, _, ((((e'.trans e3).trans e4).trans e5).trans e6).trans e7, S5.mem.write (mo := .lst _) h1 wr_lst ⟨_, upd_same, (Rs.mono e7 _ _ rv).append (.one (R.mono e7 _ _ r5))⟩, hI'⟩
        | false =>
          rw [if_neg Bool.false_ne_true]
          exact ⟨M4, ((e'.trans e3).trans e4).trans e5, S4.mem, q4⟩
    · have e : i = items.length := by omega
      subst e
      exact .inl ⟨W.stop M' H' e' m' (hG _ M' hI), kk _ _ (L.mk' (e1.trans e') (S1.to e' m') (fin M' hI) rfl)⟩
/-- a comprehension, as a value; with one test -/
theorem de_lc (hc : X.calm = true) (hN : X.N.Nodup) (hi : DI X tg iter ti wi) (ok : BlkOk X.N X.env.scope scope own) (hg : ∀ s H C cl fp, PG (Blk X scope s H C cl fp) tg g0) (hr : DGr X.K g g0) (ho : Only (own.map (·.2)) g0)
    (he : ∀ s H C cl fp, DE (Blk X scope s H C cl fp) elt te) (hs : ∀ x, foldedSetIterable iter X.env x = pure x := by intro _; rfl) : DE X (.ListComp elt [⟨tg, iter, [], 0⟩] scope pos) (dLc ti g dYes te (own.map (·.2))) :=
  de_of (pe_lc (te := semB X scope elt) (tt := tYes) hc hN hi.pi ok hg (fun _ _ _ _ _ => pts_nil) (fun s H C cl fp => ⟨fun pins s' σ H' Q I h => h s H C cl fp pins s' I⟩) hs) fun σv H σ M Q S z =>
    lc_tr hi hr ho (fun σv H σ M Q P S z k => k _ _ M Ext.refl S z) he S z fun _ _ h => h
theorem de_lcIf (hc : X.calm = true) (hN : X.N.Nodup) (hi : DI X tg iter ti wi) (ok : BlkOk X.N X.env.scope scope own) (hg : ∀ s H C cl fp, PG (Blk X scope s H C cl fp) tg g0) (hr : DGr X.K g g0) (ho : Only (own.map (·.2)) g0)
    (ht : ∀ s H C cl fp, DT (Blk X scope s H C cl fp) c tt) (he : ∀ s H C cl fp, DE (Blk X scope s H C cl fp) elt te) (hs : ∀ x, foldedSetIterable iter X.env x = pure x := by intro _; rfl) : DE X (.ListComp elt [⟨tg, iter, [c], 0⟩] scope pos) (dLc ti g tt te (own.map (·.2))) :=
  de_of (pe_lc (te := semB X scope elt) (tt := semBT X scope c) hc hN hi.pi ok hg (fun s H C cl fp => pts_one ⟨fun pins s' σ H' Q I h => h s H C cl fp pins s' I⟩) (fun s H C cl fp => ⟨fun pins s' σ H' Q I h => h s H C cl fp pins s' I⟩) hs) fun σv H σ M Q S z =>
    lc_tr hi hr ho (fun σv H σ M Q P S z k s H0 C cl fp => (ht s H0 C cl fp).then S z fun b H1 M1 e1 S1 q1 => k b H1 M1 e1 S1 q1) he S z fun _ _ h => h
/-- name = [..], the name a local, on one line -/
theorem ds_setLc {i : Nat} {y : Str} (hc : X.calm = true) (hN : X.N.Nodup) (hy : X.N[i]? = some y) (hyl : X.env.scope.names.lookup y = some .local)
    (hsw : swapsWith (.ListComp elt [⟨tg, iter, [], 0⟩] scope pos) (some (.Name y py)) spos.line X.env = pure true) (hi : DI X tg iter ti wi) (ok : BlkOk X.N X.env.scope scope own) (hg : ∀ s H C cl fp, PG (Blk X scope s H C cl fp) tg g0) (hr : DGr X.K g g0) (ho : Only (own.map (·.2)) g0)
    (he : ∀ s H C cl fp, DE (Blk X scope s H C cl fp) elt te) (hs : ∀ x, foldedSetIterable iter X.env x = pure x := by intro _; rfl) : DS X (.Assign [.Name y py] (.ListComp elt [⟨tg, iter, [], 0⟩] scope pos) spos) (dAsg (dLc ti g dYes te (own.map (·.2))) (dgName i)) :=
  ds_of (ps_setLc (te := semB X scope elt) (tt := tYes) hc hN hy hyl hsw hi.pi ok hg (fun _ _ _ _ _ => pts_nil) (fun s H C cl fp => ⟨fun pins s' σ H' Q I h => h s H C cl fp pins s' I⟩) hs) fun σv H σ M E S z =>
    lc_tr hi hr ho (fun σv H σ M Q P S z k => k _ _ M Ext.refl S z) he S z fun v H' ⟨d, M', e', S', r', q'⟩ => ⟨_, M', e', S'.set i r', q'⟩
theorem ds_setLcIf {i : Nat} {y : Str} (hc : X.calm = true) (hN : X.N.Nodup) (hy : X.N[i]? = some y) (hyl : X.env.scope.names.lookup y = some .local)
    (hsw : swapsWith (.ListComp elt [⟨tg, iter, [c], 0⟩] scope pos) (some (.Name y py)) spos.line X.env = pure true) (hi : DI X tg iter ti wi) (ok : BlkOk X.N X.env.scope scope own) (hg : ∀ s H C cl fp, PG (Blk X scope s H C cl fp) tg g0) (hr : DGr X.K g g0) (ho : Only (own.map (·.2)) g0)
    (ht : ∀ s H C cl fp, DT (Blk X scope s H C cl fp) c tt) (he : ∀ s H C cl fp, DE (Blk X scope s H C cl fp) elt te) (hs : ∀ x, foldedSetIterable iter X.env x = pure x := by intro _; rfl) : DS X (.Assign [.Name y py] (.ListComp elt [⟨tg, iter, [c], 0⟩] scope pos) spos) (dAsg (dLc ti g tt te (own.map (·.2))) (dgName i)) :=
  ds_of (ps_setLc (te := semB X scope elt) (tt := semBT X scope c) hc hN hy hyl hsw hi.pi ok hg (fun s H C cl fp => pts_one ⟨fun pins s' σ H' Q I h => h s H C cl fp pins s' I⟩) (fun s H C cl fp => ⟨fun pins s' σ H' Q I h => h s H C cl fp pins s' I⟩) hs) fun σv H σ M E S z =>
    lc_tr hi hr ho (fun σv H σ M Q P S z k s H0 C cl fp => (ht s H0 C cl fp).then S z fun b H1 M1 e1 S1 q1 => k b H1 M1 e1 S1 q1) he S z fun v H' ⟨d, M', e', S', r', q'⟩ => ⟨_, M', e', S'.set i r', q'⟩
end
end DL
namespace DL
open PySem PySem.Spec PyProof.Rows L2
/-! ### promises -/
/-- an exception's class, its fields, the map behind it -/
abbrev DX := Addr → List (Str × D) → Mp → Prop
abbrev DSp := List D → Mp → (D → Mp → Prop) → DX → Prop
def LX (K : PySem.W.Frag) (H : Hp) (E : DX) : XK := fun cls d H' => ∃ C fs M', cls = .ref C ∧ Ext K H H' ∧ Mem K M' H' ∧ ((d = none ∧ fs = []) ∨ ∃ dd vs, d = some dd ∧ H' dd = some (.xd vs) ∧ Rk K H' fs vs) ∧ E C fs M'
structure DFn (P : Program) (w : World) (K : PySem.W.Frag) (mg : Str → Option Value) (base : Heap) (CX : CXT) (k : Nat) (f : Addr) (fd : FuncData) (ps : List Str) (sp : DSp) : Prop where
  len : ∀ ds M Q E, sp ds M Q E → ds.length = ps.length
  run : ∀ (A : Around) (outer : List Env) (s : Shared) (H : Hp) (args : Args) (us : List Value) (vs : List V) (ds : List D) (M : Mp) (Q : D → Mp → Prop) (E : DX), Room k A → A.guards = some [] → Env0 P w K mg base A outer s H → BindsTo s fd args (ps.zip us) → Vals vs us →
    Rs K H ds vs → Mem K M H → sp ds M Q E → codeAny (model P w) A (.call (.ref f) args) (CR CX outer P w H s (LR K H Q) (LX K H E)) s
section
variable {P : Program} {w : World} {K : PySem.W.Frag} {mg : Str → Option Value} {base : Heap} {CX : CXT}
theorem DFn.mono {j k : Nat} {f : Addr} {fd : FuncData} {ps : List Str} {sp : DSp} (F : DFn P w K mg base CX j f fd ps sp) (h : j ≤ k) : DFn P w K mg base CX k f fd ps sp :=
  ⟨F.len, fun A outer s H args us vs ds M Q E hr => F.run A outer s H args us vs ds M Q E (hr.mono h)⟩
theorem DFn.imp {k : Nat} {f : Addr} {fd : FuncData} {ps : List Str} {sp sp' : DSp} (F : DFn P w K mg base CX k f fd ps sp) (h : ∀ ds M Q E, sp' ds M Q E → sp ds M Q E) : DFn P w K mg base CX k f fd ps sp' :=
  ⟨fun ds M Q E z => F.len ds M Q E (h _ _ _ _ z), fun A outer s H args us vs ds M Q E hr hg he hb hv hR hM z => F.run A outer s H args us vs ds M Q E hr hg he hb hv hR hM (h _ _ _ _ z)⟩
def startD (N : List Str) (ds : List D) : Sg := ds.map some ++ List.replicate (N.length - ds.length) none
theorem start_get {N : List Str} {vs : List V} {i : Nat} {v : V} (h : vs[i]? = some v) : (L2.start N vs)[i]? = some (some v) := by
  have hi := (List.getElem?_eq_some_iff.mp h).1
  unfold L2.start
  rw [List.getElem?_append_left (by simpa using hi), List.getElem?_map, h] <;> rfl
theorem sim_start {H : Hp} {N : List Str} {ds : List D} {vs : List V} {M : Mp} (r : Rs K H ds vs) (m : Mem K M H) (hl : ds.length ≤ N.length) : Sim K (startD N ds) M (L2.start N vs) H where
  len := by unfold startD L2.start; simp [r.length]
  slot := fun i d h => by
    unfold startD at h
    by_cases hi : i < ds.length
    · rw [List.getElem?_append_left (by simpa using hi), List.getElem?_map] at h
      cases e : ds[i]? with
      | none => rw [e] at h; cases h
      | some d' =>
        rw [e] at h
        cases (Option.some.inj (Option.some.inj h) : d' = d)
        obtain ⟨v, hv, rv⟩ := r.get e
        exact ⟨v, start_get hv, rv⟩
    · rw [List.getElem?_append_right (by simpa using hi)] at h
      by_cases hj : i - (ds.map some).length < N.length - ds.length
      · rw [List.getElem?_replicate, if_pos hj] at h; cases h
      · rw [List.getElem?_replicate, if_neg hj] at h; cases h
  mem := m
/-- the context of a def's body that lets nothing out -/
abbrev Cx0 (P : Program) (w : World) (K : PySem.W.Frag) (mg : Str → Option Value) (base : Heap) (N : List Str) (qual : Str) (scope : Scope) (f : Addr) (cd : Value) (A : Around) (outer : List Env) (s : Shared) (H : Hp) : Cx := (cxOf CX0 P w K mg base N qual scope f cd A outer s H E0).nox
/-- part of a map -/
def Sub (M M' : Mp) : Prop := ∀ a o, M a = some o → M' a = some o
theorem Sub.refl (M : Mp) : Sub M M := fun _ _ h => h
theorem Sub.trans {M M1 M2 : Mp} (h : Sub M M1) (h2 : Sub M1 M2) : Sub M M2 := fun a o e => h2 a o (h a o e)
theorem Sub.nn {M M' : Mp} (s : Sub M M') {p : Addr} (h : M' p = none) : M p = none := by
  cases e : M p with
  | none => rfl
  | some o => rw [s p o e] at h; cases h
theorem Sub.put {M M' : Mp} (s : Sub M M') {p : Addr} {o : MO} (h : M p = Option.none) : Sub M (DL.put M' p o) := fun a o' e => by
  have : a ≠ p := fun z => by rw [z, h] at e; cases e
  rw [put_ne this]; exact s a o' e
theorem Sub.new {M M' : Mp} (s : Sub M M') {p : Addr} {o : MO} (h : M' p = none) : Sub M (DL.put M' p o) := s.put (s.nn h)
/-- what is wanted of a value, some of the map forgotten -/
def Fg (Q : D → Mp → Prop) : D → Mp → Prop := fun d M' => ∃ M, Sub M M' ∧ Q d M
theorem Fg.mk {Q : D → Mp → Prop} {d : D} {M M' : Mp} (s : Sub M M') (q : Q d M) : Fg Q d M' := ⟨M, s, q⟩
theorem Fg.now {Q : D → Mp → Prop} {d : D} {M : Mp} (q : Q d M) : Fg Q d M := ⟨M, Sub.refl M, q⟩
theorem LR.fg {K : PySem.W.Frag} {H : Hp} {Q : D → Mp → Prop} {v : V} {H' : Hp} (h : LR K H (Fg Q) v H') : LR K H Q v H' := by
  obtain ⟨d, M', e, m, r, M, s, q⟩ := h
  exact ⟨d, M, e, m.less s, r, q⟩
/-- a def that lets nothing out, by its body -/
theorem dfn_of {x qual : Str} {st : Stmt} {f : Addr} {fd : FuncData} {N ps : List Str} {k : Nat} {sp : DSp} {t : DS0} (F : Fun K x qual st f fd) (S : FnScope N ps (defScope st)) (hN : ps.length ≤ N.length) (len : ∀ ds M Q E, sp ds M Q E → ds.length = ps.length)
    (hbody : ∀ (cdv : Value) (A : Around) (outer : List Env) (s : Shared) (H : Hp), Room k (A.deeper (envOfC qual (defScope st) s.heap.objs.size f cdv)) → (A.deeper (envOfC qual (defScope st) s.heap.objs.size f cdv)).guards = some [] →
      DSs (Cx0 P w K mg base N qual (defScope st) f cdv A outer s H) (defBody st) t)
    (pure_ : ∀ ds M Q E, sp ds M Q E → t { nx := fun _ M' => Fg Q .non M', rt := Fg Q } (startD N ds) M) : DFn P w K mg base CX0 (k + 1) f fd ps sp := by
  obtain ⟨oc, od, kV, doc, pm, an, cdv, ct, osl, rfl, lk, hcd⟩ := F.ex
  refine ⟨len, fun A outer s H args us vs ds M Q E hr hg e0 hb r hR hM hsp => ?_⟩
  have hl := len _ _ _ _ hsp
  have hv : vs.length = ps.length := hR.length.trans hl
  have KX : K.In s.heap := e0.mod.kin.keeps fun b o e => (e0.bs b o e).1
  have lim : s.heap.NoLimit := e0.mod.nolimit.keeps fun b o e => (e0.bs b o e).1
  have hkind : ∀ y ∈ ps.zip us, (defScope st).names.lookup y.1 = some .local ∨ ((defScope st).names.lookup y.1 = some .cell ∧ ((cellsFrom (s.heap.objs.size + 1) (defScope st).names []).lookup y.1).isSome = true) := fun y hy =>
    (S.par y.1 (List.of_mem_zip hy).1).elim .inl fun q => .inr ⟨q, PySem.W.cellsFrom_some _ _ _ (.inl q)⟩
  refine codeAny_call_function hr.depth (KX _ _ lk) rfl S.co S.gen rfl (PySem.W.codeRec_of KX hcd) (hb _ _ _ _ ?_)
  refine wpAny_newFunctionEnv_cells S.kind hkind fun env he s1 y => ?_
  subst he
  refine ⟨lim.keeps y.toInCall.keep, codeAny_func ?_⟩
  have I : Inv (cxOf CX0 P w K mg base N qual (defScope st) f cdv A outer s H E0) [] (L2.start N vs) H s1 := inv_start S hr.hd e0 hv r y
  have body := (hbody cdv A outer s H (hr.deeper _) hg).run (L2.start N vs) H (startD N ds) M { nx := fun _ M' => Fg Q .non M', rt := Fg Q } (sim_start hR hM (by rw [hl]; exact hN)) (pure_ ds M Q E hsp) [] s1 (I.wish _)
  refine wpAny_mono body (fun fl s' hs => ?_) fun _ _ z => False.elim z
  have fin : ∀ {σ' : St} {H' : Hp} {v : V} {u : Value}, Inv (cxOf CX0 P w K mg base N qual (defScope st) f cdv A outer s H E0).nox [] σ' H' s' → RelV v u → LR K H Q v H' → CE outer P w H s (LR K H Q) u s' :=
    fun {σ' H' v u} J rv q => ⟨v, H', J.unwish.os, J.unwish.bare, J.unwish.base, J.unwish.hok, rv, q⟩
  cases fl with
  | ret u => obtain ⟨v, σ', H', J, rv, q⟩ := hs; exact fin J rv (LR.fg q)
  | next =>
    obtain ⟨σ', H', J, σd, M', e, S', q⟩ := hs
    exact fin (v := V.non) (u := Value.none) J rfl (LR.fg ⟨.non, M', e, S'.mem, rfl, q⟩)
  | brk => obtain ⟨_, _, _, _, _, _, _, q⟩ := hs; exact False.elim q
  | cont => obtain ⟨_, _, _, _, _, _, _, q⟩ := hs; exact False.elim q
end
/-! ### calls -/
def dCall (sp : DSp) (E : DX) (ta : DA0) : DE0 := fun σ M Q => ta σ M fun ds M1 => sp ds M1 Q E
def dMeth (C : Addr) (m : Str) (sp : DSp) (E : DX) (to : DE0) (ta : DA0) : DE0 := fun σ M Q => to σ M fun x M1 => match x with
  | .ref a => ∃ fs, M1 a = some (.ins C fs) ∧ fs.lookup m = none ∧ ta σ M1 fun ds M2 => sp (.ref a :: ds) M2 Q E
  | _ => False
def dMake (C : Addr) (sp : DSp) (E : DX) (ta : DA0) : DE0 := fun σ M Q => ta σ M fun ds M1 => ∀ x, M1 x = none → sp (.ref x :: ds) (put M1 x (.ins C [])) (fun v M' => isNon v = true ∧ Q (.ref x) M') E
def dE0 : DX := fun _ _ _ => False
/-- an exception of a callee reaches what this body wants -/
def DPasses (CX : CXT) (X : Cx) (E : DX) : Prop := ∀ (pins : List (Addr × Obj)) (σ : St) (H H0 : Hp) (s : Shared) (e : Value) (s' : Shared), Inv X pins σ H s → CX X.stack H s (LX X.K H0 E) e s' → X.xe e s'
theorem dpass0 {X : Cx} : DPasses CX0 X dE0 := fun _ _ _ _ _ _ _ _ h => h.elim
section
variable {X : Cx} {CX : CXT} {k : Nat} {f C : Addr} {fd : FuncData} {ps : List Str} {sp : DSp} {E : DX} {x m : Str} {p pos apos : Pos} {e o : Expr} {es : List Expr} {to : DE0} {ta : DA0}
theorem run_dfn {pins : List (Addr × Obj)} {σ : Sg} {σv : St} {H : Hp} {s : Shared} {M : Mp} {Q : D → Mp → Prop} {us : List Value} {vs : List V} {ds : List D} (F : DFn X.prog X.w X.K X.mg X.base CX k f fd ps sp) (hr : Room k X.A) (hgd : X.A.guards = some []) (hb : Binds X.K fd ps []) (hx : DPasses CX X E)
    (I : Inv X pins σv H s) (S : Sim X.K σ M σv H) (r : Vals vs us) (rs : Rs X.K H ds vs) (h : sp ds M Q E) : wpAny (model X.prog X.w) X.A (call (.ref f) us) (EP X pins σv (L X.K H σ σv Q)) X.xe s := by
  have hl : us.length = ps.length := by rw [← r.length, rs.length]; exact F.len _ _ _ _ h
  refine wpAny_call (codeAny_mono (F.run X.A X.stack s H ⟨us, []⟩ us vs ds M Q E hr hgd I.env0 (by simpa using hb s us I.kIn (by simpa using hl)) r rs S.mem h) fun r s' hq => ?_)
  cases r with
  | error e => exact hx pins σv H H s e s' I hq
  | ok fl =>
    cases fl with
    | ret u =>
      obtain ⟨v, H', I', rv, d, M', e', m', rd, q⟩ := I.after hq
      exact ⟨v, H', I', rv, d, M', e', S.to e' m', rd, q⟩
    | next => exact False.elim hq
    | brk => exact False.elim hq
    | cont => exact False.elim hq
theorem EP.pre {pins : List (Addr × Obj)} {σ : Sg} {σv : St} {H H1 : Hp} {Q : D → Mp → Prop} (e : Ext X.K H H1) {u : Value} {s : Shared} (h : EP X pins σv (L X.K H1 σ σv Q) u s) : EP X pins σv (L X.K H σ σv Q) u s := by
  obtain ⟨v, H', I', rv, q⟩ := h
  exact ⟨v, H', I', rv, L.pre e q⟩
theorem de_call (F : DFn X.prog X.w X.K X.mg X.base CX k f fd ps sp) (hr : Room k X.A) (hgd : X.A.guards = some []) (hg : Gl X x) (hm : X.mg x = some (.ref f)) (hk : PySem.W.keepIn X.K (.ref f) = true) (hb : Binds X.K fd ps []) (hx : DPasses CX X E)
    (ha : DA X (e :: es) ta) (hdb : (x == ("__debug__" : Str)) = false := by decide) (he : starEach (e :: es) X.env = (false, eval e X.env) :: starEach es X.env := by rfl) (hpl : (backTo pos (starEach es X.env)).any (·.1) = false := by rfl) :
    DE X (.Call (.Name x p) (e :: es) [] pos) (dCall sp E ta) :=
  ⟨fun σv H σ M Q S z pins s I => wpAny_Call_Name_kw (ld_glob I hg hm (PySem.W.callWith_K (h₀ := X.base) I.ok.mod.kin hk (thn (ha.run σv H σ M _ S z pos pins s I) fun us s1 ⟨vs, H1, I1, r, ds, M1, e1, S1, rs, q⟩ =>
    ⟨I1.kIn, thn (run_dfn F hr hgd hb hx I1 S1 r rs q) fun u s2 h2 => EP.pre e1 h2⟩) he hpl) hdb)⟩
theorem de_call0 (F : DFn X.prog X.w X.K X.mg X.base CX k f fd ps sp) (hr : Room k X.A) (hgd : X.A.guards = some []) (hg : Gl X x) (hm : X.mg x = some (.ref f)) (hk : PySem.W.keepIn X.K (.ref f) = true) (hb : Binds X.K fd ps []) (hx : DPasses CX X E)
    (hdb : (x == ("__debug__" : Str)) = false := by decide) : DE X (.Call (.Name x p) [] [] pos) (dCall sp E dNil) :=
  ⟨fun σv H σ M Q S z pins s I => wpAny_Call_Name_kw (ld_glob I hg hm (PySem.W.callWith_K0 I.kIn hk (run_dfn (us := []) F hr hgd hb hx I S .nil (ds := []) rfl z)) hdb)⟩
/-- o.m(e, ..) -/
theorem de_meth {pl : Sem Bool} (he : DE X o to) (c : Cls X.K C) (hm : Meth X.K C m f) (F : DFn X.prog X.w X.K X.mg X.base CX k f fd ps sp) (hr : Room k X.A) (hgd : X.A.guards = some []) (hb : Binds X.K fd ps []) (hx : DPasses CX X E) (ha : DA X (e :: es) ta)
    (hst : starEach (e :: es) X.env = (false, eval e X.env) :: starEach es X.env := by rfl) (hpl : (backTo pos (starEach es X.env)).any (·.1) = false := by rfl)
    (ht : eval (.Call (.Attribute o m apos) (e :: es) [] pos) X.env = (do
      let ov ← eval o X.env
      standAt apos.atName
      let (f, first) ← holding [ov] (getMethod ov m pl)
      callWith pos f first (backTo pos (starEach (e :: es) X.env)) (backToKw pos (keywordEach [] X.env))) := by rfl) : DE X (.Call (.Attribute o m apos) (e :: es) [] pos) (dMeth C m sp E to ta) :=
  ⟨fun σv H σ M Q S z pins s I => PySem.W.methodCall_KW (pl := pl) (thn (he.run σv H σ M _ S z pins s I) fun u s1 ⟨v, H1, I1, rv, d, M1, e1, S1, rd, q⟩ => by
    cases d with
    | ref a =>
      cases rd
      cases rv
      obtain ⟨fs, hM, hl, q⟩ := q
      obtain ⟨dx, vs, h1, rf⟩ := S1.mem.at_ _ _ hM
      have l2 : vs.lookup m = none := by
        rcases rf.look (f := m) with ⟨_, n2⟩ | ⟨d', w, l1, l2, r⟩
        · exact n2
        · rw [l1] at hl; cases hl
      refine getmeth_ok I1 h1 c hm l2 (PySem.W.callWith_K (first := [.ref a]) (h₀ := X.base) I.ok.mod.kin hm.kp (thn (ha.run σv H1 σ M1 _ S1 q pos pins s1 I1) fun us s2 ⟨ws, H2, I2, r, ds, M2, e2, S2, rs, q2⟩ => ⟨I2.kIn, ?_⟩) hst hpl)
      exact thn (run_dfn (us := .ref a :: us) (vs := .ref a :: ws) (ds := .ref a :: ds) F hr hgd hb hx I2 S2 (.cons rfl r) ⟨_, _, rfl, rfl, rs⟩ q2) fun u s3 h3 => EP.pre (e1.trans e2) h3
    | _ => exact q.elim) ht⟩
theorem de_meth0 {pl : Sem Bool} (he : DE X o to) (c : Cls X.K C) (hm : Meth X.K C m f) (F : DFn X.prog X.w X.K X.mg X.base CX k f fd ps sp) (hr : Room k X.A) (hgd : X.A.guards = some []) (hb : Binds X.K fd ps []) (hx : DPasses CX X E)
    (ht : eval (.Call (.Attribute o m apos) [] [] pos) X.env = (do
      let ov ← eval o X.env
      standAt apos.atName
      let (f, first) ← holding [ov] (getMethod ov m pl)
      callWith pos f first (backTo pos (starEach [] X.env)) (backToKw pos (keywordEach [] X.env))) := by rfl) : DE X (.Call (.Attribute o m apos) [] [] pos) (dMeth C m sp E to dNil) :=
  ⟨fun σv H σ M Q S z pins s I => PySem.W.methodCall_KW (pl := pl) (thn (he.run σv H σ M _ S z pins s I) fun u s1 ⟨v, H1, I1, rv, d, M1, e1, S1, rd, q⟩ => by
    cases d with
    | ref a =>
      cases rd
      cases rv
      obtain ⟨fs, hM, hl, q⟩ := q
      obtain ⟨dx, vs, h1, rf⟩ := S1.mem.at_ _ _ hM
      have l2 : vs.lookup m = none := by
        rcases rf.look (f := m) with ⟨_, n2⟩ | ⟨d', w, l1, l2, r⟩
        · exact n2
        · rw [l1] at hl; cases hl
      refine getmeth_ok I1 h1 c hm l2 (PySem.W.callWith_K0 (first := [.ref a]) I1.kIn hm.kp ?_)
      exact thn (run_dfn (us := [.ref a]) (vs := [.ref a]) (ds := [.ref a]) F hr hgd hb hx I1 S1 (.cons rfl .nil) ⟨_, _, rfl, rfl, rfl⟩ q) fun u s3 h3 => EP.pre e1 h3
    | _ => exact q.elim) ht⟩
theorem make_guards {A : Around} {C : Addr} {us : List Value} {kw : List (Str × Value)} (h : A.guards = some []) : (A.under (.builtin "type.__call__" ⟨.ref C :: us, kw⟩)).guards = some [] := by
  first
    | exact h
    | (show pushGuards (Code.builtin "type.__call__" ⟨.ref C :: us, kw⟩).guards A.guards = some []; rw [h]; rfl)
/-- C(e, ..) -/
theorem de_make (Mk_ : Mk X.K C f) (F : DFn X.prog X.w X.K X.mg X.base CX k f fd ps sp) (hr : Room (k + 1) X.A) (hgd : X.A.guards = some []) (hg : Gl X x) (hm : X.mg x = some (.ref C)) (hb : Binds X.K fd ps []) (hx : DPasses CX X E)
    (ha : DA X (e :: es) ta) (hdb : (x == ("__debug__" : Str)) = false := by decide) (he : starEach (e :: es) X.env = (false, eval e X.env) :: starEach es X.env := by rfl) (hpl : (backTo pos (starEach es X.env)).any (·.1) = false := by rfl) :
    DE X (.Call (.Name x p) (e :: es) [] pos) (dMake C sp E ta) :=
  ⟨fun σv H σ M Q S z pins s I => wpAny_Call_Name_kw (ld_glob I hg hm (PySem.W.callWith_K (h₀ := X.base) I.ok.mod.kin Mk_.kp (thn (ha.run σv H σ M _ S z pos pins s I) fun us s1 ⟨vs, H1, I1, r, ds, M1, e1, S1, rs, q⟩ => ⟨I1.kIn, by
    have n1 : H1 (s1.heap.objs.size + 1) = none := I1.hok.fresh (Nat.le_succ _)
    have n0 : H1 s1.heap.objs.size = none := I1.hok.fresh (Nat.le_refl _)
    have I2 := Inv.made (C := C) I1
    have ea := Ext.new (K := X.K) (o := .own (s1.heap.objs.size + 1)) n0
    have n1' : upd H1 s1.heap.objs.size (.own (s1.heap.objs.size + 1)) (s1.heap.objs.size + 1) = none := (upd_ne (Nat.succ_ne_self _)).trans n1
    have eb := Ext.new (K := X.K) (o := .ins C s1.heap.objs.size []) n1'
    have S2 := S1.to (ea.trans eb) ((S1.mem.new (o := .own (s1.heap.objs.size + 1)) n0).newM (mo := .ins C []) (o := .ins C s1.heap.objs.size []) n1' ⟨s1.heap.objs.size, [], upd_same, rfl⟩)
    have hq := q (s1.heap.objs.size + 1) (S1.mem.free n1)
    have r2 : Vals (V.ref (s1.heap.objs.size + 1) :: vs) (Value.ref (s1.heap.objs.size + 1) :: us) := .cons rfl r
    have rs2 := Rs.mono (ea.trans eb) _ _ rs
    have hl : (Value.ref (s1.heap.objs.size + 1) :: us).length = ps.length := by
      rw [← r2.length, List.length_cons, rs.length]; exact F.len _ _ _ _ hq
    refine wpAny_call (make_map (f := f) I1.kIn Mk_.makes Mk_.init (beq_iff_eq.mp Mk_.fn) (codeAny_mono (F.run _ X.stack _ _ ⟨Value.ref (s1.heap.objs.size + 1) :: us, []⟩ (Value.ref (s1.heap.objs.size + 1) :: us) (V.ref (s1.heap.objs.size + 1) :: vs) (.ref (s1.heap.objs.size + 1) :: ds) _ _ E (hr.make C us [])
      (make_guards hgd) (I2.env0.make C us []) (by simpa using hb _ (Value.ref (s1.heap.objs.size + 1) :: us) I2.kIn (by simpa using hl)) r2 ⟨_, _, rfl, rfl, rs2⟩ S2.mem hq) fun rr s' hq' => ?_))
    cases rr with
    | error er => exact hx pins σv _ _ _ er s' I2 hq'
    | ok fl =>
      cases fl with
      | ret u =>
        obtain ⟨v, H', I3, rv, d, M', e3, m3, rd, hn, q3⟩ := I2.after hq'
        have : u = Value.none := by
          cases d with
          | non => cases rd; exact rv
          | _ => cases hn
        exact ⟨this, ⟨V.ref (s1.heap.objs.size + 1), H', I3, rfl, .ref (s1.heap.objs.size + 1), M', ((e1.trans ea).trans eb).trans e3, S2.to e3 m3, rfl, q3⟩⟩
      | next => exact False.elim hq'
      | brk => exact False.elim hq'
      | cont => exact False.elim hq'⟩) he hpl) hdb)⟩
end
/-! ### keywords -/
inductive DKs (X : Cx) : List Keyword → DA0 → Prop
  | nil : DKs X [] dNil
  | cons {nm : Option Str} {e : Expr} {kp : Pos} {kws te ta} : DE X e te → DKs X kws ta → DKs X (⟨nm, e, kp⟩ :: kws) (dCons te ta)
theorem DKs.pk {X : Cx} {kws : List Keyword} {ta : DA0} (h : DKs X kws ta) : ∃ t0, PK X kws t0 ∧ ∀ σv H σ M (Q : List D → Mp → Prop) (P : List V → Hp → Prop), Sim X.K σ M σv H → ta σ M Q →
    (∀ vs H' ds M', Ext X.K H H' → Sim X.K σ M' σv H' → Rs X.K H' ds vs → Q ds M' → P vs H') → t0 σv H P := by
  induction h with
  | nil => exact ⟨_, pk_nil, fun σv H σ M Q P S z k => k [] H [] M Ext.refl S rfl z⟩
  | cons he _ ih =>
    obtain ⟨t0, h1, h2⟩ := ih
    exact ⟨_, pk_cons pe_sem h1, fun σv H σ M Q P S z kk => he.then S z fun v H1 d M1 e1 S1 r1 q1 => h2 σv H1 σ M1 _ _ S1 q1 fun vs H2 ds M2 e2 S2 r2 q2 => kk _ _ (d :: ds) M2 (e1.trans e2) S2 ⟨v, vs, rfl, R.mono e2 _ _ r1, r2⟩ q2⟩
section
variable {X : Cx} {CX : CXT} {k : Nat} {f : Addr} {fd : FuncData} {ps ks : List Str} {sp : DSp} {E : DX} {x : Str} {p pos : Pos} {kws : List Keyword} {ta : DA0}
/-- f(k = v, ..): all by keywords, g the order in which the parameters take them -/
def dCallK (sp : DSp) (E : DX) (g : List D → List D) (ta : DA0) : DE0 := fun σ M Q => ta σ M fun ds M1 => sp (g ds) M1 Q E
theorem de_callK (F : DFn X.prog X.w X.K X.mg X.base CX k f fd ps sp) (hr : Room k X.A) (hgd : X.A.guards = some []) (hg : Gl X x) (hm : X.mg x = some (.ref f)) (hk : PySem.W.keepIn X.K (.ref f) = true) (hx : DPasses CX X E) {g : {α : Type} → List α → List α}
    (hb : ∀ (s : Shared) (ws : List Value), X.K.In s.heap → (g ws).length = ps.length → BindsTo s fd ⟨[], ks.zip ws⟩ (ps.zip (g ws))) (gr : ∀ {vs : List V} {ws : List Value}, Vals vs ws → Vals (g vs) (g ws)) (gR : ∀ {H : Hp} {ds : List D} {vs : List V}, Rs X.K H ds vs → Rs X.K H (g ds) (g vs))
    (ha : DKs X kws ta) (hall : (backToKw pos (keywordEach kws X.env)).all (·.1.isSome) = true := by rfl) (hks : (backToKw pos (keywordEach kws X.env)).filterMap (·.1) = ks := by rfl) (hdb : (x == ("__debug__" : Str)) = false := by decide)
    (hpl : ((backTo pos (starEach [] X.env)).any (·.1) || (backToKw pos (keywordEach kws X.env)).any (·.1.isNone)) = false := by rfl) :
    DE X (.Call (.Name x p) [] kws pos) (dCallK sp E g ta) := by
  obtain ⟨t0, h1, h2⟩ := ha.pk
  refine ⟨fun σv H σ M Q S z pins s I => wpAny_Call_Name_kw (ld_glob I hg hm (PySem.W.callWith_KW0 (h₀ := X.base) I.ok.mod.kin hk hall (thn (h1.run pos pins s σv H (LA X.K H σ σv fun ds M1 => sp (g ds) M1 Q E) I (h2 σv H σ M _ _ S z fun vs H' ds M' e S' r q => ⟨ds, M', e, S', r, q⟩)) fun ws s1 ⟨vs, H1, I1, r, ds, M1, e1, S1, rs, q⟩ => ⟨I1.kIn, ?_⟩) hpl) hdb)⟩
  rw [hks]
  have hl : (g ws).length = ps.length := by rw [← (gr r).length, (gR rs).length]; exact F.len _ _ _ _ q
  refine wpAny_call (codeAny_mono (F.run X.A X.stack s1 H1 ⟨[], ks.zip ws⟩ (g ws) (g vs) (g ds) M1 Q E hr hgd I1.env0 (hb s1 ws I1.kIn hl) (gr r) (gR rs) S1.mem q) fun r s' hq => ?_)
  cases r with
  | error e => exact hx pins σv H1 H1 s1 e s' I1 hq
  | ok fl =>
    cases fl with
    | ret u =>
      obtain ⟨v, H', I', rv, d, M', e', m', rd, q⟩ := I1.after hq
      exact ⟨v, H', I', rv, d, M', e1.trans e', S1.to e' m', rd, q⟩
    | next => exact False.elim hq
    | brk => exact False.elim hq
    | cont => exact False.elim hq
end
/-! ### repr -/
def bRepr : BL := fun xs M Q => match xs with
  | [x] => ∃ p, toP x = some p ∧ p.showable = true ∧ p.hasDict = false ∧ p.depth ≤ 60 ∧ p.shown.length ≤ sizeLine ∧ Q (.str p.shown) M
  | _ => False
def rRepr (K : PySem.W.Frag) : List V → Hp → VK → Prop := fun vs H Q => ∃ x p, vs = [x] ∧ Dp K H x p ∧ p.showable = true ∧ p.hasDict = false ∧ p.depth ≤ 60 ∧ p.shown.length ≤ sizeLine ∧ Q (.str p.shown) H
theorem call_reprD {X : Cx} (hgd : X.A.guards = some []) (hu : X.A.units + 64 < cLine) : CallR X (.builtin "repr") (rRepr X.K) := by
  intro pins s σ H xs us Q I r h
  obtain ⟨x, p, rfl, hp, h1, h2, h3, h4, q⟩ := h
  obtain ⟨u, rfl, rx⟩ := Vals.one r
  obtain ⟨as, rd⟩ := Dp.reads I p x u hp rx
  have fin : ∀ h' tk u', (∀ b o, s.heap.get? b = some o → h'.get? b = some o) → EP X pins σ Q (.str p.shown u') { s with heap := h', toks := tk } := fun h' tk u' hk => ⟨.str _, H, I.kept hk, ⟨u', rfl⟩, q⟩
  cases rd with
  | none => exact P.repr_of_none (by simpa [PyData.shown] using fin s.heap _ _ fun _ _ e => e)
  | bool b => exact P.repr_of_bool (by simpa [PyData.shown] using fin s.heap _ _ fun _ _ e => e)
  | int i t => exact P.repr_of_int (by simpa [PyData.showable] using h1) (by simpa [PyData.shown] using fin s.heap _ _ fun _ _ e => e)
  | str z t => exact P.repr_of_str (by simpa [PyData.shown] using fin s.heap _ _ fun _ _ e => e) (by simpa [PyData.shown] using h4)
  | list a b c d => exact repr_of_reads' (.list a b c d) h1 (PyData.noDict_hsm h2) hgd (by omega) (fun _ _ e => e) (fun h' u tk hk => fin h' tk u hk) h4
  | tuple a b c d => exact repr_of_reads' (.tuple a b c d) h1 (PyData.noDict_hsm h2) hgd (by omega) (fun _ _ e => e) (fun h' u tk hk => fin h' tk u hk) h4
  | dict a b c d e => exact repr_of_reads' (.dict a b c d e) h1 (PyData.noDict_hsm h2) hgd (by omega) (fun _ _ e => e) (fun h' u tk hk => fin h' tk u hk) h4
theorem tr_repr {K : PySem.W.Frag} : TrC K bRepr (rRepr K) := fun σ σv M H xs vs Q P S r z k => by
  unfold bRepr at z
  split at z
  · obtain ⟨v, r1, rfl, rx, e3⟩ := r
    cases e3
    obtain ⟨p, hp, h1, h2, h3, h4, q⟩ := z
    exact ⟨v, p, rfl, toP_dp _ _ _ rx hp, h1, h2, h3, h4, k _ _ (L.mk S q rfl)⟩
  · exact z.elim
end DL
namespace DL
open PySem PySem.Spec PyProof.Rows L2
/-! ### the loops' goals, named -/
def lcG (items : List D) (G : Mp → Prop) (M1 : Mp) (g : DG0) (tt : DT0) (te : DE0) (vs : List Nat) (σ : Sg) (Q : D → Mp → Prop) : Prop := ∀ p, M1 p = none → ∃ I : Nat → Mp → Prop, I 0 (put M1 p (.lst [])) ∧ (∀ i M, I i M → G M) ∧
  (∀ (i : Nat) x M, items[i]? = some x → I i M → g x (wipeD σ vs) M fun σ2 M2 => tt σ2 M2 fun b M3 =>
    if b = true then te σ2 M3 fun y M4 => ∃ acc, M4 p = some (.lst acc) ∧ acc.length < sizeLine ∧ I (i + 1) (put M4 p (.lst (acc ++ [y]))) else I (i + 1) M3) ∧ ∀ M, I items.length M → Q (.ref p) M
theorem dLc_g {ti : DI0} {g : DG0} {tt : DT0} {te : DE0} {vs : List Nat} {σ : Sg} {M : Mp} {Q : D → Mp → Prop} : dLc ti g tt te vs σ M Q = ti σ M fun items G M1 => lcG items G M1 g tt te vs σ Q := rfl
def forG (items : List D) (G : Mp → Prop) (M1 : Mp) (g : DG0) (tb : DS0) (E : DEnds) (σ : Sg) : Prop := ∃ I : Nat → Sg → Mp → Prop, I 0 σ M1 ∧ (∀ i σ M, I i σ M → G M) ∧
  (∀ (i : Nat) x σ M, items[i]? = some x → I i σ M → g x σ M fun σ2 M2 => tb { E with nx := I (i + 1), ct := I (i + 1), bk := E.nx } σ2 M2) ∧ ∀ σ M, I items.length σ M → E.nx σ M
theorem dFor_g {ti : DI0} {g : DG0} {tb : DS0} {E : DEnds} {σ : Sg} {M : Mp} : dFor ti g tb E σ M = ti σ M fun items G M1 => forG items G M1 g tb E σ := rfl
theorem put_put {M : Mp} {a : Addr} {o o' : MO} : put (put M a o) a o' = put M a o' := by
  funext b; unfold put; split <;> rfl
theorem Sub.putNew {M : Mp} {p : Addr} {o : MO} (h : M p = none) : Sub M (DL.put M p o) := (Sub.refl M).new h
/-- a comprehension whose elements are found with no trace -/
theorem lcG_map {items : List D} {G : Mp → Prop} {M1 : Mp} {g : DG0} {te : DE0} {vs : List Nat} {σ : Sg} {Q : D → Mp → Prop} (f : D → D) (hG : ∀ p l, M1 p = none → G (put M1 p (.lst l))) (hl : items.length ≤ sizeLine)
    (step : ∀ (i : Nat) x M', items[i]? = some x → Sub M1 M' → ∀ R : D → Mp → Prop, R (f x) M' → g x (wipeD σ vs) M' fun σ2 M2 => te σ2 M2 R)
    (fin : ∀ p, M1 p = none → Q (.ref p) (put M1 p (.lst (items.map f)))) : lcG items G M1 g dYes te vs σ Q := fun p hp => by
  refine ⟨fun i M => i ≤ items.length ∧ M = put M1 p (.lst ((items.take i).map f)), ⟨Nat.zero_le _, rfl⟩, fun i M h => by rw [h.2]; exact hG p _ hp, ?_, ?_⟩
  rotate_left
  · rintro M ⟨_, hM⟩
    rw [hM, List.take_length]; exact fin p hp
  rintro i x M hx ⟨hi, hM⟩
  have hlt : i < items.length := (List.getElem?_eq_some_iff.mp hx).1
  have hxe := (List.getElem?_eq_some_iff.mp hx).2
  subst hM
  refine step i x _ hx (Sub.putNew hp) _ ?_
  refine ⟨_, put_same, by simp; omega, hlt, ?_⟩
  rw [put_put, List.take_succ, hx]
  simp
/-- .. with a condition -/
theorem lcG_filter {items : List D} {G : Mp → Prop} {M1 : Mp} {g : DG0} {tt : DT0} {te : DE0} {vs : List Nat} {σ : Sg} {Q : D → Mp → Prop} (c : D → Bool) (hG : ∀ p l, M1 p = none → G (put M1 p (.lst l))) (hl : items.length ≤ sizeLine)
    (step : ∀ (i : Nat) x M', items[i]? = some x → Sub M1 M' → ∀ (R : D → Mp → Prop) (R' : Mp → Prop), (c x = true → R x M') → (c x = false → R' M') → g x (wipeD σ vs) M' fun σ2 M2 => tt σ2 M2 fun b M3 => if b = true then te σ2 M3 R else R' M3)
    (fin : ∀ p, M1 p = none → Q (.ref p) (put M1 p (.lst (items.filter c)))) : lcG items G M1 g tt te vs σ Q := fun p hp => by
  refine ⟨fun i M => i ≤ items.length ∧ M = put M1 p (.lst ((items.take i).filter c)), ⟨Nat.zero_le _, rfl⟩, fun i M h => by rw [h.2]; exact hG p _ hp, ?_, ?_⟩
  rotate_left
  · rintro M ⟨_, hM⟩
    rw [hM, List.take_length]; exact fin p hp
  rintro i x M hx ⟨hi, hM⟩
  have hlt : i < items.length := (List.getElem?_eq_some_iff.mp hx).1
  subst hM
  refine step i x _ hx (Sub.putNew hp) (fun y M4 => ∃ acc, M4 p = some (.lst acc) ∧ acc.length < sizeLine ∧ (i + 1 ≤ items.length ∧ put M4 p (.lst (acc ++ [y])) = put M1 p (.lst ((items.take (i + 1)).filter c)))) (fun M3 => i + 1 ≤ items.length ∧ M3 = put M1 p (.lst ((items.take (i + 1)).filter c))) (fun h => ⟨_, put_same, ?_, hlt, ?_⟩) fun h => ⟨hlt, ?_⟩
  · have := List.length_filter_le c (items.take i)
    simp at this; omega
  · rw [put_put, List.take_succ, hx]
    simp [h]
  · rw [List.take_succ, hx]
    simp [h]
theorem itemsOf_put {M : Mp} {p : Addr} {l : List D} : itemsOf (put M p (.lst l)) (.ref p) = some l := by
  show (match put M p (.lst l) p with | some (.lst l) => some l | _ => none) = some l
  rw [put_same]
end DL
namespace DL
open PySem PySem.Spec PyProof.Rows L2
/-! ### places in short lists -/
section
variable {α : Type} {a b c d e f : α} {l : List α}
theorem atI_0 : atI (a :: l) 0 = some a := by
  unfold atI ixN
  rw [if_pos (by decide), if_pos (by simp)]; rfl
theorem atI_1 : atI (a :: b :: l) 1 = some b := by
  unfold atI ixN
  rw [if_pos (by decide), if_pos (by simp; omega)]; rfl
theorem atI_2 : atI (a :: b :: c :: l) 2 = some c := by
  unfold atI ixN
  rw [if_pos (by decide), if_pos (by simp; omega)]; rfl
theorem atI_3 : atI (a :: b :: c :: d :: l) 3 = some d := by
  unfold atI ixN
  rw [if_pos (by decide), if_pos (by simp; omega)]; rfl
theorem atI_m1 : atI [a, b] (-1) = some b := rfl
theorem atI_m1' : atI [a, b, c] (-1) = some c := rfl
theorem atI_nat {i : Nat} {x : α} (h : l[i]? = some x) : atI l (i : Int) = some x := by
  have hi := (List.getElem?_eq_some_iff.mp h).1
  unfold atI ixN
  rw [if_pos (by omega), if_pos (by omega)]
  simpa using h
end
/-! ### == between simple values -/
theorem shaped_str {x : Str} (h : PyData.strOk x = true) : SeqAt.shaped (.str x) = true := by simp [SeqAt.shaped, PyData.canLay0, PyData.depth, h]
theorem shaped_int (x : Int) : SeqAt.shaped (.int x) = true := by simp [SeqAt.shaped, PyData.canLay0, PyData.depth]
theorem shaped_bl (x : Bool) : SeqAt.shaped (.bool x) = true := by simp [SeqAt.shaped, PyData.canLay0, PyData.depth]
theorem shaped_non : SeqAt.shaped .none = true := by simp [SeqAt.shaped, PyData.canLay0, PyData.depth]
theorem eqv_str (x y : Str) : PyData.eqv (.str x) (.str y) = decide (x = y) := by
  rw [PyData.eqv]
  by_cases h : x = y
  · simp [h]
  · rw [decide_eq_false h]; exact beq_eq_false_iff_ne.mpr h
theorem eqv_int (x y : Int) : PyData.eqv (.int x) (.int y) = decide (x = y) := by
  rw [PyData.eqv]
  by_cases h : x = y
  · simp [h]
  · rw [decide_eq_false h]; exact beq_eq_false_iff_ne.mpr h
theorem bEq_of {x y : D} {p q : PyData} {M : Mp} {Q : D → Mp → Prop} (h1 : toPM M x = some p) (h2 : toPM M y = some q) (s1 : SeqAt.shaped p = true) (s2 : SeqAt.shaped q = true) : bEq x y M Q = Q (.bl (PyData.eqv p q)) M :=
  propext ⟨fun ⟨p', q', e1, e2, _, _, z⟩ => by rw [h1] at e1; rw [h2] at e2; cases e1; cases e2; exact z, fun z => ⟨p, q, h1, h2, s1, s2, z⟩⟩
theorem bNe_of {x y : D} {p q : PyData} {M : Mp} {Q : D → Mp → Prop} (h1 : toPM M x = some p) (h2 : toPM M y = some q) (s1 : SeqAt.shaped p = true) (s2 : SeqAt.shaped q = true) : bNe x y M Q = Q (.bl (!PyData.eqv p q)) M :=
  propext ⟨fun ⟨p', q', e1, e2, _, _, z⟩ => by rw [h1] at e1; rw [h2] at e2; cases e1; cases e2; exact z, fun z => ⟨p, q, h1, h2, s1, s2, z⟩⟩
theorem bEq_str {x y : Str} {M : Mp} {Q : D → Mp → Prop} (hx : PyData.strOk x = true) (hy : PyData.strOk y = true) : bEq (.str x) (.str y) M Q = Q (.bl (decide (x = y))) M := by
  rw [← eqv_str]; exact bEq_of rfl rfl (shaped_str hx) (shaped_str hy)
theorem bEq_int {x y : Int} {M : Mp} {Q : D → Mp → Prop} : bEq (.int x) (.int y) M Q = Q (.bl (decide (x = y))) M := by
  rw [← eqv_int]; exact bEq_of rfl rfl (shaped_int _) (shaped_int _)
theorem bNe_str {x y : Str} {M : Mp} {Q : D → Mp → Prop} (hx : PyData.strOk x = true) (hy : PyData.strOk y = true) : bNe (.str x) (.str y) M Q = Q (.bl (!decide (x = y))) M := by
  rw [← eqv_str]; exact bNe_of rfl rfl (shaped_str hx) (shaped_str hy)
theorem bNe_int {x y : Int} {M : Mp} {Q : D → Mp → Prop} : bNe (.int x) (.int y) M Q = Q (.bl (!decide (x = y))) M := by
  rw [← eqv_int]; exact bNe_of rfl rfl (shaped_int _) (shaped_int _)
theorem toPs_map {α : Type} (g : α → D) (h : α → PyData) (e : ∀ x, toP (g x) = some (h x)) : ∀ l : List α, toPs (l.map g) = some (l.map h)
  | [] => by simp [toPs]
  | x :: xs => by simp [toPs, e, toPs_map g h e xs]
theorem toPs_ints (l : List Int) : toPs (l.map D.int) = some (l.map PyData.int) := toPs_map _ _ (fun _ => rfl) l
theorem canLay_map {α : Type} (h : α → PyData) (e : ∀ x, (h x).canLay0 = true) : ∀ l : List α, PyData.canLayAll0 (l.map h) = true
  | [] => by simp [PyData.canLayAll0]
  | x :: xs => by simp [PyData.canLayAll0, e, canLay_map h e xs]
theorem depth_map {α : Type} (h : α → PyData) (n : Nat) (e : ∀ x, (h x).depth ≤ n) : ∀ l : List α, PyData.depthAll (l.map h) ≤ n
  | [] => by simp [PyData.depthAll]
  | x :: xs => by
    simp only [List.map_cons, PyData.depthAll]; exact Nat.max_le.mpr ⟨e x, depth_map h n e xs⟩
theorem shaped_tup {l : List PyData} (h : PyData.canLayAll0 l = true) (d : PyData.depthAll l ≤ 63) : SeqAt.shaped (.tuple l) = true := by
  simp [SeqAt.shaped, PyData.canLay0, PyData.depth, h]; omega
theorem shaped_lst {l : List PyData} (h : PyData.canLayAll0 l = true) (d : PyData.depthAll l ≤ 63) : SeqAt.shaped (.list l) = true := by
  simp [SeqAt.shaped, PyData.canLay0, PyData.depth, h]; omega
theorem shaped_tint (l : List Int) : SeqAt.shaped (.tuple (l.map PyData.int)) = true :=
  shaped_tup (canLay_map _ (fun _ => by simp [PyData.canLay0]) l) (Nat.le_trans (depth_map _ 0 (fun _ => by simp [PyData.depth]) l) (by decide))
theorem shaped_lint (l : List Int) : SeqAt.shaped (.list (l.map PyData.int)) = true :=
  shaped_lst (canLay_map _ (fun _ => by simp [PyData.canLay0]) l) (Nat.le_trans (depth_map _ 0 (fun _ => by simp [PyData.depth]) l) (by decide))
theorem any_int (l : List Int) (i : Int) : ((l.map PyData.int).any fun z => PyData.eqv z (.int i)) = decide (i ∈ l) := by
  induction l with
  | nil => simp
  | cons x xs ih =>
    rw [List.map_cons, List.any_cons, ih, eqv_int]
    by_cases h : x = i
    · simp [h]
    · have : ¬ i = x := fun e => h e.symm
      simp [h, this]
theorem bIn_of {x y : D} {M : Mp} {Q : D → Mp → Prop} {b : Bool} (h : inAns M x y b) (hx : ∀ b', inAns M x y b' → b' = b) : bIn x y M Q = Q (.bl b) M :=
  propext ⟨fun ⟨b', z, q⟩ => by rw [hx b' z] at q; exact q, fun q => ⟨b, h, q⟩⟩
theorem bNotIn_of {x y : D} {M : Mp} {Q : D → Mp → Prop} {b : Bool} (h : inAns M x y b) (hx : ∀ b', inAns M x y b' → b' = b) : bNotIn x y M Q = Q (.bl (!b)) M :=
  propext ⟨fun ⟨b', z, q⟩ => by rw [hx b' z] at q; exact q, fun q => ⟨b, h, q⟩⟩
theorem in_tint {M : Mp} (i : Int) (l : List Int) : inAns M (.int i) (.tup (l.map D.int)) (decide (i ∈ l)) ∧ ∀ b', inAns M (.int i) (.tup (l.map D.int)) b' → b' = decide (i ∈ l) := by
  have e : toPM M (.tup (l.map D.int)) = some (.tuple (l.map PyData.int)) := by show (toPs _).map _ = _; rw [toPs_ints]; rfl
  refine ⟨.inl ⟨_, _, rfl, .inl ⟨e, shaped_tint l⟩, shaped_int i, (any_int l i).symm⟩, fun b' h => ?_⟩
  rcases h with ⟨p, ps, e1, e2, _, rfl⟩ | ⟨a, b, h, _⟩
  · cases e1
    rcases e2 with ⟨e2, _⟩ | ⟨e2, _⟩
    · rw [e] at e2; cases e2; exact any_int l i
    · rw [e] at e2; cases e2
  · cases h
theorem in_lint {M : Mp} (i : Int) {a : Addr} {l : List Int} (hM : M a = some (.lst (l.map D.int))) : inAns M (.int i) (.ref a) (decide (i ∈ l)) ∧ ∀ b', inAns M (.int i) (.ref a) b' → b' = decide (i ∈ l) := by
  have e : toPM M (.ref a) = some (.list (l.map PyData.int)) := by
    show (match M a with | some (.lst l) => (toPs l).map PyData.list | _ => none) = _
    rw [hM]; show (toPs _).map _ = _; rw [toPs_ints]; rfl
  refine ⟨.inl ⟨_, _, rfl, .inr ⟨e, shaped_lint l⟩, shaped_int i, (any_int l i).symm⟩, fun b' h => ?_⟩
  rcases h with ⟨p, ps, e1, e2, _, rfl⟩ | ⟨a, b, h, _⟩
  · cases e1
    rcases e2 with ⟨e2, _⟩ | ⟨e2, _⟩
    · rw [e] at e2; cases e2
    · rw [e] at e2; cases e2; exact any_int l i
  · cases h
theorem bIn_tint {M : Mp} {i : Int} {l : List Int} {Q : D → Mp → Prop} : bIn (.int i) (.tup (l.map D.int)) M Q = Q (.bl (decide (i ∈ l))) M := bIn_of (in_tint i l).1 (in_tint i l).2
theorem bNotIn_tint {M : Mp} {i : Int} {l : List Int} {Q : D → Mp → Prop} : bNotIn (.int i) (.tup (l.map D.int)) M Q = Q (.bl (!decide (i ∈ l))) M := bNotIn_of (in_tint i l).1 (in_tint i l).2
theorem bIn_lint {M : Mp} {i : Int} {a : Addr} {l : List Int} {Q : D → Mp → Prop} (h : M a = some (.lst (l.map D.int))) : bIn (.int i) (.ref a) M Q = Q (.bl (decide (i ∈ l))) M := bIn_of (in_lint i h).1 (in_lint i h).2
theorem bIn_2 {M : Mp} {i a b : Int} {Q : D → Mp → Prop} : bIn (.int i) (.tup [.int a, .int b]) M Q = Q (.bl (decide (i = a ∨ i = b))) M := by
  have := @bIn_tint M i [a, b] Q
  simpa using this
theorem bNotIn_2 {M : Mp} {i a b : Int} {Q : D → Mp → Prop} : bNotIn (.int i) (.tup [.int a, .int b]) M Q = Q (.bl (!decide (i = a ∨ i = b))) M := by
  have := @bNotIn_tint M i [a, b] Q
  simpa using this
theorem line16 : sizeLine = 16777216 := rfl
/-- == () -/
theorem eqv_tnil (l : List PyData) : PyData.eqv (.tuple l) (.tuple []) = l.isEmpty := by cases l <;> simp [PyData.eqv, PyData.eqvAll]
theorem eqv_lnil (l : List PyData) : PyData.eqv (.list l) (.list []) = l.isEmpty := by cases l <;> simp [PyData.eqv, PyData.eqvAll]
theorem bEq_tnil {l : List D} {ps : List PyData} {M : Mp} {Q : D → Mp → Prop} (h : toPs l = some ps) (s : SeqAt.shaped (.tuple ps) = true) : bEq (.tup l) (.tup []) M Q = Q (.bl ps.isEmpty) M := by
  rw [← eqv_tnil]
  exact bEq_of (by show (toPs l).map _ = _; rw [h]; rfl) rfl s (by decide)
theorem bNe_tnil {l : List D} {ps : List PyData} {M : Mp} {Q : D → Mp → Prop} (h : toPs l = some ps) (s : SeqAt.shaped (.tuple ps) = true) : bNe (.tup l) (.tup []) M Q = Q (.bl (!ps.isEmpty)) M := by
  rw [← eqv_tnil]
  exact bNe_of (by show (toPs l).map _ = _; rw [h]; rfl) rfl s (by decide)
theorem toPM_lst {M : Mp} {a : Addr} {l : List D} {ps : List PyData} (h : M a = some (.lst l)) (e : toPs l = some ps) : toPM M (.ref a) = some (.list ps) := by
  show (match M a with | some (.lst l) => (toPs l).map PyData.list | _ => none) = _
  rw [h]; show (toPs _).map _ = _; rw [e]; rfl
theorem bEq_lnil {a b : Addr} {l : List D} {ps : List PyData} {M : Mp} {Q : D → Mp → Prop} (h : M a = some (.lst l)) (e : toPs l = some ps) (s : SeqAt.shaped (.list ps) = true) (hb : M b = some (.lst [])) : bEq (.ref a) (.ref b) M Q = Q (.bl ps.isEmpty) M := by
  rw [← eqv_lnil]
  exact bEq_of (toPM_lst h e) (toPM_lst hb rfl) s (by decide)
theorem bNe_lnil {a b : Addr} {l : List D} {ps : List PyData} {M : Mp} {Q : D → Mp → Prop} (h : M a = some (.lst l)) (e : toPs l = some ps) (s : SeqAt.shaped (.list ps) = true) (hb : M b = some (.lst [])) : bNe (.ref a) (.ref b) M Q = Q (.bl (!ps.isEmpty)) M := by
  rw [← eqv_lnil]
  exact bNe_of (toPM_lst h e) (toPM_lst hb rfl) s (by decide)
theorem isEmpty_ints {l : List Int} : (l.map PyData.int).isEmpty = l.isEmpty := by cases l <;> rfl
/-! ### kinds -/
theorem kb_ii : kitB "int" "int" = some true := by decide +kernel
theorem kb_ib : kitB "int" "bool" = some false := by decide +kernel
theorem kb_ss : kitB "str" "str" = some true := by decide +kernel
theorem kb_tt : kitB "tuple" "tuple" = some true := by decide +kernel
end DL
namespace DL
open PySem PySem.Spec PyProof.Rows L2
theorem enumD_map {α : Type} (g : α → D) (l : List α) : enumD (l.map g) = l.zipIdx.map fun p => D.tup [.int ((p.2 : Nat) : Int), g p.1] := by
  unfold enumD
  apply List.ext_getElem?
  intro i
  by_cases h : i < l.length
  · simp [List.getElem?_map, List.getElem?_zip_eq_some, h, List.getElem?_eq_getElem, List.getElem_zip]
  · simp [h, List.getElem?_eq_none]
theorem zipIdx_fst {α : Type} (l : List α) : l.zipIdx.map (·.1) = l := by
  apply List.ext_getElem?
  intro i
  simp
theorem Sub.ofPut {M M' : Mp} {a : Addr} {o : MO} (s : Sub M M') (h : M' a = some o) : Sub (DL.put M a o) M' := fun b o' e => by
  by_cases z : b = a
  · subst z; rw [put_same] at e; cases e; exact h
  · rw [put_ne z] at e; exact s b o' e
theorem Sub.get {M M' : Mp} (s : Sub M M') {a : Addr} {o : MO} (h : M a = some o) : M' a = some o := s a o h
theorem Sub.set {M M' : Mp} (s : Sub M M') {a : Addr} {o : MO} (h : M a = Option.none) : Sub M (DL.put M' a o) := s.put h
theorem ne_of {M : Mp} {a b : Addr} {o : MO} (h : M a = some o) (h' : M b = none) : a ≠ b := fun e => by rw [e, h'] at h; cases h
end DL
namespace DL
open PySem PySem.Spec PyProof.Rows L2
/-! ### readings, one step at a time (rewritten from the head) -/
section
variable {E : DEnds} {σ : Sg} {M : Mp} {Q : D → Mp → Prop} {QT : Bool → Mp → Prop} {QA : List D → Mp → Prop} {N : Sg → Mp → Prop} {t u : DS0} {te tf tg : DE0} {c c2 : DT0} {ta : DA0} {b : B2} {bl : BL} {g : DG0} {gs : DGs0} {d x y : D} {ds l : List D}
theorem x_seq : dSeq t u E σ M = t { nx := u E, rt := E.rt, bk := E.bk, ct := E.ct } σ M := rfl
theorem x_next : dNext E σ M = E.nx σ M := rfl
theorem x_ret : dRet te E σ M = te σ M E.rt := rfl
theorem x_retN : dRetN E σ M = E.rt .non M := rfl
theorem x_drop : dDrop te E σ M = te σ M fun _ M1 => E.nx σ M1 := rfl
theorem x_if : dIfS c t u E σ M = c σ M fun k M1 => if k = true then t E σ M1 else u E σ M1 := rfl
theorem x_asg : dAsg te g E σ M = te σ M fun d M1 => g d σ M1 E.nx := rfl
theorem x_false : dFalse E σ M = False := rfl
theorem x_brk : dBreak E σ M = E.bk σ M := rfl
theorem x_cnt : dCont E σ M = E.ct σ M := rfl
theorem x_g0 {v0 : Option D} : dgName 0 d (v0 :: σ) M N = N (some d :: σ) M := rfl
theorem x_v0 : dVar 0 (some d :: σ) M Q = Q d M := rfl
theorem x_g1 {v0 v1 : Option D} : dgName 1 d (v0 :: v1 :: σ) M N = N (v0 :: some d :: σ) M := rfl
theorem x_v1 {v0 : Option D} : dVar 1 (v0 :: some d :: σ) M Q = Q d M := rfl
theorem x_g2 {v0 v1 v2 : Option D} : dgName 2 d (v0 :: v1 :: v2 :: σ) M N = N (v0 :: v1 :: some d :: σ) M := rfl
theorem x_v2 {v0 v1 : Option D} : dVar 2 (v0 :: v1 :: some d :: σ) M Q = Q d M := rfl
theorem x_g3 {v0 v1 v2 v3 : Option D} : dgName 3 d (v0 :: v1 :: v2 :: v3 :: σ) M N = N (v0 :: v1 :: v2 :: some d :: σ) M := rfl
theorem x_v3 {v0 v1 v2 : Option D} : dVar 3 (v0 :: v1 :: v2 :: some d :: σ) M Q = Q d M := rfl
theorem x_g4 {v0 v1 v2 v3 v4 : Option D} : dgName 4 d (v0 :: v1 :: v2 :: v3 :: v4 :: σ) M N = N (v0 :: v1 :: v2 :: v3 :: some d :: σ) M := rfl
theorem x_v4 {v0 v1 v2 v3 : Option D} : dVar 4 (v0 :: v1 :: v2 :: v3 :: some d :: σ) M Q = Q d M := rfl
theorem x_g5 {v0 v1 v2 v3 v4 v5 : Option D} : dgName 5 d (v0 :: v1 :: v2 :: v3 :: v4 :: v5 :: σ) M N = N (v0 :: v1 :: v2 :: v3 :: v4 :: some d :: σ) M := rfl
theorem x_v5 {v0 v1 v2 v3 v4 : Option D} : dVar 5 (v0 :: v1 :: v2 :: v3 :: v4 :: some d :: σ) M Q = Q d M := rfl
theorem x_g6 {v0 v1 v2 v3 v4 v5 v6 : Option D} : dgName 6 d (v0 :: v1 :: v2 :: v3 :: v4 :: v5 :: v6 :: σ) M N = N (v0 :: v1 :: v2 :: v3 :: v4 :: v5 :: some d :: σ) M := rfl
theorem x_v6 {v0 v1 v2 v3 v4 v5 : Option D} : dVar 6 (v0 :: v1 :: v2 :: v3 :: v4 :: v5 :: some d :: σ) M Q = Q d M := rfl
theorem x_g7 {v0 v1 v2 v3 v4 v5 v6 v7 : Option D} : dgName 7 d (v0 :: v1 :: v2 :: v3 :: v4 :: v5 :: v6 :: v7 :: σ) M N = N (v0 :: v1 :: v2 :: v3 :: v4 :: v5 :: v6 :: some d :: σ) M := rfl
theorem x_v7 {v0 v1 v2 v3 v4 v5 v6 : Option D} : dVar 7 (v0 :: v1 :: v2 :: v3 :: v4 :: v5 :: v6 :: some d :: σ) M Q = Q d M := rfl
theorem x_g8 {v0 v1 v2 v3 v4 v5 v6 v7 v8 : Option D} : dgName 8 d (v0 :: v1 :: v2 :: v3 :: v4 :: v5 :: v6 :: v7 :: v8 :: σ) M N = N (v0 :: v1 :: v2 :: v3 :: v4 :: v5 :: v6 :: v7 :: some d :: σ) M := rfl
theorem x_v8 {v0 v1 v2 v3 v4 v5 v6 v7 : Option D} : dVar 8 (v0 :: v1 :: v2 :: v3 :: v4 :: v5 :: v6 :: v7 :: some d :: σ) M Q = Q d M := rfl
theorem x_g9 {v0 v1 v2 v3 v4 v5 v6 v7 v8 v9 : Option D} : dgName 9 d (v0 :: v1 :: v2 :: v3 :: v4 :: v5 :: v6 :: v7 :: v8 :: v9 :: σ) M N = N (v0 :: v1 :: v2 :: v3 :: v4 :: v5 :: v6 :: v7 :: v8 :: some d :: σ) M := rfl
theorem x_v9 {v0 v1 v2 v3 v4 v5 v6 v7 v8 : Option D} : dVar 9 (v0 :: v1 :: v2 :: v3 :: v4 :: v5 :: v6 :: v7 :: v8 :: some d :: σ) M Q = Q d M := rfl
theorem x_g10 {v0 v1 v2 v3 v4 v5 v6 v7 v8 v9 v10 : Option D} : dgName 10 d (v0 :: v1 :: v2 :: v3 :: v4 :: v5 :: v6 :: v7 :: v8 :: v9 :: v10 :: σ) M N = N (v0 :: v1 :: v2 :: v3 :: v4 :: v5 :: v6 :: v7 :: v8 :: v9 :: some d :: σ) M := rfl
theorem x_v10 {v0 v1 v2 v3 v4 v5 v6 v7 v8 v9 : Option D} : dVar 10 (v0 :: v1 :: v2 :: v3 :: v4 :: v5 :: v6 :: v7 :: v8 :: v9 :: some d :: σ) M Q = Q d M := rfl
theorem x_g11 {v0 v1 v2 v3 v4 v5 v6 v7 v8 v9 v10 v11 : Option D} : dgName 11 d (v0 :: v1 :: v2 :: v3 :: v4 :: v5 :: v6 :: v7 :: v8 :: v9 :: v10 :: v11 :: σ) M N = N (v0 :: v1 :: v2 :: v3 :: v4 :: v5 :: v6 :: v7 :: v8 :: v9 :: v10 :: some d :: σ) M := rfl
theorem x_v11 {v0 v1 v2 v3 v4 v5 v6 v7 v8 v9 v10 : Option D} : dVar 11 (v0 :: v1 :: v2 :: v3 :: v4 :: v5 :: v6 :: v7 :: v8 :: v9 :: v10 :: some d :: σ) M Q = Q d M := rfl
theorem x_g12 {v0 v1 v2 v3 v4 v5 v6 v7 v8 v9 v10 v11 v12 : Option D} : dgName 12 d (v0 :: v1 :: v2 :: v3 :: v4 :: v5 :: v6 :: v7 :: v8 :: v9 :: v10 :: v11 :: v12 :: σ) M N = N (v0 :: v1 :: v2 :: v3 :: v4 :: v5 :: v6 :: v7 :: v8 :: v9 :: v10 :: v11 :: some d :: σ) M := rfl
theorem x_v12 {v0 v1 v2 v3 v4 v5 v6 v7 v8 v9 v10 v11 : Option D} : dVar 12 (v0 :: v1 :: v2 :: v3 :: v4 :: v5 :: v6 :: v7 :: v8 :: v9 :: v10 :: v11 :: some d :: σ) M Q = Q d M := rfl
theorem x_g13 {v0 v1 v2 v3 v4 v5 v6 v7 v8 v9 v10 v11 v12 v13 : Option D} : dgName 13 d (v0 :: v1 :: v2 :: v3 :: v4 :: v5 :: v6 :: v7 :: v8 :: v9 :: v10 :: v11 :: v12 :: v13 :: σ) M N = N (v0 :: v1 :: v2 :: v3 :: v4 :: v5 :: v6 :: v7 :: v8 :: v9 :: v10 :: v11 :: v12 :: some d :: σ) M := rfl
theorem x_v13 {v0 v1 v2 v3 v4 v5 v6 v7 v8 v9 v10 v11 v12 : Option D} : dVar 13 (v0 :: v1 :: v2 :: v3 :: v4 :: v5 :: v6 :: v7 :: v8 :: v9 :: v10 :: v11 :: v12 :: some d :: σ) M Q = Q d M := rfl
theorem x_g14 {v0 v1 v2 v3 v4 v5 v6 v7 v8 v9 v10 v11 v12 v13 v14 : Option D} : dgName 14 d (v0 :: v1 :: v2 :: v3 :: v4 :: v5 :: v6 :: v7 :: v8 :: v9 :: v10 :: v11 :: v12 :: v13 :: v14 :: σ) M N = N (v0 :: v1 :: v2 :: v3 :: v4 :: v5 :: v6 :: v7 :: v8 :: v9 :: v10 :: v11 :: v12 :: v13 :: some d :: σ) M := rfl
theorem x_v14 {v0 v1 v2 v3 v4 v5 v6 v7 v8 v9 v10 v11 v12 v13 : Option D} : dVar 14 (v0 :: v1 :: v2 :: v3 :: v4 :: v5 :: v6 :: v7 :: v8 :: v9 :: v10 :: v11 :: v12 :: v13 :: some d :: σ) M Q = Q d M := rfl
theorem x_g15 {v0 v1 v2 v3 v4 v5 v6 v7 v8 v9 v10 v11 v12 v13 v14 v15 : Option D} : dgName 15 d (v0 :: v1 :: v2 :: v3 :: v4 :: v5 :: v6 :: v7 :: v8 :: v9 :: v10 :: v11 :: v12 :: v13 :: v14 :: v15 :: σ) M N = N (v0 :: v1 :: v2 :: v3 :: v4 :: v5 :: v6 :: v7 :: v8 :: v9 :: v10 :: v11 :: v12 :: v13 :: v14 :: some d :: σ) M := rfl
theorem x_v15 {v0 v1 v2 v3 v4 v5 v6 v7 v8 v9 v10 v11 v12 v13 v14 : Option D} : dVar 15 (v0 :: v1 :: v2 :: v3 :: v4 :: v5 :: v6 :: v7 :: v8 :: v9 :: v10 :: v11 :: v12 :: v13 :: v14 :: some d :: σ) M Q = Q d M := rfl
theorem x_g16 {v0 v1 v2 v3 v4 v5 v6 v7 v8 v9 v10 v11 v12 v13 v14 v15 v16 : Option D} : dgName 16 d (v0 :: v1 :: v2 :: v3 :: v4 :: v5 :: v6 :: v7 :: v8 :: v9 :: v10 :: v11 :: v12 :: v13 :: v14 :: v15 :: v16 :: σ) M N = N (v0 :: v1 :: v2 :: v3 :: v4 :: v5 :: v6 :: v7 :: v8 :: v9 :: v10 :: v11 :: v12 :: v13 :: v14 :: v15 :: some d :: σ) M := rfl
theorem x_v16 {v0 v1 v2 v3 v4 v5 v6 v7 v8 v9 v10 v11 v12 v13 v14 v15 : Option D} : dVar 16 (v0 :: v1 :: v2 :: v3 :: v4 :: v5 :: v6 :: v7 :: v8 :: v9 :: v10 :: v11 :: v12 :: v13 :: v14 :: v15 :: some d :: σ) M Q = Q d M := rfl
theorem x_g17 {v0 v1 v2 v3 v4 v5 v6 v7 v8 v9 v10 v11 v12 v13 v14 v15 v16 v17 : Option D} : dgName 17 d (v0 :: v1 :: v2 :: v3 :: v4 :: v5 :: v6 :: v7 :: v8 :: v9 :: v10 :: v11 :: v12 :: v13 :: v14 :: v15 :: v16 :: v17 :: σ) M N = N (v0 :: v1 :: v2 :: v3 :: v4 :: v5 :: v6 :: v7 :: v8 :: v9 :: v10 :: v11 :: v12 :: v13 :: v14 :: v15 :: v16 :: some d :: σ) M := rfl
theorem x_v17 {v0 v1 v2 v3 v4 v5 v6 v7 v8 v9 v10 v11 v12 v13 v14 v15 v16 : Option D} : dVar 17 (v0 :: v1 :: v2 :: v3 :: v4 :: v5 :: v6 :: v7 :: v8 :: v9 :: v10 :: v11 :: v12 :: v13 :: v14 :: v15 :: v16 :: some d :: σ) M Q = Q d M := rfl
theorem x_g18 {v0 v1 v2 v3 v4 v5 v6 v7 v8 v9 v10 v11 v12 v13 v14 v15 v16 v17 v18 : Option D} : dgName 18 d (v0 :: v1 :: v2 :: v3 :: v4 :: v5 :: v6 :: v7 :: v8 :: v9 :: v10 :: v11 :: v12 :: v13 :: v14 :: v15 :: v16 :: v17 :: v18 :: σ) M N = N (v0 :: v1 :: v2 :: v3 :: v4 :: v5 :: v6 :: v7 :: v8 :: v9 :: v10 :: v11 :: v12 :: v13 :: v14 :: v15 :: v16 :: v17 :: some d :: σ) M := rfl
theorem x_v18 {v0 v1 v2 v3 v4 v5 v6 v7 v8 v9 v10 v11 v12 v13 v14 v15 v16 v17 : Option D} : dVar 18 (v0 :: v1 :: v2 :: v3 :: v4 :: v5 :: v6 :: v7 :: v8 :: v9 :: v10 :: v11 :: v12 :: v13 :: v14 :: v15 :: v16 :: v17 :: some d :: σ) M Q = Q d M := rfl
theorem x_g19 {v0 v1 v2 v3 v4 v5 v6 v7 v8 v9 v10 v11 v12 v13 v14 v15 v16 v17 v18 v19 : Option D} : dgName 19 d (v0 :: v1 :: v2 :: v3 :: v4 :: v5 :: v6 :: v7 :: v8 :: v9 :: v10 :: v11 :: v12 :: v13 :: v14 :: v15 :: v16 :: v17 :: v18 :: v19 :: σ) M N = N (v0 :: v1 :: v2 :: v3 :: v4 :: v5 :: v6 :: v7 :: v8 :: v9 :: v10 :: v11 :: v12 :: v13 :: v14 :: v15 :: v16 :: v17 :: v18 :: some d :: σ) M := rfl
theorem x_v19 {v0 v1 v2 v3 v4 v5 v6 v7 v8 v9 v10 v11 v12 v13 v14 v15 v16 v17 v18 : Option D} : dVar 19 (v0 :: v1 :: v2 :: v3 :: v4 :: v5 :: v6 :: v7 :: v8 :: v9 :: v10 :: v11 :: v12 :: v13 :: v14 :: v15 :: v16 :: v17 :: v18 :: some d :: σ) M Q = Q d M := rfl
theorem x_gt2 {w0 w1 : D} : dgTup 2 gs (.tup [w0, w1]) σ M N = gs [w0, w1] σ M N := propext ⟨fun h => h.2, fun h => ⟨rfl, h⟩⟩
theorem x_gt3 {w0 w1 w2 : D} : dgTup 3 gs (.tup [w0, w1, w2]) σ M N = gs [w0, w1, w2] σ M N := propext ⟨fun h => h.2, fun h => ⟨rfl, h⟩⟩
theorem x_gt4 {w0 w1 w2 w3 : D} : dgTup 4 gs (.tup [w0, w1, w2, w3]) σ M N = gs [w0, w1, w2, w3] σ M N := propext ⟨fun h => h.2, fun h => ⟨rfl, h⟩⟩
theorem x_gt5 {w0 w1 w2 w3 w4 : D} : dgTup 5 gs (.tup [w0, w1, w2, w3, w4]) σ M N = gs [w0, w1, w2, w3, w4] σ M N := propext ⟨fun h => h.2, fun h => ⟨rfl, h⟩⟩
theorem x_gt6 {w0 w1 w2 w3 w4 w5 : D} : dgTup 6 gs (.tup [w0, w1, w2, w3, w4, w5]) σ M N = gs [w0, w1, w2, w3, w4, w5] σ M N := propext ⟨fun h => h.2, fun h => ⟨rfl, h⟩⟩
theorem x_gc : dgCons g gs (d :: ds) σ M N = g d σ M fun σ1 M1 => gs ds σ1 M1 N := rfl
theorem x_gn : dgNil [] σ M N = N σ M := propext ⟨fun h => h.2, fun h => ⟨rfl, h⟩⟩
def par2 (i j : Nat) (N : Sg → Mp → Prop) (σ : Sg) (M : Mp) : List D → Prop
  | [a, b] => dgName i a σ M fun σ1 M1 => dgName j b σ1 M1 N
  | _ => False
def par3 (i j k : Nat) (N : Sg → Mp → Prop) (σ : Sg) (M : Mp) : List D → Prop
  | [a, b, c] => dgName i a σ M fun σ1 M1 => dgName j b σ1 M1 fun σ2 M2 => dgName k c σ2 M2 N
  | _ => False
theorem x_par2 {i j : Nat} : dPar [i, j] ta E σ M = ta σ M fun ds M1 => par2 i j E.nx σ M1 ds := by
  unfold dPar
  congr; funext ds M1
  match ds with
  | [] => simp [par2]
  | [_] => simp [par2]
  | [_, _] => simp [par2, dgName]
  | _ :: _ :: _ :: _ => simp [par2]
theorem x_p2 {i j : Nat} {v w : D} : par2 i j N σ M [v, w] = dgName i v σ M fun σ1 M1 => dgName j w σ1 M1 N := rfl
theorem x_par3 {i j k : Nat} : dPar [i, j, k] ta E σ M = ta σ M fun ds M1 => par3 i j k E.nx σ M1 ds := by
  unfold dPar
  congr; funext ds M1
  match ds with
  | [] => simp [par3]
  | [_] => simp [par3]
  | [_, _] => simp [par3]
  | [_, _, _] => simp [par3, dgName]
  | _ :: _ :: _ :: _ :: _ => simp [par3]
theorem x_p3 {i j k : Nat} {v w z : D} : par3 i j k N σ M [v, w, z] = dgName i v σ M fun σ1 M1 => dgName j w σ1 M1 fun σ2 M2 => dgName k z σ2 M2 N := rfl
theorem x_C : dC d σ M Q = Q d M := rfl
theorem x_op : dOp b te tf σ M Q = te σ M fun x M1 => tf σ M1 fun y M2 => b x y M2 Q := rfl
theorem x_test : dTest te σ M QT = te σ M fun x M1 => match x with | .bl k => QT k M1 | _ => False := rfl
theorem x_chain {b2 : B2} : dChain b b2 te tf tg σ M Q = te σ M fun x M1 => tf σ M1 fun y M2 => b x y M2 fun z M3 => match z with | .bl k => if k = true then tg σ M3 fun v M4 => b2 y v M4 Q else Q (.bl false) M3 | _ => False := rfl
theorem x_andT : dAndT c c2 σ M QT = c σ M fun k M1 => if k = true then c2 σ M1 QT else QT false M1 := rfl
theorem x_orT : dOrT c c2 σ M QT = c σ M fun k M1 => if k = true then QT true M1 else c2 σ M1 QT := rfl
theorem x_notT : dNotT c σ M QT = c σ M fun k M1 => QT (!k) M1 := rfl
theorem x_ifE : dIf c te tf σ M Q = c σ M fun k M1 => if k = true then te σ M1 Q else tf σ M1 Q := rfl
theorem x_andV : dAndV te tf σ M Q = te σ M fun x M1 => match x with | .bl k => if k = true then tf σ M1 Q else Q (.bl false) M1 | _ => False := rfl
theorem x_orV : dOrV te tf σ M Q = te σ M fun x M1 => match x with | .bl k => if k = true then Q (.bl true) M1 else tf σ M1 Q | _ => False := rfl
theorem x_notV : dNotV te σ M Q = te σ M fun x M1 => match x with | .bl k => Q (.bl (!k)) M1 | _ => False := rfl
theorem x_nil : dNil σ M QA = QA [] M := rfl
theorem x_cons : dCons te ta σ M QA = te σ M fun x M1 => ta σ M1 fun xs M2 => QA (x :: xs) M2 := rfl
theorem x_star : dStar te ta σ M QA = te σ M fun x M1 => match x with | .tup l => ta σ M1 fun xs M2 => QA (l ++ xs) M2 | _ => False := rfl
theorem x_tup : dTup ta σ M Q = ta σ M fun xs M1 => xs.length ≤ sizeLine ∧ Q (.tup xs) M1 := rfl
theorem x_lst : dLst ta σ M Q = ta σ M fun xs M1 => xs.length ≤ sizeLine ∧ ∀ p, M1 p = none → Q (.ref p) (put M1 p (.lst xs)) := rfl
theorem x_callB : dCallB bl ta σ M Q = ta σ M fun xs M1 => bl xs M1 Q := rfl
theorem x_call {sp : DSp} {X : DX} : dCall sp X ta σ M Q = ta σ M fun ds M1 => sp ds M1 Q X := rfl
theorem x_callK {sp : DSp} {X : DX} : dCallK sp X (fun l => l) ta σ M Q = ta σ M fun ds M1 => sp ds M1 Q X := rfl
theorem x_meth {sp : DSp} {X : DX} {C : Addr} {m : Str} : dMeth C m sp X te ta σ M Q = te σ M fun x M1 => match x with | .ref a => ∃ fs, M1 a = some (.ins C fs) ∧ fs.lookup m = none ∧ ta σ M1 fun ds M2 => sp (.ref a :: ds) M2 Q X | _ => False := rfl
theorem x_make {sp : DSp} {X : DX} {C : Addr} : dMake C sp X ta σ M Q = ta σ M fun ds M1 => ∀ x, M1 x = none → sp (.ref x :: ds) (put M1 x (.ins C [])) (fun v M1 => isNon v = true ∧ Q (.ref x) M1) X := rfl
theorem x_fld {C : Addr} {f : Str} : dFld C f te σ M Q = te σ M fun x M1 => match x with | .ref a => ∃ fs d, M1 a = some (.ins C fs) ∧ fs.lookup f = some d ∧ Q d M1 | _ => False := rfl
theorem x_fldS {C : Addr} {f : Str} : dFldS C f te tf E σ M = tf σ M fun y M1 => te σ M1 fun x M2 => match x with | .ref a => ∃ fs, M2 a = some (.ins C fs) ∧ fs.length < 1000 ∧ E.nx σ (put M2 a (.ins C (putFD f y fs))) | _ => False := rfl
theorem x_bm0 {T : String} {m : BM} : dBM0 T m te σ M Q = te σ M fun x M1 => dTy T x M1 ∧ m x [] M1 Q := rfl
theorem x_bm {T : String} {m : BM} : dBM T m te ta σ M Q = te σ M fun x M1 => dTy T x M1 ∧ ta σ M1 fun xs M2 => m x xs M2 Q := rfl
theorem x_sl {tl th : DO0} : dSl te tl th σ M Q = te σ M fun x M1 => tl σ M1 fun l M2 => th σ M2 fun u M3 => bSl x l u M3 Q := rfl
theorem x_nop {QO : Option Int → Mp → Prop} : dNoPart σ M QO = QO none M := rfl
theorem x_prt {QO : Option Int → Mp → Prop} : dPart te σ M QO = te σ M fun x M1 => match x with | .int i => QO (some i) M1 | _ => False := rfl
theorem x_neg : dNeg te σ M Q = te σ M fun x M1 => match x with | .int i => Q (.int (-i)) M1 | _ => False := rfl
theorem x_revL : dRevL te σ M Q = te σ M fun x M1 => match x with | .ref a => (match M1 a with | some (.lst l) => ∀ p, M1 p = none → Q (.ref p) (put M1 p (.lst l.reverse)) | _ => False) | _ => False := rfl
theorem x_lc {ti : DI0} {vs : List Nat} : dLc ti g c te vs σ M Q = ti σ M fun items G M1 => lcG items G M1 g c te vs σ Q := rfl
theorem x_for {ti : DI0} : dFor ti g t E σ M = ti σ M fun items G M1 => forG items G M1 g t E σ := rfl
theorem x_diSeq {QI : List D → (Mp → Prop) → Mp → Prop} : diSeq te σ M QI = te σ M fun x M1 => match x with
  | .tup l => QI l (fun _ => True) M1
  | .fro l => QI l (fun _ => True) M1
  | .ref a => match M1 a with
    | some (.lst l) => QI l (fun M' => M' a = some (.lst l)) M1
    | _ => False
  | _ => False := rfl
theorem x_diEnum {QI : List D → (Mp → Prop) → Mp → Prop} : diEnum ta σ M QI = ta σ M fun ds M1 => match ds with
  | [.tup l] => QI (enumD l) (fun _ => True) M1
  | [.fro l] => QI (enumD l) (fun _ => True) M1
  | [.ref a] => match M1 a with
    | some (.lst l) => QI (enumD l) (fun M' => M' a = some (.lst l)) M1
    | _ => False
  | _ => False := rfl
theorem x_rng1 {QI : List D → (Mp → Prop) → Mp → Prop} : diRng1 ta σ M QI = ta σ M fun ds M1 => match ds with
  | [.int n] => -(2 ^ 62) ≤ n ∧ n < 2 ^ 62 ∧ QI (rngD 0 n.toNat) (fun _ => True) M1
  | _ => False := rfl
theorem y_addi {i j : Int} : bAdd (.int i) (.int j) M Q = Q (.int (i + j)) M := rfl
theorem y_adds {i j : Str} : bAdd (.str i) (.str j) M Q = (i.length + j.length ≤ sizeLine ∧ Q (.str (i ++ j)) M) := rfl
theorem y_addt {l2 : List D} : bAdd (.tup l) (.tup l2) M Q = (l.length + l2.length ≤ sizeLine ∧ Q (.tup (l ++ l2)) M) := rfl
theorem y_int {g : Int → Int → D} {i j : Int} : bInt g (.int i) (.int j) M Q = Q (g i j) M := rfl
theorem y_intC {C : Int → Int → Prop} {g : Int → Int → Int} {i j : Int} : bIntC C g (.int i) (.int j) M Q = (C i j ∧ Q (.int (g i j)) M) := rfl
theorem y_is : bIs x .non M Q = Q (.bl (isNon x)) M := rfl
theorem y_isn : bIsNot x .non M Q = Q (.bl (!isNon x)) M := rfl
theorem y_nnon : isNon (.non) = true := rfl
theorem y_nbl {z : Bool} : isNon (.bl z) = false := rfl
theorem y_nint {z : Int} : isNon (.int z) = false := rfl
theorem y_nstr {z : Str} : isNon (.str z) = false := rfl
theorem y_ntup {z : List D} : isNon (.tup z) = false := rfl
theorem y_nref {z : Addr} : isNon (.ref z) = false := rfl
theorem y_t0 {a0 : D} : bIx (.tup (a0 :: l)) (.int 0) M Q = Q a0 M := by show (∃ d, atI _ _ = some d ∧ Q d M) = _; rw [atI_0]; simp
theorem y_t1 {a0 a1 : D} : bIx (.tup (a0 :: a1 :: l)) (.int 1) M Q = Q a1 M := by show (∃ d, atI _ _ = some d ∧ Q d M) = _; rw [atI_1]; simp
theorem y_t2 {a0 a1 a2 : D} : bIx (.tup (a0 :: a1 :: a2 :: l)) (.int 2) M Q = Q a2 M := by show (∃ d, atI _ _ = some d ∧ Q d M) = _; rw [atI_2]; simp
theorem y_t3 {a0 a1 a2 a3 : D} : bIx (.tup (a0 :: a1 :: a2 :: a3 :: l)) (.int 3) M Q = Q a3 M := by show (∃ d, atI _ _ = some d ∧ Q d M) = _; rw [atI_3]; simp
theorem y_m2 {a0 a1 : D} : bIx (.tup [a0, a1]) (.int (-1)) M Q = Q a1 M := by show (∃ d, atI _ _ = some d ∧ Q d M) = _; rw [atI_m1]; simp
theorem y_m3 {a0 a1 a2 : D} : bIx (.tup [a0, a1, a2]) (.int (-1)) M Q = Q a2 M := by show (∃ d, atI _ _ = some d ∧ Q d M) = _; rw [atI_m1']; simp
theorem y_len0 : bLen [.tup []] M Q = Q (.int 0) M := rfl
theorem y_len1 {a0 : D} : bLen [.tup [a0]] M Q = Q (.int 1) M := rfl
theorem y_len2 {a0 a1 : D} : bLen [.tup [a0, a1]] M Q = Q (.int 2) M := rfl
theorem y_len3 {a0 a1 a2 : D} : bLen [.tup [a0, a1, a2]] M Q = Q (.int 3) M := rfl
theorem y_len : bLen [.tup l] M Q = Q (.int l.length) M := rfl
theorem y_lenS {z : Str} : bLen [.str z] M Q = (z.length ≤ sizeLine ∧ Q (.int z.length) M) := rfl
theorem y_itt : bIsi [.tup l, .ty "tuple"] M Q = Q (.bl true) M := by simp [bIsi, tyName, kb_tt]
theorem y_iss {z : Str} : bIsi [.str z, .ty "str"] M Q = Q (.bl true) M := by simp [bIsi, tyName, kb_ss]
theorem y_iii {z : Int} : bIsi [.int z, .ty "int"] M Q = Q (.bl true) M := by simp [bIsi, tyName, kb_ii]
theorem y_iib {z : Int} : bIsi [.int z, .ty "bool"] M Q = Q (.bl false) M := by simp [bIsi, tyName, kb_ib]
theorem y_i1 {i : Int} : bInt1 [.int i] M Q = Q (.int i) M := rfl
theorem y_i1b {k : Bool} : bInt1 [.bl k] M Q = Q (.int (if k then 1 else 0)) M := rfl
theorem y_abs {i : Int} : bAbs [.int i] M Q = Q (.int (if i < 0 then -i else i)) M := rfl
theorem y_strI {i : Int} : bStrI [.int i] M Q = (i.natAbs.log2 < 1920 ∧ Q (.str (toString i)) M) := rfl
theorem y_slt {lo hi : Option Int} : bSl (.tup l) lo hi M Q = Q (.tup (cutL l lo hi)) M := rfl
theorem y_sls {z : Str} {lo hi : Option Int} : bSl (.str z) lo hi M Q = (z.length ≤ sizeLine ∧ Q (.str (cutS z lo hi)) M) := rfl
theorem y_tys {z : Str} : dTy "str" (.str z) M = True := by simp [dTy]
theorem y_tyl {a : Addr} (h : M a = some (.lst l)) : dTy "list" (.ref a) M = True := by simp [dTy, h]
theorem y_app {a : Addr} (h : M a = some (.lst l)) : bAppend (.ref a) [x] M Q = (l.length < sizeLine ∧ Q .non (put M a (.lst (l ++ [x])))) :=
  propext ⟨fun ⟨l', e, q⟩ => by rw [h] at e; cases e; exact q, fun q => ⟨l, h, q⟩⟩
theorem y_ixl {a : Addr} {i : Int} (h : M a = some (.lst l)) : bIx (.ref a) (.int i) M Q = ∃ d, atI l i = some d ∧ Q d M := by
  show (match M a with | some (.lst l) => _ | some (.dk kvs) => _ | _ => False) = _
  rw [h]
theorem y_ixd {a : Addr} {s : Str} {kvs : List (Key × D)} (h : M a = some (.dk kvs)) : bIx (.ref a) (.str s) M Q = ∃ d, valD kvs (.inr s) = some d ∧ Q d M := by
  show (match M a with | some (.lst l) => _ | some (.dk kvs) => _ | _ => False) = _
  rw [h]
  simp [keyOf]
theorem y_gsd {a : Addr} {s : Str} {kvs : List (Key × D)} : dgSub te tf d σ M N = te σ M fun o M1 => tf σ M1 fun y M2 => dgSub (dC o) (dC y) d σ M2 N := rfl
theorem y_gs0 : dgSub (dVar 0) tf d (some x :: σ) M N = dgSub (dC x) tf d (some x :: σ) M N := rfl
theorem y_gs1 {v0 : Option D} : dgSub (dVar 1) tf d (v0 :: some x :: σ) M N = dgSub (dC x) tf d (v0 :: some x :: σ) M N := rfl
theorem y_gs2 {v0 v1 : Option D} : dgSub (dVar 2) tf d (v0 :: v1 :: some x :: σ) M N = dgSub (dC x) tf d (v0 :: v1 :: some x :: σ) M N := rfl
theorem y_gs3 {v0 v1 v2 : Option D} : dgSub (dVar 3) tf d (v0 :: v1 :: v2 :: some x :: σ) M N = dgSub (dC x) tf d (v0 :: v1 :: v2 :: some x :: σ) M N := rfl
theorem y_gs4 {v0 v1 v2 v3 : Option D} : dgSub (dVar 4) tf d (v0 :: v1 :: v2 :: v3 :: some x :: σ) M N = dgSub (dC x) tf d (v0 :: v1 :: v2 :: v3 :: some x :: σ) M N := rfl
theorem y_gs5 {v0 v1 v2 v3 v4 : Option D} : dgSub (dVar 5) tf d (v0 :: v1 :: v2 :: v3 :: v4 :: some x :: σ) M N = dgSub (dC x) tf d (v0 :: v1 :: v2 :: v3 :: v4 :: some x :: σ) M N := rfl
theorem y_gs6 {v0 v1 v2 v3 v4 v5 : Option D} : dgSub (dVar 6) tf d (v0 :: v1 :: v2 :: v3 :: v4 :: v5 :: some x :: σ) M N = dgSub (dC x) tf d (v0 :: v1 :: v2 :: v3 :: v4 :: v5 :: some x :: σ) M N := rfl
theorem y_gs7 {v0 v1 v2 v3 v4 v5 v6 : Option D} : dgSub (dVar 7) tf d (v0 :: v1 :: v2 :: v3 :: v4 :: v5 :: v6 :: some x :: σ) M N = dgSub (dC x) tf d (v0 :: v1 :: v2 :: v3 :: v4 :: v5 :: v6 :: some x :: σ) M N := rfl
end
end DL
namespace DL
open PySem PySem.Spec PyProof.Rows L2
theorem lcG_mapA {α : Type} (l : List α) (gI f : α → D) {items : List D} {G : Mp → Prop} {M1 : Mp} {g : DG0} {te : DE0} {vs : List Nat} {σ : Sg} {Q : D → Mp → Prop} (he : items = l.map gI) (hG : ∀ p l, M1 p = none → G (put M1 p (.lst l))) (hl : l.length ≤ 16777216)
    (step : ∀ x ∈ l, ∀ M', Sub M1 M' → ∀ R : D → Mp → Prop, R (f x) M' → g (gI x) (wipeD σ vs) M' fun σ2 M2 => te σ2 M2 R)
    (fin : ∀ p, M1 p = none → Q (.ref p) (put M1 p (.lst (l.map f)))) : lcG items G M1 g dYes te vs σ Q := fun p hp => by
  subst he
  refine ⟨fun i M => i ≤ l.length ∧ M = put M1 p (.lst ((l.take i).map f)), ⟨Nat.zero_le _, rfl⟩, fun i M h => by rw [h.2]; exact hG p _ hp, ?_, ?_⟩
  rotate_left
  · rintro M ⟨_, hM⟩
    rw [hM, List.length_map, List.take_length]; exact fin p hp
  rintro i x M hx ⟨hi, hM⟩
  subst hM
  rw [List.getElem?_map] at hx
  cases e : l[i]? with
  | none => rw [e] at hx; cases hx
  | some y =>
    rw [e] at hx; cases hx
    have hlt : i < l.length := (List.getElem?_eq_some_iff.mp e).1
    refine step y (List.mem_of_getElem? e) _ (Sub.putNew hp) _ ?_
    refine ⟨_, put_same, by simp; have : sizeLine = 16777216 := rfl; omega, hlt, ?_⟩
    rw [put_put, List.take_succ, e]
    simp
end DL
namespace DL
open PySem PySem.Spec PyProof.Rows L2
theorem forG_A {α : Type} (l : List α) (gI : α → D) {items : List D} {G : Mp → Prop} {M1 : Mp} {g : DG0} {tb : DS0} {E : DEnds} {σ : Sg} (he : items = l.map gI) (I : Nat → Sg → Mp → Prop) (h0 : I 0 σ M1) (hG : ∀ i σ M, I i σ M → G M)
    (step : ∀ i x σ M, l[i]? = some x → I i σ M → g (gI x) σ M fun σ2 M2 => tb { nx := I (i + 1), rt := E.rt, bk := E.nx, ct := I (i + 1) } σ2 M2) (fin : ∀ σ M, I l.length σ M → E.nx σ M) : forG items G M1 g tb E σ := by
  subst he
  refine ⟨I, h0, hG, fun i x σ M hx hI => ?_, fun σ M hI => fin σ M (by rwa [List.length_map] at hI)⟩
  rw [List.getElem?_map] at hx
  cases e : l[i]? with
  | none => rw [e] at hx; cases hx
  | some y => rw [e] at hx; cases hx; exact step i y σ M e hI
end DL
namespace DL
open PySem PySem.Spec PyProof.Rows L2
/-- between two statements -/
theorem seq_cut {t u : DS0} {E : DEnds} {σ : Sg} {M : Mp} (I : Sg → Mp → Prop) (h1 : ∀ N : Sg → Mp → Prop, (∀ σ M, I σ M → N σ M) → t { nx := N, rt := E.rt, bk := E.bk, ct := E.ct } σ M) (h2 : ∀ σ M, I σ M → u E σ M) : dSeq t u E σ M := h1 (u E) h2
end DL
namespace DL
open PySem PySem.Spec PyProof.Rows L2 HT
section
variable {prog : Program} {w : World} {A : Around} {E : Value → Shared → Prop} {s : Shared}
theorem rev_adjust (n : Nat) : Builtin.Slice.sliceAdjust none none (-1) (n : Int) = ((n : Int) - 1, -1) := by
  unfold Builtin.Slice.sliceAdjust
  rfl
theorem rev_places (n : Nat) : Builtin.Slice.slicePlaces ((n : Int) - 1) (-1) (-1) = n := by
  unfold Builtin.Slice.slicePlaces
  have h1 : ¬ ((-1 : Int) > 0) := by omega
  have h2 : (- (-1) : Int) = 1 := by omega
  simp only [h1, if_false, h2, Int.ediv_one]
  split <;> omega
theorem rev_pick (xs : Array Value) : ((List.range xs.size).filterMap fun (k : Nat) => xs[(((xs.size : Int) - 1) + (k : Int) * (-1)).toNat]?).toArray = xs.toList.reverse.toArray := by
  have e : (List.range xs.size).filterMap (fun (k : Nat) => xs[(((xs.size : Int) - 1) + (k : Int) * (-1)).toNat]?) = ((List.range xs.size).map fun k => xs.size - 1 - k).filterMap (xs[·]?) := by
    rw [List.filterMap_map]
    have cg : ∀ (l : List Nat) (f g : Nat → Option Value), (∀ k ∈ l, f k = g k) → l.filterMap f = l.filterMap g := fun l f g h => by
      induction l with
      | nil => rfl
      | cons x xs ih => rw [List.filterMap_cons, List.filterMap_cons, h x List.mem_cons_self, ih fun k hk => h k (List.mem_cons_of_mem _ hk)]
    apply cg
    intro k hk
    have := List.mem_range.mp hk
    have : (((xs.size : Int) - 1) + (k : Int) * (-1)).toNat = xs.size - 1 - k := by omega
    rw [this]; rfl
  rw [e, PySem.W.krv_range, List.filterMap_reverse, PySem.W.krv_all]
theorem sliceApplied_rev {sl : Addr} {vl vu vs : Value} {n : Nat} {Q : Int × Int × Nat → Shared → Prop} (hs : s.heap.IsSliceOf sl vl vu vs) (pl : IsPart vl none) (pu : IsPart vu none) (ps : IsPart vs (some (-1)))
    (h : Q ((n : Int) - 1, -1, n) s) : wpAny (model prog w) A (Builtin.Slice.sliceApplied (.ref sl) (pure (n : Int))) Q E s := by
  obtain ⟨os, hos, hcs, hds⟩ := id hs
  unfold Builtin.Slice.sliceApplied Builtin.Slice.sliceFields
  refine wpAny_bind (wpAny_bind (wpAny_field hos hds (x := vl) rfl (wpAny_bind (wpAny_field hos hds (x := vu) rfl (wpAny_bind (wpAny_field hos hds (x := vs) rfl (wpAny_pure ?_)))))))
  refine wpAny_bind (slicePart_ ps ?_)
  show wpAny _ _ (if ((-1 : Int) == 0) = true then _ else _) _ _ s
  rw [if_neg (by decide)]
  refine wpAny_bind (slicePart_ pl (wpAny_bind (slicePart_ pu (wpAny_bind (wpAny_pure ?_)))))
  show wpAny _ _ (match Builtin.Slice.sliceAdjust none none (-1) (n : Int) with | (lo, hi) => pure (lo, (-1 : Int), Builtin.Slice.slicePlaces lo hi (-1))) _ _ s
  rw [rev_adjust]
  show wpAny _ _ (pure ((n : Int) - 1, (-1 : Int), Builtin.Slice.slicePlaces ((n : Int) - 1) (-1) (-1))) _ _ s
  rw [rev_places]
  exact wpAny_pure h
theorem getItem_tuple_rev {t sl : Addr} {items : Array Value} {vl vu vs : Value} {Q : Value → Shared → Prop} (ht : IsTup s.heap t items) (hs : s.heap.IsSliceOf sl vl vu vs) (pl : IsPart vl none) (pu : IsPart vu none) (ps : IsPart vs (some (-1)))
    (h : Q (.ref s.heap.objs.size) { s with heap := s.heap.push { cls := .type "tuple", data := .seq items.toList.reverse.toArray } })
    (hsz : items.size ≤ sizeLine) : wpAny (model prog w) A (getItem (.ref t) (.ref sl)) Q E s := by
  have htake : sizeOk (.seq items.toList.reverse.toArray) := by
    show items.toList.reverse.toArray.size ≤ sizeLine
    rw [List.size_toArray, List.length_reverse, Array.length_toList]
    exact hsz
  obtain ⟨os, hos, hcs, hds⟩ := id hs
  have hTs : s.TypeIs (.ref sl) "slice" := ⟨os, hos, hcs⟩
  unfold getItem
  try with_reducible refine wpAny_holding ?_
  first | refine wpAny_bind (wpAny_pure ?_) | skip
  refine wpAny_bind (wpAny_sequenceKey ht.typeIs (by decide) ?_)
  refine wpAny_bind (wpAny_callSpecial?_slot (name := Str.ofString "__getitem__") ht.typeIs PyProof.Rows.slot_tuple_getitem
    (wpAny_call_entry PyProof.Rows.slot_tuple_getitem ht.typeIs entry_tuple_getitem ?_ (args_tuple_getitem _ _)))
  show wpAny _ _ (Builtin.Tuple.tupleItemsOf (.ref t) >>= _) _ _ s
  refine wpAny_bind (tupleItemsOf_ ht ?_)
  refine wpAny_bind (wpAny_typeOf hTs ?_)
  rw [if_pos (by decide)]
  refine wpAny_bind (sliceApplied_rev hs pl pu ps ?_)
  have hno : ¬ (((((items.size : Int) - 1)) == 0 && (-1 : Int) == 1 && items.size == items.size) = true) := by
    intro q
    rw [Bool.and_eq_true, Bool.and_eq_true] at q
    exact absurd q.1.2 (by decide)
  show wpAny _ _ (if (((items.size : Int) - 1) == 0 && (-1 : Int) == 1 && items.size == items.size) = true then _ else _) _ _ s
  rw [if_neg hno, rev_pick]
  first
    | exact wpAny_bind (m := Builtin.Tuple.tupleExact _) (wpAny_newObj_type (wpAny_pure ⟨_, rfl, wpAny_pure h⟩) htake)
    | exact wpAny_bind (m := Builtin.Tuple.tupleExact _) (wpAny_newObj_type (wpAny_bind (wpAny_pure (wpAny_pure ⟨_, rfl, wpAny_pure h⟩))) htake)
    | exact wpAny_bind (wpAny_bind (m := Builtin.Tuple.tupleExact _) (wpAny_newObj_type (wpAny_pure (wpAny_pure ⟨_, rfl, wpAny_pure h⟩)) htake))
    | exact wpAny_bind (wpAny_bind (m := Builtin.Tuple.tupleExact _) (wpAny_newObj_type (wpAny_pure ⟨_, rfl, wpAny_pure h⟩) htake))
end
section
variable {X : Cx}
def tRevT (K : PySem.W.Frag) (te : TE) : TE := fun σ H Q => te σ H fun x H1 => ∃ a xs, x = .ref a ∧ SqT K H1 a xs ∧ ∀ p, H1 p = none → Q (.ref p) (upd H1 p (.tup xs.reverse))
theorem pe_revT {e : Expr} {te : TE} {k : Nat} {p1 p2 p3 pos : Pos} (he : PE X e te) : PE X (.Subscript e (.Slice none none (some (.UnaryOp .USub (.Constant (.int 1) k p1) p2)) p3) pos) (tRevT X.K te) := by
  refine ⟨fun pins s σ H Q I h => ?_⟩
  refine Subscript_ (thn (he.run pins s σ H _ I h) fun v s1 ⟨x, H1, I1, r1, q1⟩ => ?_)
  obtain ⟨a, xs, ex, hx, q⟩ := q1
  subst ex
  cases r1
  have hst : PO X (some (.UnaryOp .USub (.Constant (.int 1) k p1) p2)) (tPart (tUn (rU fun i => .int (-i)) (tC (.int 1)))) := po_some (pe_un un_neg pe_int)
  refine wpAny_Slice (thn (po_none.run pins s1 σ H1 (fun o H2 => o = none ∧ H2 = H1) I1 ⟨rfl, rfl⟩) fun vl s2 ⟨l, H2, I2, pl, el, e2⟩ => ?_)
  subst el e2
  refine thn (po_none.run pins s2 σ H2 (fun o H3 => o = none ∧ H3 = H2) I2 ⟨rfl, rfl⟩) fun vu s3 ⟨u, H3, I3, pu, eu, e3⟩ => ?_
  subst eu e3
  refine thn (hst.run pins s3 σ H3 (fun o H4 => o = some (-1) ∧ H4 = H3) I3 ⟨1, rfl, -1, rfl, rfl, rfl⟩) fun vs s4 ⟨o, H4, I4, ps, eo, e4⟩ => ?_
  subst eo e4
  have I5 : Inv X pins σ H4 { s4 with heap := s4.heap.push { cls := .type "slice", data := .fields #[vl, vu, vs] } } := I4.kept (t' := s4.toks) fun b ob q => Heap.get?_push_of_some _ q
  obtain ⟨its, r, ht, hz⟩ := I5.tuple hx
  have hlen := r.length
  show wpAny (model X.prog X.w) X.A (subscriptTail e (.Slice none none (some (.UnaryOp .USub (.Constant (.int 1) k p1) p2)) p3) (.ref a) (.ref s4.heap.objs.size)) (EP X pins σ Q) X.xe { s4 with heap := s4.heap.push { cls := .type "slice", data := .fields #[vl, vu, vs] } }
  refine tail_any (ops := [.ref a, .ref s4.heap.objs.size]) ht.typeIs (PyProof.Rows.slot_tuple_getitem.lookup) ?_ (by with_unfolding_all rfl)
  refine getItem_tuple_rev ht (Heap.IsSliceOf.new _ vl vu vs) pl pu ps ?_ (by rw [List.size_toArray]; omega)
  refine ⟨.ref _, _, I5.laid (t' := s4.toks) (o := .tup xs.reverse) (fun b ob q => Heap.get?_push_of_some _ q) (Nat.le_refl _) ?_, rfl, q _ (I5.hok.fresh (Nat.le_refl _))⟩
  exact ⟨by rw [List.length_reverse]; exact hz, _, r.reverse, IsTup.new _ _⟩
/-- t[::-1] of a tuple -/
def dRevT (te : DE0) : DE0 := fun σ M Q => te σ M fun x M1 => match x with
  | .tup l => Q (.tup l.reverse) M1
  | _ => False
theorem de_revT {e : Expr} {te : DE0} {k : Nat} {pos p1 p2 p3 : Pos} (he : DE X e te) : DE X (.Subscript e (.Slice none none (some (.UnaryOp .USub (.Constant (.int 1) k p1) p2)) p3) pos) (dRevT te) :=
  de_of (pe_revT pe_sem) fun σv H σ M Q S z => he.then S z fun v H1 d M1 e1 S1 r1 q1 => by
    cases d with
    | tup l =>
      obtain ⟨a, vs, rfl, hs, r⟩ := r1
      refine ⟨a, vs, rfl, hs, fun p hp => ?_⟩
      have ee := Ext.new (K := X.K) (o := .tup vs.reverse) hp
      exact L.mk' (e1.trans ee) (S1.to ee (S1.mem.new hp)) q1 ⟨p, vs.reverse, rfl, .inl (.inl upd_same), (Rs.mono ee _ _ r).reverse⟩
    | _ => exact q1.elim
end
end DL
namespace DL
open PySem PySem.Spec PyProof.Rows L2
/-- != , of two texts whatever stands in them -/
def bNeS : B2 := fun x y M Q => match x, y with
  | .str a, .str b => Q (.bl (!decide (a = b))) M
  | x, y => bNe x y M Q
def rNeS (K : PySem.W.Frag) : R2 := fun x y H Q => rNe x y H Q ∨ rNeD K x y H Q
theorem op_neS {X : Cx} (hu : X.A.units + 64 < cLine) : OpR X (compareOp .NotEq) (rNeS X.K) := OpR.or op_ne (op_neD hu)
theorem tr_neS {K : PySem.W.Frag} : TrB K bNeS (rNeS K) := fun σ σv M H x y vx vy Q P S rx ry z k => by
  unfold bNeS at z
  split at z
  · cases rx; cases ry
    refine .inl ⟨rfl, ?_⟩
    rename_i a b
    have e : (!decide (V.str a = V.str b)) = !decide (a = b) := by
      congr 1
      by_cases h : a = b
      · simp [h]
      · have : ¬ V.str a = V.str b := fun e => h (by cases e; rfl)
        rw [decide_eq_false h, decide_eq_false this]
    rw [e]
    exact k _ _ (L.mk S z rfl)
  · exact .inr (tr_ne σ σv M H x y vx vy Q P S rx ry z k)
theorem y_neS {a b : Str} {M : Mp} {Q : D → Mp → Prop} : bNeS (.str a) (.str b) M Q = Q (.bl (!decide (a = b))) M := rfl
theorem y_neSb {a b : Bool} {M : Mp} {Q : D → Mp → Prop} : bNeS (.bl a) (.bl b) M Q = Q (.bl (!(a == b))) M := by
  show bNe (.bl a) (.bl b) M Q = _
  rw [bNe_of (p := .bool a) (q := .bool b) rfl rfl (shaped_bl a) (shaped_bl b), PyData.eqv]
theorem x_revT {te : DE0} {σ : Sg} {M : Mp} {Q : D → Mp → Prop} : dRevT te σ M Q = te σ M fun x M1 => match x with | .tup l => Q (.tup l.reverse) M1 | _ => False := rfl
end DL
namespace DL
open PySem PySem.Spec PyProof.Rows L2
section
variable {X : Cx} {CX : CXT} {k : Nat} {f : Addr} {fd : FuncData} {ps ks : List Str} {sp : DSp} {E : DX} {x : Str} {p pos : Pos} {kws : List Keyword} {ta : DA0}
/-- all by keywords, in the parameters' order -/
theorem de_callK1 (F : DFn X.prog X.w X.K X.mg X.base CX k f fd ps sp) (hr : Room k X.A) (hgd : X.A.guards = some []) (hg : Gl X x) (hm : X.mg x = some (.ref f)) (hk : PySem.W.keepIn X.K (.ref f) = true) (hx : DPasses CX X E)
    (hb : ∀ (s : Shared) (ws : List Value), X.K.In s.heap → ws.length = ps.length → BindsTo s fd ⟨[], ks.zip ws⟩ (ps.zip ws))
    (ha : DKs X kws ta) (hall : (backToKw pos (keywordEach kws X.env)).all (·.1.isSome) = true := by rfl) (hks : (backToKw pos (keywordEach kws X.env)).filterMap (·.1) = ks := by rfl) (hdb : (x == ("__debug__" : Str)) = false := by decide)
    (hpl : ((backTo pos (starEach [] X.env)).any (·.1) || (backToKw pos (keywordEach kws X.env)).any (·.1.isNone)) = false := by rfl) :
    DE X (.Call (.Name x p) [] kws pos) (dCall sp E ta) :=
  de_callK (g := fun l => l) F hr hgd hg hm hk hx hb (fun h => h) (fun h => h) ha hall hks hdb hpl
end
end DL
namespace DL
open PySem PySem.Spec PyProof.Rows L2
/-- what the law's call ends with -/
def Ends1 (s1 : Shared) : Result → Shared → Prop := fun r s2 => r = .ok (.ret (.bool true)) ∧ OldK s1.heap s2.heap ∧ s2.os = s1.os ∧ AllBare s2.gens
/-- the law's def keeps its promise at the heap behind the top, its caller's guards being none -/
theorem law_callD {P : Program} {w : World} {K : PySem.W.Frag} {mg mb : Str → Option Value} {k : Nat} {fa a : Addr} {fd : FuncData} {x : Str} {sp : DSp} {s1 : Shared} {vs : List Value} {ns : List Int}
    (inK : K.In s1.heap) (gNs : s1.heap.Ns mainGlobals mg) (bNs : s1.heap.Ns builtinsNs mb) (bOwn : ∀ x : Str, x ≠ "__name__" → mb x = bootBuiltins x) (noLim : s1.heap.NoLimit) (noGens : s1.gens = #[])
    (at_a : s1.heap.get? a = some { cls := .type "list", data := .seq vs.toArray }) (areInts : IntsAre vs ns) (few : ns.length ≤ sizeLine) (room : Room k callerA) (gd : callerA.guards = some [])
    (F : ∀ base : Heap, K.In base → base.Ns mainGlobals mg → DFn P w K mg base CX0 k fa fd [x] sp) (bnd : ∀ (s : Shared) (u : Value), BindsTo s fd ⟨[u], []⟩ [(x, u)])
    (prom : sp [.fro (ns.map D.int)] (fun _ => none) (fun d _ => d = .bl true) fun _ _ _ => False) :
    codeAny (model P w) callerA (.call (.ref fa) ⟨[.ref a], []⟩) (Ends1 s1) s1 := by
  have known := vals_ints areInts
  have sizes := areInts.length
  have inner : ∀ Z : Hp, L2.Only Z → FroL K Z a (ns.map V.int) → HOk P w Z s1.heap → (∀ b, Z b ≠ none → b = a) → (Z a ≠ none → K.lookup a = none) → codeAny (model P w) callerA (.call (.ref fa) ⟨[.ref a], []⟩) (Ends1 s1) s1 := by
    intro Z zOnly zFro zOk zOne zK
    have notDict : ∀ {b : Addr} {o : Obj} {es : Array DictEntry} {ep : Nat}, s1.heap.get? b = some o → o.data = .dict es ep → Z b = none := fun {b o es ep} e d => by
      rcases hz : Z b with _ | u
      · rfl
      · have same : b = a := zOne b (by simp [hz])
        subst same
        cases at_a.symm.trans e
        exact (show False from by have dd : Data.seq vs.toArray _ = Data.dict es ep := d; cases dd).elim
    have nsZ : ∀ {b : Addr} {m : Str → Option Value}, s1.heap.Ns b m → (hidT s1.heap Z).Ns b m := fun {b m} ⟨o, es, ep, e, d, r⟩ => ⟨o, es, ep, hidT_get e (notDict e d), d, r⟩
    have kZ : K.In (hidT s1.heap Z) := fun b o e => hidT_get (inK b o e) (by
      rcases hz : Z b with _ | u
      · rfl
      · have same : b = a := zOne b (by simp [hz])
        subst same
        cases (zK (by simp [hz])).symm.trans e)
    have modZ : Mod K mg (hidT s1.heap Z) := ⟨kZ, nsZ gNs, ⟨mb, nsZ bNs, bOwn⟩, let ⟨mc, h1, h2⟩ := noLim; ⟨mc, nsZ h1, h2⟩⟩
    have env0 : Env0 P w K mg (hidT s1.heap Z) callerA [] s1 Z := ⟨rfl, modZ, fun b o e => of_hidT e, Nat.le_of_eq (hidT_size _ _), trivial, fun b hb => absurd (show b ∈ ([] : List Addr) from hb) (by simp), zOk, .of_eq noGens⟩
    have ran := (F _ kZ (nsZ gNs)).run callerA [] s1 Z ⟨[.ref a], []⟩ [.ref a] [.ref a] [.fro (ns.map D.int)] (fun _ => none) _ _ room gd env0 (bnd s1 (.ref a)) (.cons rfl .nil) ⟨_, _, rfl, ⟨a, ns.map V.int, rfl, zFro, Rs.ints ns⟩, rfl⟩ ⟨fun _ _ e => by cases e⟩ prom
    refine codeAny_mono ran fun r s2 got => ?_
    rcases r with er | fl
    · exact False.elim got
    cases fl with
    | next => exact got.elim
    | brk => exact got.elim
    | cont => exact got.elim
    | ret u =>
      obtain ⟨v, Z2, os2, bare2, un2, zOk2, rv, d, M2, _, _, rd, hd⟩ := got
      have hd' : d = .bl true := hd
      subst hd'
      have rd' : v = .bl true := rd
      subst rd'
      have ru : u = Value.bool true := rv
      subst ru
      refine ⟨rfl, OldK.of_keep fun b o e => ?_, os2, bare2⟩
      rcases hz : Z b with _ | u2
      · exact un2.keep b o e hz (fun z => by cases z) (by simp)
      · rcases zOnly b with z | ⟨ob, xs, z⟩
        · exact absurd (hz.symm.trans z) (by simp)
        · have z2 := un2.frzs b ob _ z
          have e1 := (zOk b _ z).1
          have e2 := (zOk2 b _ z2).1
          cases e.symm.trans e1
          exact e2
  rcases hk : K.lookup a with _ | o
  · -- the script stands alone in the abstract heap, locked
    have own : (fun b => if b = a then some (.frz { cls := .type "list", data := .seq vs.toArray } (.lst (ns.map V.int))) else none : Hp) a = some (.frz { cls := .type "list", data := .seq vs.toArray } (.lst (ns.map V.int))) := if_pos rfl
    have off : ∀ b, b ≠ a → (fun b => if b = a then some (.frz { cls := .type "list", data := .seq vs.toArray } (.lst (ns.map V.int))) else none : Hp) b = none := fun b hb => if_neg hb
    refine inner (fun b => if b = a then some (.frz { cls := .type "list", data := .seq vs.toArray } (.lst (ns.map V.int))) else none) (fun b => ?_) (.inl ⟨_, own⟩) (fun b u z => ?_) (fun b z => ?_) fun _ => hk
    · by_cases hb : b = a
      · subst hb; exact .inr ⟨_, _, own⟩
      · exact .inl (off b hb)
    · by_cases hb : b = a
      · subst hb
        cases own.symm.trans z
        exact ⟨at_a, by rw [List.length_map]; exact few, vs, _, known, at_a⟩
      · exact absurd ((off b hb).symm.trans z) (by simp)
    · by_cases hb : b = a
      · exact hb
      · exact absurd (off b hb) z
  · -- the script is an object of the module
    cases at_a.symm.trans (inK a o hk)
    refine inner (fun _ => none) (fun _ => .inl rfl) (.inr ⟨_, vs.toArray, _, hk, rfl, rfl, rfl, ?_, ?_⟩) (fun b u z => absurd (show (none : Option HO) = some u from z) (by simp)) (fun b z => absurd rfl z) fun z => absurd rfl z
    · rw [List.size_toArray, sizes]; exact few
    · simpa using known
theorem walk_ofD {l : PySem.W.OpenLaw} {n k : Nat} {q : Program} {loose : List Str} {XP : (Str → Option Value) → Heap → Prop} {YP : World → Heap → Prop} {d : DefRec} {K : Params → PySem.W.Frag} {sp : DSp} {x : Str}
    (most : l.most = some n) (few : n ≤ sizeLine) (nodef : d.params.defaults = []) (room : Room k callerA) (gd : callerA.guards = some []) (inY : ∀ (w : World) (h : Heap), YP w h → (K w.params).In h)
    (F : ∀ (w : World) (mg : Str → Option Value) (fa : Addr) (h : Heap), (K w.params).In h → h.Ns mainGlobals mg → mg d.name = some (.ref fa) → ∃ fd : FuncData, (∀ (s : Shared) (u : Value), BindsTo s fd ⟨[u], []⟩ [(x, u)]) ∧
      ∀ base : Heap, (K w.params).In base → base.Ns mainGlobals mg → DFn l.prog w (K w.params) mg base CX0 k fa fd [x] sp)
    (prom : ∀ ns : List Int, ns.length ≤ n → sp [.fro (ns.map D.int)] (fun _ => none) (fun d _ => d = .bl true) fun _ _ _ => False) :
    PySem.W.WalkO q loose XP YP l.row.toRowW d [] (fun f vs => PySem.call f vs) := by
  refine Att.attach_call most nodef fun w s0 s1 mg mb fa o pm cd doc a vs ns G Y _ _ _ isF at_a areInts len gens => ?_
  obtain ⟨fd, bnd, isOk⟩ := F w mg fa _ (inY w _ Y) G.T.g isF
  exact law_callD (inY w _ Y) G.T.g G.T.b G.T.builtins G.T.nolimit gens at_a areInts (Nat.le_trans len few) room gd isOk bnd (prom ns len)
end DL
namespace K76
open PySem PySem.Spec PyProof.Rows L2 DL
/-! ### programs as data -/
inductive Part where
  | inn (r : Nat) (own : List Part) | again (own : List Part) | either (lots : List (List Part))
mutual
def pD : Part → D
  | .inn r own => .tup [.str "in", .int (r : Int), .tup (pDs own)]
  | .again own => .tup [.str "again", .tup (pDs own)]
  | .either lots => .tup [.str "either", .tup (pDss lots)]
def pDs : List Part → List D
  | [] => []
  | p :: ps => pD p :: pDs ps
def pDss : List (List Part) → List D
  | [] => []
  | l :: ls => .tup (pDs l) :: pDss ls
end
theorem pDs_map : ∀ ps : List Part, pDs ps = ps.map pD
  | [] => by simp [pDs]
  | p :: ps => by simp [pDs, pDs_map ps]
theorem pDss_map : ∀ ls : List (List Part), pDss ls = ls.map fun l => D.tup (pDs l)
  | [] => by simp [pDss]
  | l :: ls => by simp [pDss, pDss_map ls]
/-! ### their form, how many parts, how many rooms entered, what lies within what -/
mutual
def okP : Part → Bool
  | .inn r own => decide (r < 6) && okPs own
  | .again own => !own.isEmpty && okPs own
  | .either lots => decide (2 ≤ lots.length) && decide (lots.length ≤ 4) && okPss lots
def okPs : List Part → Bool
  | [] => true
  | p :: ps => okP p && okPs ps
def okPss : List (List Part) → Bool
  | [] => true
  | l :: ls => okPs l && okPss ls
end
mutual
def cP : Part → Nat
  | .inn r own => 1 + cPs own
  | .again own => 1 + cPs own
  | .either lots => 1 + cPss lots
def cPs : List Part → Nat
  | [] => 0
  | p :: ps => cP p + cPs ps
def cPss : List (List Part) → Nat
  | [] => 0
  | l :: ls => cPs l + cPss ls
end
mutual
def iP : Part → Nat
  | .inn r own => 1 + iPs own
  | .again own => iPs own
  | .either lots => iPss lots
def iPs : List Part → Nat
  | [] => 0
  | p :: ps => iP p + iPs ps
def iPss : List (List Part) → Nat
  | [] => 0
  | l :: ls => iPs l + iPss ls
end
mutual
def ckP (rooms : List Nat) (deep : Nat) : Part → Bool
  | .inn r own => !rooms.contains r && decide (deep ≤ 5) && ckPs (rooms ++ [r]) (deep + 1) own
  | .again own => decide (deep ≤ 5) && ckPs rooms (deep + 1) own
  | .either lots => decide (deep ≤ 5) && ckPss rooms (deep + 1) lots
def ckPs (rooms : List Nat) (deep : Nat) : List Part → Bool
  | [] => true
  | p :: ps => ckP rooms deep p && ckPs rooms deep ps
def ckPss (rooms : List Nat) (deep : Nat) : List (List Part) → Bool
  | [] => true
  | l :: ls => ckPs rooms deep l && ckPss rooms deep ls
end
/-! ### their text, as codes -/
def S (l : List Nat) : Str := ⟨l.toArray⟩
theorem S_app (a b : List Nat) : S a ++ S b = S (a ++ b) := PySem.Str.ext' (by simp [S, PySem.Str.cps_append])
theorem S_len (a : List Nat) : (S a).length = a.length := by simp [S, Str.length]
theorem S_list (a : List Nat) : (S a).cps.toList = a := by simp [S]
theorem S_inj {a b : List Nat} (h : S a = S b) : a = b := by rw [← S_list a, h, S_list]
mutual
def tP : Part → List Nat
  | .inn r own => 105 :: 110 :: 32 :: (48 + r) :: (match own with | [] => [] | _ :: _ => 32 :: 40 :: (tPs own ++ [41]))
  | .again own => [97, 103, 97, 105, 110, 32] ++ 40 :: (tPs own ++ [41])
  | .either lots => [101, 105, 116, 104, 101, 114, 32] ++ tLs lots
def tPs : List Part → List Nat
  | [] => []
  | p :: ps => tP p ++ (match ps with | [] => [] | _ :: _ => 59 :: 32 :: tPs ps)
def tLs : List (List Part) → List Nat
  | [] => []
  | l :: ls => 40 :: (tPs l ++ [41]) ++ (match ls with | [] => [] | _ :: _ => 32 :: 111 :: 114 :: 32 :: tLs ls)
end
/-! ### how long it is -/
mutual
theorem tP_len : ∀ p : Part, okP p = true → (tP p).length + 2 ≤ 40 * cP p
  | .inn r [], h => by simp [tP, cP, cPs]
  | .inn r (p :: ps), h => by
    have h2 : okPs (p :: ps) = true := by simp [okP] at h; exact h.2
    have := tPs_len (p :: ps) h2
    simp [tP, cP] at *; omega
  | .again own, h => by
    have h2 : okPs own = true := by simp [okP] at h; exact h.2
    have := tPs_len own h2
    simp [tP, cP] at *; omega
  | .either lots, h => by
    have h2 : lots.length ≤ 4 ∧ okPss lots = true := by simp [okP] at h; exact ⟨h.1.2, h.2⟩
    have := tLs_len lots h2.2
    simp [tP, cP] at *; omega
theorem tPs_len : ∀ ps : List Part, okPs ps = true → (tPs ps).length ≤ 40 * cPs ps
  | [], h => by simp [tPs]
  | [p], h => by
    have h2 : okP p = true := by simp [okPs] at h; exact h
    have := tP_len p h2
    simp [tPs, cPs] at *; omega
  | p :: q :: ps, h => by
    have h2 : okP p = true ∧ okPs (q :: ps) = true := by simp [okPs] at h ⊢; exact h
    have h3 := tP_len p h2.1
    have h4 := tPs_len (q :: ps) h2.2
    have e : tPs (p :: q :: ps) = tP p ++ 59 :: 32 :: tPs (q :: ps) := by rw [tPs]
    rw [e, cPs, List.length_append, List.length_cons, List.length_cons]; omega
theorem tLs_len : ∀ ls : List (List Part), okPss ls = true → (tLs ls).length ≤ 40 * cPss ls + 6 * ls.length
  | [], h => by simp [tLs]
  | [l], h => by
    have h2 : okPs l = true := by simp [okPss] at h; exact h
    have := tPs_len l h2
    simp [tLs, cPss] at *; omega
  | l :: m :: ls, h => by
    have h2 : okPs l = true ∧ okPss (m :: ls) = true := by simp [okPss] at h ⊢; exact h
    have h3 := tPs_len l h2.1
    have h4 := tLs_len (m :: ls) h2.2
    have e : tLs (l :: m :: ls) = 40 :: (tPs l ++ [41]) ++ 32 :: 111 :: 114 :: 32 :: tLs (m :: ls) := by rw [tLs]
    rw [e, cPss, List.length_append, List.length_cons, List.length_append]
    simp only [List.length_cons, List.length_nil] at *; omega
end
/-! ### unlike programs have unlike texts -/
/-- what may follow a part -/
def gd (l : List Nat) : Prop := ∀ c, l.head? = some c → c = 41 ∨ c = 59
/-- what may follow a program -/
def ge (l : List Nat) : Prop := ∀ c, l.head? = some c → c = 41
theorem ge.gd {l : List Nat} (h : ge l) : gd l := fun c e => .inl (h c e)
theorem gd_semi (l : List Nat) : gd (59 :: l) := fun c e => by simp at e; exact .inr e.symm
theorem ge_close (l : List Nat) : ge (41 :: l) := fun c e => by simp at e; exact e.symm
theorem gd_no {l m : List Nat} {c : Nat} (h : gd l) (e : l = c :: m) (h1 : c ≠ 41) (h2 : c ≠ 59) : False := by
  rcases h c (by rw [e]; rfl) with z | z
  · exact h1 z
  · exact h2 z
theorem tP_ne (p : Part) : ∃ c l, tP p = c :: l ∧ c ≠ 41 := by
  have h : ∀ l : List Nat, (∃ c, l.head? = some c ∧ c ≠ 41) → ∃ c t, l = c :: t ∧ c ≠ 41 := fun l ⟨c, e, n⟩ => by
    cases l with
    | nil => cases e
    | cons x t => simp at e; exact ⟨x, t, rfl, e ▸ n⟩
  apply h
  cases p with
  | inn r own => cases own <;> exact ⟨105, by simp only [tP]; rfl, by decide⟩
  | again own => exact ⟨97, by rw [tP]; rfl, by decide⟩
  | either lots => exact ⟨101, by rw [tP]; rfl, by decide⟩
theorem tPs_cons (p : Part) (ps : List Part) : ∃ c l, tPs (p :: ps) = c :: l ∧ c ≠ 41 := by
  obtain ⟨c, l, e, n⟩ := tP_ne p
  refine ⟨c, l ++ (match ps with | [] => [] | _ :: _ => 59 :: 32 :: tPs ps), ?_, n⟩
  cases ps <;> simp [tPs, e]
mutual
theorem inj_P : ∀ (p q : Part) (r r' : List Nat), gd r → gd r' → tP p ++ r = tP q ++ r' → p = q ∧ r = r'
  | .inn a own, .inn b own', r, r', g, g', e => by
    cases own with
    | nil =>
      cases own' with
      | nil =>
        simp [tP] at e
        obtain ⟨h1, h2⟩ := e
        subst h1 h2; exact ⟨rfl, rfl⟩
      | cons y ys =>
        simp [tP] at e
        exact (gd_no g e.2 (by decide) (by decide)).elim
    | cons x xs =>
      cases own' with
      | nil =>
        simp [tP] at e
        exact (gd_no g' e.2.symm (by decide) (by decide)).elim
      | cons y ys =>
        simp [tP] at e
        obtain ⟨h1, h2⟩ := e
        obtain ⟨h3, h4⟩ := inj_Ps (x :: xs) (y :: ys) (41 :: r) (41 :: r') (ge_close _) (ge_close _) (by simp) (by simp) h2
        simp at h4
        rw [h1, h3, h4]; exact ⟨rfl, rfl⟩
  | .again own, .again own', r, r', g, g', e => by
    simp [tP] at e
    cases own with
    | nil =>
      cases own' with
      | nil => simp [tPs] at e; exact ⟨rfl, e⟩
      | cons y ys =>
        obtain ⟨c, l, h, n⟩ := tPs_cons y ys
        rw [h] at e; simp [tPs] at e; exact absurd e.1.symm n
    | cons x xs =>
      cases own' with
      | nil =>
        obtain ⟨c, l, h, n⟩ := tPs_cons x xs
        rw [h] at e; simp [tPs] at e; exact absurd e.1 n
      | cons y ys =>
        obtain ⟨h3, h4⟩ := inj_Ps (x :: xs) (y :: ys) (41 :: r) (41 :: r') (ge_close _) (ge_close _) (by simp) (by simp) e
        simp at h4
        rw [h3, h4]; exact ⟨rfl, rfl⟩
  | .either lots, .either lots', r, r', g, g', e => by
    simp [tP] at e
    obtain ⟨h1, h2⟩ := inj_Ls lots lots' r r' g g' e
    rw [h1, h2]; exact ⟨rfl, rfl⟩
  | .inn a own, .again own', r, r', g, g', e => by simp [tP] at e
  | .inn a own, .either own', r, r', g, g', e => by simp [tP] at e
  | .again own, .inn b own', r, r', g, g', e => by simp [tP] at e
  | .again own, .either own', r, r', g, g', e => by simp [tP] at e
  | .either own, .inn b own', r, r', g, g', e => by simp [tP] at e
  | .either own, .again own', r, r', g, g', e => by simp [tP] at e
theorem inj_Ps : ∀ (ps qs : List Part) (r r' : List Nat), ge r → ge r' → ps ≠ [] → qs ≠ [] → tPs ps ++ r = tPs qs ++ r' → ps = qs ∧ r = r'
  | [], _, _, _, _, _, h, _, _ => absurd rfl h
  | _ :: _, [], _, _, _, _, _, h, _ => absurd rfl h
  | [p], [q], r, r', g, g', _, _, e => by
    simp [tPs] at e
    obtain ⟨h1, h2⟩ := inj_P p q r r' g.gd g'.gd e
    rw [h1, h2]; exact ⟨rfl, rfl⟩
  | [p], q :: q2 :: qs, r, r', g, g', _, _, e => by
    have e2 : tPs (q :: q2 :: qs) = tP q ++ 59 :: 32 :: tPs (q2 :: qs) := by rw [tPs]
    rw [e2] at e
    simp [tPs] at e
    obtain ⟨h1, h2⟩ := inj_P p q r (59 :: 32 :: (tPs (q2 :: qs) ++ r')) g.gd (gd_semi _) (by simpa [tPs] using e)
    have := g 59 (by rw [h2]; rfl)
    simp at this
  | p :: p2 :: ps, [q], r, r', g, g', _, _, e => by
    have e2 : tPs (p :: p2 :: ps) = tP p ++ 59 :: 32 :: tPs (p2 :: ps) := by rw [tPs]
    rw [e2] at e
    obtain ⟨h1, h2⟩ := inj_P p q (59 :: 32 :: (tPs (p2 :: ps) ++ r)) r' (gd_semi _) g'.gd (by simpa [tPs] using e)
    have := g' 59 (by rw [← h2]; rfl)
    simp at this
  | p :: p2 :: ps, q :: q2 :: qs, r, r', g, g', _, _, e => by
    have e1 : tPs (p :: p2 :: ps) = tP p ++ 59 :: 32 :: tPs (p2 :: ps) := by rw [tPs]
    have e2 : tPs (q :: q2 :: qs) = tP q ++ 59 :: 32 :: tPs (q2 :: qs) := by rw [tPs]
    rw [e1, e2] at e
    obtain ⟨h1, h2⟩ := inj_P p q (59 :: 32 :: (tPs (p2 :: ps) ++ r)) (59 :: 32 :: (tPs (q2 :: qs) ++ r')) (gd_semi _) (gd_semi _) (by simpa using e)
    obtain ⟨h3, h4⟩ := inj_Ps (p2 :: ps) (q2 :: qs) r r' g g' (by simp) (by simp) (by simpa using h2)
    rw [h1, h3, h4]; exact ⟨rfl, rfl⟩
theorem inj_Ls : ∀ (ls ms : List (List Part)) (r r' : List Nat), gd r → gd r' → tLs ls ++ r = tLs ms ++ r' → ls = ms ∧ r = r'
  | [], [], r, r', g, g', e => by simp [tLs] at e; exact ⟨rfl, e⟩
  | [], m :: ms, r, r', g, g', e => by
    simp [tLs] at e
    exact (gd_no g e (by decide) (by decide)).elim
  | l :: ls, [], r, r', g, g', e => by
    simp [tLs] at e
    exact (gd_no g' e.symm (by decide) (by decide)).elim
  | l :: ls, m :: ms, r, r', g, g', e => by
    have one : ∀ (t t' : List Nat), tPs l ++ 41 :: t = tPs m ++ 41 :: t' → l = m ∧ t = t' := fun t t' e => by
      cases l with
      | nil =>
        cases m with
        | nil => simp [tPs] at e; exact ⟨rfl, e⟩
        | cons y ys =>
          obtain ⟨c, k, h, n⟩ := tPs_cons y ys
          rw [h] at e; simp [tPs] at e; exact absurd e.1.symm n
      | cons x xs =>
        cases m with
        | nil =>
          obtain ⟨c, k, h, n⟩ := tPs_cons x xs
          rw [h] at e; simp [tPs] at e; exact absurd e.1 n
        | cons y ys =>
          obtain ⟨h3, h4⟩ := inj_Ps (x :: xs) (y :: ys) (41 :: t) (41 :: t') (ge_close _) (ge_close _) (by simp) (by simp) e
          simp at h4
          exact ⟨h3, h4⟩
    cases ls with
    | nil =>
      cases ms with
      | nil =>
        simp [tLs] at e
        obtain ⟨h1, h2⟩ := one r r' e
        rw [h1, h2]; exact ⟨rfl, rfl⟩
      | cons m2 ms =>
        have e2 : tLs (m :: m2 :: ms) = 40 :: (tPs m ++ [41]) ++ 32 :: 111 :: 114 :: 32 :: tLs (m2 :: ms) := by rw [tLs]
        rw [e2] at e
        simp [tLs] at e
        obtain ⟨h1, h2⟩ := one r (32 :: 111 :: 114 :: 32 :: (tLs (m2 :: ms) ++ r')) (by simpa [tLs] using e)
        exact (gd_no g h2 (by decide) (by decide)).elim
    | cons l2 ls =>
      have e1 : tLs (l :: l2 :: ls) = 40 :: (tPs l ++ [41]) ++ 32 :: 111 :: 114 :: 32 :: tLs (l2 :: ls) := by rw [tLs]
      cases ms with
      | nil =>
        rw [e1] at e
        obtain ⟨h1, h2⟩ := one (32 :: 111 :: 114 :: 32 :: (tLs (l2 :: ls) ++ r)) r' (by simpa [tLs] using e)
        exact (gd_no g' h2.symm (by decide) (by decide)).elim
      | cons m2 ms =>
        have e2 : tLs (m :: m2 :: ms) = 40 :: (tPs m ++ [41]) ++ 32 :: 111 :: 114 :: 32 :: tLs (m2 :: ms) := by rw [tLs]
        rw [e1, e2] at e
        obtain ⟨h1, h2⟩ := one (32 :: 111 :: 114 :: 32 :: (tLs (l2 :: ls) ++ r)) (32 :: 111 :: 114 :: 32 :: (tLs (m2 :: ms) ++ r')) (by simpa using e)
        obtain ⟨h3, h4⟩ := inj_Ls (l2 :: ls) (m2 :: ms) r r' g g' (by simpa using h2)
        rw [h1, h3, h4]; exact ⟨rfl, rfl⟩
end
end K76
namespace K76
open PySem PySem.Spec PyProof.Rows L2 DL
/-! ### programs as plain values of Python -/
mutual
def pP : Part → PyData
  | .inn r own => .tuple [.str "in", .int (r : Int), .tuple (pPs own)]
  | .again own => .tuple [.str "again", .tuple (pPs own)]
  | .either lots => .tuple [.str "either", .tuple (pPss lots)]
def pPs : List Part → List PyData
  | [] => []
  | p :: ps => pP p :: pPs ps
def pPss : List (List Part) → List PyData
  | [] => []
  | l :: ls => .tuple (pPs l) :: pPss ls
end
mutual
theorem toP_p : ∀ p : Part, toP (pD p) = some (pP p)
  | .inn r own => by simp [pD, pP, toP, toPs, toP_ps own]
  | .again own => by simp [pD, pP, toP, toPs, toP_ps own]
  | .either lots => by simp [pD, pP, toP, toPs, toP_pss lots]
theorem toP_ps : ∀ ps : List Part, toPs (pDs ps) = some (pPs ps)
  | [] => by simp [pDs, pPs, toPs]
  | p :: ps => by simp [pDs, pPs, toPs, toP_p p, toP_ps ps]
theorem toP_pss : ∀ ls : List (List Part), toPs (pDss ls) = some (pPss ls)
  | [] => by simp [pDss, pPss, toPs]
  | l :: ls => by simp [pDss, pPss, toPs, toP, toP_ps l, toP_pss ls]
end
theorem so_in : PyData.strOk ("in" : Str) = true := by decide +kernel
theorem so_again : PyData.strOk ("again" : Str) = true := by decide +kernel
theorem so_either : PyData.strOk ("either" : Str) = true := by decide +kernel
theorem ne_ia : (("in" : Str) = ("again" : Str)) = False := by decide +kernel
theorem ne_ie : (("in" : Str) = ("either" : Str)) = False := by decide +kernel
theorem ne_ai : (("again" : Str) = ("in" : Str)) = False := by decide +kernel
theorem ne_ae : (("again" : Str) = ("either" : Str)) = False := by decide +kernel
theorem ne_ei : (("either" : Str) = ("in" : Str)) = False := by decide +kernel
theorem ne_ea : (("either" : Str) = ("again" : Str)) = False := by decide +kernel
theorem rl_in : (reprText ("in" : Str)).length = 4 := by decide +kernel
theorem rl_again : (reprText ("again" : Str)).length = 7 := by decide +kernel
theorem rl_either : (reprText ("either" : Str)).length = 8 := by decide +kernel
theorem dig {r : Nat} (h : r < 6) : ((toString ((r : Nat) : Int) : String) : Str) = S [48 + r] := by
  have : r = 0 ∨ r = 1 ∨ r = 2 ∨ r = 3 ∨ r = 4 ∨ r = 5 := by omega
  rcases this with rfl | rfl | rfl | rfl | rfl | rfl <;> decide +kernel
mutual
theorem lay_p : ∀ p : Part, (pP p).canLay0 = true
  | .inn r own => by simp [pP, PyData.canLay0, PyData.canLayAll0, lay_ps own, so_in]
  | .again own => by simp [pP, PyData.canLay0, PyData.canLayAll0, lay_ps own, so_again]
  | .either lots => by simp [pP, PyData.canLay0, PyData.canLayAll0, lay_pss lots, so_either]
theorem lay_ps : ∀ ps : List Part, PyData.canLayAll0 (pPs ps) = true
  | [] => by simp [pPs, PyData.canLayAll0]
  | p :: ps => by simp [pPs, PyData.canLayAll0, lay_p p, lay_ps ps]
theorem lay_pss : ∀ ls : List (List Part), PyData.canLayAll0 (pPss ls) = true
  | [] => by simp [pPss, PyData.canLayAll0]
  | l :: ls => by simp [pPss, PyData.canLayAll0, PyData.canLay0, lay_ps l, lay_pss ls]
end
mutual
theorem dep_p : ∀ p : Part, (pP p).depth ≤ 3 * cP p
  | .inn r own => by have := dep_ps own; simp only [pP, PyData.depth, PyData.depthAll, cP]; omega
  | .again own => by have := dep_ps own; simp only [pP, PyData.depth, PyData.depthAll, cP]; omega
  | .either lots => by have := dep_pss lots; simp only [pP, PyData.depth, PyData.depthAll, cP]; omega
theorem dep_ps : ∀ ps : List Part, PyData.depthAll (pPs ps) ≤ 3 * cPs ps
  | [] => by simp [pPs, PyData.depthAll]
  | p :: ps => by have := dep_p p; have := dep_ps ps; simp only [pPs, PyData.depthAll, cPs]; omega
theorem dep_pss : ∀ ls : List (List Part), PyData.depthAll (pPss ls) ≤ 3 * cPss ls + 1
  | [] => by simp [pPss, PyData.depthAll]
  | l :: ls => by have := dep_ps l; have := dep_pss ls; simp only [pPss, PyData.depthAll, PyData.depth, cPss]; omega
end
mutual
theorem showb_p : ∀ p : Part, okP p = true → (pP p).showable = true
  | .inn r own, h => by
    have h' : r < 6 ∧ okPs own = true := by simpa [okP] using h
    have : r = 0 ∨ r = 1 ∨ r = 2 ∨ r = 3 ∨ r = 4 ∨ r = 5 := by omega
    simp only [pP, PyData.showable, PyData.showableAll, showb_ps own h'.2, Bool.and_true, Bool.true_and]
    rcases this with rfl | rfl | rfl | rfl | rfl | rfl <;> decide +kernel
  | .again own, h => by
    have h' : okPs own = true := by simp [okP] at h; exact h.2
    simp [pP, PyData.showable, PyData.showableAll, showb_ps own h']
  | .either lots, h => by
    have h' : okPss lots = true := by simp [okP] at h; exact h.2
    simp [pP, PyData.showable, PyData.showableAll, showb_pss lots h']
theorem showb_ps : ∀ ps : List Part, okPs ps = true → PyData.showableAll (pPs ps) = true
  | [], _ => by simp [pPs, PyData.showableAll]
  | p :: ps, h => by
    have h' : okP p = true ∧ okPs ps = true := by simpa [okPs] using h
    simp [pPs, PyData.showableAll, showb_p p h'.1, showb_ps ps h'.2]
theorem showb_pss : ∀ ls : List (List Part), okPss ls = true → PyData.showableAll (pPss ls) = true
  | [], _ => by simp [pPss, PyData.showableAll]
  | l :: ls, h => by
    have h' : okPs l = true ∧ okPss ls = true := by simpa [okPss] using h
    simp [pPss, PyData.showableAll, PyData.showable, showb_ps l h'.1, showb_pss ls h'.2]
end
theorem tupleText_le (ts : List Str) : (tupleText ts).length ≤ piled ts + 3 := by
  unfold tupleText
  rw [strLen_append, strLen_append]
  have e1 : (("(" : String) : Str).length = 1 := rfl
  have e3 : ((if ts.length == 1 then ",)" else ")" : String) : Str).length ≤ 2 := by split <;> decide
  have e2 : (Str.join ", " ts).length ≤ piled ts := by
    cases ts with
    | nil => exact Nat.zero_le _
    | cons x xs => have := join_length_add (x :: xs) (by simp); omega
  have e4 : ("(" : Str).length = 1 := rfl
  omega
mutual
theorem sh_p : ∀ p : Part, okP p = true → (pP p).shown.length + 2 ≤ 40 * cP p
  | .inn r own, h => by
    have h' : r < 6 ∧ okPs own = true := by simpa [okP] using h
    have h2 := sh_ps own h'.2
    have h3 := tupleText_le (PyData.shownAll (pPs own))
    have h4 := tupleText_le [reprText "in", S [48 + r], tupleText (PyData.shownAll (pPs own))]
    simp only [pP, PyData.shown, PyData.shownAll, cP, dig h'.1]
    simp only [piled, List.foldr_cons, List.foldr_nil, rl_in, S_len, List.length_cons, List.length_nil, List.map_cons, List.map_nil, List.sum_cons, List.sum_nil] at *
    omega
  | .again own, h => by
    have h' : okPs own = true := by simp [okP] at h; exact h.2
    have h2 := sh_ps own h'
    have h3 := tupleText_le (PyData.shownAll (pPs own))
    have h4 := tupleText_le [reprText "again", tupleText (PyData.shownAll (pPs own))]
    simp only [pP, PyData.shown, PyData.shownAll, cP]
    simp only [piled, List.foldr_cons, List.foldr_nil, rl_again, List.map_cons, List.map_nil, List.sum_cons, List.sum_nil] at *
    omega
  | .either lots, h => by
    have h' : lots.length ≤ 4 ∧ okPss lots = true := by simp [okP] at h; exact ⟨h.1.2, h.2⟩
    have h2 := sh_pss lots h'.2
    have h3 := tupleText_le (PyData.shownAll (pPss lots))
    have h4 := tupleText_le [reprText "either", tupleText (PyData.shownAll (pPss lots))]
    simp only [pP, PyData.shown, PyData.shownAll, cP]
    simp only [piled, List.foldr_cons, List.foldr_nil, rl_either, List.map_cons, List.map_nil, List.sum_cons, List.sum_nil] at *
    omega
theorem sh_ps : ∀ ps : List Part, okPs ps = true → piled (PyData.shownAll (pPs ps)) ≤ 40 * cPs ps
  | [], _ => by simp [pPs, PyData.shownAll, piled]
  | p :: ps, h => by
    have h' : okP p = true ∧ okPs ps = true := by simpa [okPs] using h
    have := sh_p p h'.1; have := sh_ps ps h'.2
    simp only [pPs, PyData.shownAll, piled, cPs, List.map_cons, List.sum_cons] at *; omega
theorem sh_pss : ∀ ls : List (List Part), okPss ls = true → piled (PyData.shownAll (pPss ls)) ≤ 40 * cPss ls + 5 * ls.length
  | [], _ => by simp [pPss, PyData.shownAll, piled]
  | l :: ls, h => by
    have h' : okPs l = true ∧ okPss ls = true := by simpa [okPss] using h
    have := sh_ps l h'.1; have := sh_pss ls h'.2
    have := tupleText_le (PyData.shownAll (pPs l))
    simp only [pPss, PyData.shownAll, PyData.shown, piled, cPss, List.map_cons, List.sum_cons, List.length_cons] at *; omega
end
/-! ### what the layer asks of them -/
theorem shape_ps {ps : List Part} (h : cPs ps ≤ 20) : SeqAt.shaped (.tuple (pPs ps)) = true := shaped_tup (lay_ps ps) (by have := dep_ps ps; omega)
theorem pPs_empty (ps : List Part) : (pPs ps).isEmpty = ps.isEmpty := by cases ps <;> rfl
theorem bEq_pnil {ps : List Part} {M : Mp} {Q : D → Mp → Prop} (h : cPs ps ≤ 20) : bEq (.tup (pDs ps)) (.tup []) M Q = Q (.bl ps.isEmpty) M := by
  rw [← pPs_empty]; exact bEq_tnil (toP_ps ps) (shape_ps h)
theorem bNe_pnil {ps : List Part} {M : Mp} {Q : D → Mp → Prop} (h : cPs ps ≤ 20) : bNe (.tup (pDs ps)) (.tup []) M Q = Q (.bl (!ps.isEmpty)) M := by
  rw [← pPs_empty]; exact bNe_tnil (toP_ps ps) (shape_ps h)
theorem repr_ps {ps : List Part} {M : Mp} {Q : D → Mp → Prop} (hc : cPs ps ≤ 18) (h : okPs ps = true) (q : Q (.str (PyData.shown (.tuple (pPs ps)))) M) : bRepr [.tup (pDs ps)] M Q := by
  refine ⟨.tuple (pPs ps), by show (toPs _).map _ = _; rw [toP_ps]; rfl, ?_, ?_, ?_, ?_, q⟩
  · simp only [PyData.showable]; exact showb_ps ps h
  · exact PyData.hasDict_of_canLay _ (by simp only [PyData.canLay0]; exact lay_ps ps)
  · have := dep_ps ps; simp only [PyData.depth]; omega
  · have h2 := sh_ps ps h
    have h3 := tupleText_le (PyData.shownAll (pPs ps))
    simp only [PyData.shown]
    have : sizeLine = 16777216 := rfl
    omega
mutual
/-- unlike parts are unlike values -/
theorem pP_inj : ∀ p q : Part, PyData.eqv (pP p) (pP q) = true → p = q
  | .inn a l, .inn b m, h => by
    simp only [pP, PyData.eqv, PyData.eqvAll, Bool.and_eq_true, beq_iff_eq] at h
    obtain ⟨_, h1, h2, _⟩ := h
    rw [pPs_inj l m h2]; congr; omega
  | .again l, .again m, h => by
    simp only [pP, PyData.eqv, PyData.eqvAll, Bool.and_eq_true] at h
    rw [pPs_inj l m h.2.1]
  | .either l, .either m, h => by
    simp only [pP, PyData.eqv, PyData.eqvAll, Bool.and_eq_true] at h
    rw [pPss_inj l m h.2.1]
  | .inn a l, .again m, h => by simp [pP, PyData.eqv, PyData.eqvAll] at h
  | .inn a l, .either m, h => by simp [pP, PyData.eqv, PyData.eqvAll] at h
  | .again l, .inn b m, h => by simp [pP, PyData.eqv, PyData.eqvAll] at h
  | .either l, .inn b m, h => by simp [pP, PyData.eqv, PyData.eqvAll] at h
  | .again l, .either m, h => by
    simp only [pP, PyData.eqv, PyData.eqvAll, Bool.and_eq_true] at h
    exact absurd (beq_iff_eq.mp h.1) (by rw [ne_ae]; exact id)
  | .either l, .again m, h => by
    simp only [pP, PyData.eqv, PyData.eqvAll, Bool.and_eq_true] at h
    exact absurd (beq_iff_eq.mp h.1) (by rw [ne_ea]; exact id)
theorem pPs_inj : ∀ ps qs : List Part, PyData.eqvAll (pPs ps) (pPs qs) = true → ps = qs
  | [], [], _ => rfl
  | [], _ :: _, h => by simp [pPs, PyData.eqvAll] at h
  | _ :: _, [], h => by simp [pPs, PyData.eqvAll] at h
  | p :: ps, q :: qs, h => by
    simp only [pPs, PyData.eqvAll, Bool.and_eq_true] at h
    rw [pP_inj p q h.1, pPs_inj ps qs h.2]
theorem pPss_inj : ∀ ps qs : List (List Part), PyData.eqvAll (pPss ps) (pPss qs) = true → ps = qs
  | [], [], _ => rfl
  | [], _ :: _, h => by simp [pPss, PyData.eqvAll] at h
  | _ :: _, [], h => by simp [pPss, PyData.eqvAll] at h
  | p :: ps, q :: qs, h => by
    simp only [pPss, PyData.eqv, PyData.eqvAll, Bool.and_eq_true] at h
    rw [pPs_inj p q h.1, pPss_inj ps qs h.2]
end
theorem eqv_refl_ps (ps : List Part) : PyData.eqvAll (pPs ps) (pPs ps) = true := (by first | exact PySem.SeqAt.eqvAll_refl _ (lay_ps ps) | exact PySem.MeetsSeq.eqvAll_refl _ (lay_ps ps) | exact eqvAll_refl _ (lay_ps ps))
end K76
namespace K76
open PySem PySem.Spec PyProof.Rows L2 DL
/-! ### texts joined -/
def jn (sep : List Nat) : List (List Nat) → List Nat
  | [] => []
  | [x] => x
  | x :: y :: r => x ++ sep ++ jn sep (y :: r)
theorem txt_join (sep : List Nat) : ∀ ls : List (List Nat), Txt.join (S sep) (ls.map S) = S (jn sep ls) := fun ls => by
  unfold Txt.join
  rw [StrLaws.glued_eq_join]
  induction ls with
  | nil => rfl
  | cons x r ih =>
    cases r with
    | nil => rfl
    | cons y r =>
      show S x ++ S sep ++ Str.join (S sep) ((y :: r).map S) = _
      rw [ih, S_app, S_app]; rfl
theorem tPs_jn : ∀ ps : List Part, tPs ps = jn [59, 32] (ps.map tP)
  | [] => by simp [tPs, jn]
  | [p] => by simp [tPs, jn]
  | p :: q :: ps => by
    have e : tPs (p :: q :: ps) = tP p ++ 59 :: 32 :: tPs (q :: ps) := by rw [tPs]
    rw [e, tPs_jn (q :: ps)]; simp [jn]
def tB (l : List Part) : List Nat := 40 :: (tPs l ++ [41])
theorem tLs_jn : ∀ ls : List (List Part), tLs ls = jn [32, 111, 114, 32] (ls.map tB)
  | [] => by simp [tLs, jn]
  | [p] => by simp [tLs, jn, tB]
  | p :: q :: ps => by
    have e : tLs (p :: q :: ps) = 40 :: (tPs p ++ [41]) ++ 32 :: 111 :: 114 :: 32 :: tLs (q :: ps) := by rw [tLs]
    rw [e, tLs_jn (q :: ps)]; simp [jn, tB]
theorem l_in : ("in " : Str) = S [105, 110, 32] := by decide +kernel
theorem l_sp : (" " : Str) = S [32] := by decide +kernel
theorem l_op : ("(" : Str) = S [40] := by decide +kernel
theorem l_cl : (")" : Str) = S [41] := by decide +kernel
theorem l_no : ("" : Str) = S [] := by decide +kernel
theorem l_ag : ("again " : Str) = S [97, 103, 97, 105, 110, 32] := by decide +kernel
theorem l_ei : ("either " : Str) = S [101, 105, 116, 104, 101, 114, 32] := by decide +kernel
theorem l_or : (" or " : Str) = S [32, 111, 114, 32] := by decide +kernel
theorem l_se : ("; " : Str) = S [59, 32] := by decide +kernel
theorem l_spo : (" (" : Str) = S [32, 40] := by decide +kernel
theorem l_ago : ("again (" : Str) = S ([97, 103, 97, 105, 110, 32] ++ [40]) := by decide +kernel
theorem l_fig : ("0123456789" : Str) = S [48, 49, 50, 51, 52, 53, 54, 55, 56, 57] := by decide +kernel
theorem tP_in0 (r : Nat) : tP (.inn r []) = [105, 110, 32] ++ [48 + r] := by simp [tP]
theorem tP_in1 (r : Nat) {own : List Part} (h : own ≠ []) : tP (.inn r own) = [105, 110, 32] ++ [48 + r] ++ ([32] ++ ([40] ++ tPs own ++ [41])) := by
  cases own with
  | nil => exact absurd rfl h
  | cons p ps => simp [tP]
theorem tP_ag (own : List Part) : tP (.again own) = [97, 103, 97, 105, 110, 32] ++ ([40] ++ tPs own ++ [41]) := by simp [tP]
theorem tP_ei (lots : List (List Part)) : tP (.either lots) = [101, 105, 116, 104, 101, 114, 32] ++ tLs lots := by simp [tP]
theorem S_sum (ls : List (List Nat)) : ((ls.map S).map (·.length)).sum = (ls.map List.length).sum := by
  rw [List.map_map]
  exact congrArg List.sum (List.map_congr_left fun x _ => S_len x)
theorem tP_len' {p : Part} (h : okP p = true) {n : Nat} (hc : cP p ≤ n) : (tP p).length ≤ 40 * n := by have := tP_len p h; omega
theorem sum_le {α : Type} (f g : α → Nat) (l : List α) (h : ∀ x ∈ l, f x ≤ g x) : (l.map f).sum ≤ (l.map g).sum := by
  induction l with
  | nil => simp
  | cons x xs ih => have := h x List.mem_cons_self; have := ih fun y hy => h y (List.mem_cons_of_mem _ hy); simp; omega
theorem sum_mul (k : Nat) (l : List Nat) : (l.map fun n => k * n).sum = k * l.sum := by
  induction l with
  | nil => simp
  | cons x xs ih => simp [ih, Nat.mul_add]
theorem tPs_sum {ps : List Part} (h : okPs ps = true) : ((ps.map tP).map List.length).sum ≤ 40 * cPs ps := by
  induction ps with
  | nil => simp
  | cons p ps ih =>
    have h' : okP p = true ∧ okPs ps = true := by simpa [okPs] using h
    have := tP_len p h'.1; have := ih h'.2
    simp only [List.map_cons, List.sum_cons, cPs]; omega
theorem tLs_sum {ls : List (List Part)} (h : okPss ls = true) : ((ls.map tB).map List.length).sum ≤ 40 * cPss ls + 2 * ls.length := by
  induction ls with
  | nil => simp
  | cons p ps ih =>
    have h' : okPs p = true ∧ okPss ps = true := by simpa [okPss] using h
    have := tPs_len p h'.1; have := ih h'.2
    simp only [List.map_cons, List.sum_cons, List.length_cons, List.length_append, List.length_nil, cPss, tB]; omega
end K76
namespace K76
open PySem PySem.Spec PyProof.Rows L2 DL
def SCfrom (len : Nat) (i : Int) : Nat := (max 0 (if i < 0 then i + len else i)).toNat
theorem sw_pre (pre X sg : List Nat) : Txt.startswith3 (S (pre ++ X)) (S sg) ((pre.length : Nat) : Int) = sg.isPrefixOf X := by
  unfold Txt.startswith3
  have e : SCfrom (S (pre ++ X)).length ((pre.length : Nat) : Int) = pre.length := by
    unfold SCfrom
    rw [if_neg (by omega)]; omega
  show (decide (SCfrom (S (pre ++ X)).length ((pre.length : Nat) : Int) + _ ≤ _) && Builtin.Str.subAt _ _ (SCfrom (S (pre ++ X)).length ((pre.length : Nat) : Int))) = _
  rw [e]
  rw [StrLaws.subAt_eq, S_len, S_len, S_list, S_list, List.drop_left]
  rw [Bool.eq_iff_iff, List.isPrefixOf_iff_prefix, List.prefix_iff_eq_take, Bool.and_eq_true, beq_iff_eq, decide_eq_true_iff, List.length_append]
  constructor
  · rintro ⟨_, h⟩; exact h.symm
  · intro h
    refine ⟨?_, h.symm⟩
    have := congrArg List.length h
    rw [List.length_take] at this; omega
theorem cut_one (pre X : List Nat) (c : Nat) : cutS (S (pre ++ c :: X)) (some ((pre.length : Nat) : Int)) (some (((pre.length : Nat) : Int) + 1)) = S [c] := by
  unfold cutS
  have e : (((pre.length : Nat) : Int) + 1) = (((pre.length + 1 : Nat)) : Int) := by omega
  rw [e, HT.sIx_nat, HT.sIx_nat, S_list, S_len]
  have e1 : min pre.length (pre ++ c :: X).length = pre.length := by simp
  have e2 : min (pre.length + 1) (pre ++ c :: X).length = pre.length + 1 := by simp
  rw [e1, e2, List.drop_left]
  have : pre.length + 1 - pre.length = 1 := by omega
  rw [this]; rfl
theorem so_ascii (l : List Nat) (h : ∀ c ∈ l, c < 128) : PyData.strOk (S l) = true := by
  unfold PyData.strOk S
  simp
  exact fun c hc => by have := h c hc; omega
theorem fig_occ {r : Nat} (h : r < 6) : Builtin.Str.occurrences (S [48, 49, 50, 51, 52, 53, 54, 55, 56, 57]) (S [48 + r]) 0 (S [48, 49, 50, 51, 52, 53, 54, 55, 56, 57]).length 1 = [r] := by
  have : r = 0 ∨ r = 1 ∨ r = 2 ∨ r = 3 ∨ r = 4 ∨ r = 5 := by omega
  rcases this with rfl | rfl | rfl | rfl | rfl | rfl <;> decide +kernel
theorem fig_in {r : Nat} (h : r < 6) {M : Mp} {Q : D → Mp → Prop} : bNotIn (.str (S [48 + r])) (.str (S [48, 49, 50, 51, 52, 53, 54, 55, 56, 57])) M Q = Q (.bl false) M := by
  refine bNotIn_of (b := true) (.inr ⟨_, _, rfl, rfl, by rw [fig_occ h]; rfl⟩) fun b' z => ?_
  rcases z with ⟨p, ps, e1, e2, _⟩ | ⟨i, j, e1, e2, e3⟩
  · rcases e2 with ⟨e2, _⟩ | ⟨e2, _⟩ <;> cases e2
  · cases e1; cases e2; rw [e3, fig_occ h]; rfl
theorem fig_ix {r : Nat} (h : r < 6) {M : Mp} {Q : D → Mp → Prop} (q : Q (.int (r : Nat)) M) : bSindex (.str (S [48, 49, 50, 51, 52, 53, 54, 55, 56, 57])) [.str (S [48 + r])] M Q := ⟨r, [], fig_occ h, q⟩
/-! ### what follows what -/
def tR (ps : List Part) : List Nat := (ps.map fun p => [59, 32] ++ tP p).flatten
theorem tPs_tR (p : Part) : ∀ ps : List Part, tPs (p :: ps) = tP p ++ tR ps := fun ps => by
  induction ps generalizing p with
  | nil => simp [tPs, tR]
  | cons q qs ih =>
    have e : tPs (p :: q :: qs) = tP p ++ 59 :: 32 :: tPs (q :: qs) := by rw [tPs]
    rw [e, ih q]; simp [tR]
def tRL (ls : List (List Part)) : List Nat := (ls.map fun l => [32, 111, 114, 32] ++ tB l).flatten
theorem tLs_tRL (l : List Part) : ∀ ls : List (List Part), tLs (l :: ls) = tB l ++ tRL ls := fun ls => by
  induction ls generalizing l with
  | nil => simp [tLs, tRL, tB]
  | cons q qs ih =>
    have e : tLs (l :: q :: qs) = 40 :: (tPs l ++ [41]) ++ 32 :: 111 :: 114 :: 32 :: tLs (q :: qs) := by rw [tLs]
    rw [e, ih q]; simp [tRL, tB]
theorem pf_semi_no {rest : List Nat} (g : ge rest) : List.isPrefixOf [59, 32] rest = false := by
  cases rest with
  | nil => rfl
  | cons c l => have := g c rfl; subst this; rfl
theorem pf_sp_no {rest : List Nat} (g : gd rest) : List.isPrefixOf [32] rest = false := by
  cases rest with
  | nil => rfl
  | cons c l => rcases g c rfl with h | h <;> subst h <;> rfl
theorem pf_or_no {rest : List Nat} (g : gd rest) : List.isPrefixOf [32, 111, 114, 32] rest = false := by
  cases rest with
  | nil => rfl
  | cons c l => rcases g c rfl with h | h <;> subst h <;> rfl
theorem pf_cl_no (p : Part) (ps : List Part) (rest : List Nat) : List.isPrefixOf [41] (tPs (p :: ps) ++ rest) = false := by
  obtain ⟨c, l, e, n⟩ := tPs_cons p ps
  rw [e]
  show (List.isPrefixOf [41] (c :: (l ++ rest))) = false
  simp [List.isPrefixOf]
  exact fun h => n h.symm
theorem tR_gd (ps : List Part) {rest : List Nat} (g : ge rest) : gd (tR ps ++ rest) := by
  cases ps with
  | nil => simpa [tR] using g.gd
  | cons p ps => intro c h; simp [tR] at h; exact .inr h.symm
end K76
namespace K76
open PySem PySem.Spec PyProof.Rows L2 DL
theorem room65 {k : Nat} {A : Around} (hr : Room k A) : A.units + 65 < cLine := by have := hr.un; omega
def top (i : Nat) : Stmt := PySem.Challenge.pw_roomways_k76_whole_texts_of_programs.main.body.getD i (.Pass ⟨0, 0, 0, 0⟩)
abbrev s_is_integer : Stmt := top 4
abbrev N_is_integer : List Str := ["value"]
theorem st_is_integer (a0 : D) : startD N_is_integer [a0] = [some a0] := rfl
theorem sc_is_integer : FnScope N_is_integer (["value"] : List Str) (defScope s_is_integer) := ⟨rfl, rfl, rfl, by decide +kernel, rfl, by decide +kernel, by decide +kernel⟩
abbrev s_is_within : Stmt := top 5
abbrev N_is_within : List Str := ["value", "low", "high"]
theorem st_is_within (a0 a1 a2 : D) : startD N_is_within [a0, a1, a2] = [some a0, some a1, some a2] := rfl
theorem sc_is_within : FnScope N_is_within (["value", "low", "high"] : List Str) (defScope s_is_within) := ⟨rfl, rfl, rfl, by decide +kernel, rfl, by decide +kernel, by decide +kernel⟩
abbrev s_are_programs : Stmt := top 10
abbrev N_are_programs : List Str := ["value", "item"]
theorem st_are_programs (a0 : D) : startD N_are_programs [a0] = [some a0, none] := rfl
theorem sc_are_programs : FnScope N_are_programs (["value"] : List Str) (defScope s_are_programs) := ⟨rfl, rfl, rfl, by decide +kernel, rfl, by decide +kernel, by decide +kernel⟩
abbrev s_is_part : Stmt := top 11
abbrev N_is_part : List Str := ["many", "value"]
theorem st_is_part (a0 a1 : D) : startD N_is_part [a0, a1] = [some a0, some a1] := rfl
theorem sc_is_part : FnScope N_is_part (["many", "value"] : List Str) (defScope s_is_part) := ⟨rfl, rfl, rfl, by decide +kernel, rfl, by decide +kernel, by decide +kernel⟩
abbrev s_within : Stmt := top 12
abbrev N_within : List Str := ["part", "spot", "found", "number", "program", "place", "own"]
theorem st_within (a0 a1 : D) : startD N_within [a0, a1] = [some a0, some a1, none, none, none, none, none] := rfl
theorem sc_within : FnScope N_within (["part", "spot"] : List Str) (defScope s_within) := ⟨rfl, rfl, rfl, by decide +kernel, rfl, by decide +kernel, by decide +kernel⟩
abbrev s_part_error : Stmt := top 13
abbrev N_part_error : List Str := ["many", "value", "spot", "rooms", "deep"]
theorem st_part_error (a0 a1 a2 a3 a4 : D) : startD N_part_error [a0, a1, a2, a3, a4] = [some a0, some a1, some a2, some a3, some a4] := rfl
theorem sc_part_error : FnScope N_part_error (["many", "value", "spot", "rooms", "deep"] : List Str) (defScope s_part_error) := ⟨rfl, rfl, rfl, by decide +kernel, rfl, by decide +kernel, by decide +kernel⟩
abbrev s_program_error : Stmt := top 14
abbrev N_program_error : List Str := ["many", "value", "waiting", "parts", "entering", "spot", "part", "rooms", "deep", "error", "place", "own"]
theorem st_program_error (a0 a1 : D) : startD N_program_error [a0, a1] = [some a0, some a1, none, none, none, none, none, none, none, none, none, none] := rfl
theorem sc_program_error : FnScope N_program_error (["many", "value"] : List Str) (defScope s_program_error) := ⟨rfl, rfl, rfl, by decide +kernel, rfl, by decide +kernel, by decide +kernel⟩
abbrev s_in_brackets : Stmt := top 17
abbrev N_in_brackets : List Str := ["program"]
theorem st_in_brackets (a0 : D) : startD N_in_brackets [a0] = [some a0] := rfl
theorem sc_in_brackets : FnScope N_in_brackets (["program"] : List Str) (defScope s_in_brackets) := ⟨rfl, rfl, rfl, by decide +kernel, rfl, by decide +kernel, by decide +kernel⟩
abbrev s_part_text : Stmt := top 18
abbrev N_part_text : List Str := ["part", "program"]
theorem st_part_text (a0 : D) : startD N_part_text [a0] = [some a0, none] := rfl
theorem sc_part_text : FnScope N_part_text (["part"] : List Str) (defScope s_part_text) := ⟨rfl, rfl, rfl, by decide +kernel, rfl, by decide +kernel, by decide +kernel⟩
abbrev s_program_text : Stmt := top 19
abbrev N_program_text : List Str := ["program", "part"]
theorem st_program_text (a0 : D) : startD N_program_text [a0] = [some a0, none] := rfl
theorem sc_program_text : FnScope N_program_text (["program"] : List Str) (defScope s_program_text) := ⟨rfl, rfl, rfl, by decide +kernel, rfl, by decide +kernel, by decide +kernel⟩
abbrev s_ProgramReader___init__ : Stmt := inClass (top 20) 0
abbrev N_ProgramReader___init__ : List Str := ["self", "text"]
theorem st_ProgramReader___init__ (a0 a1 : D) : startD N_ProgramReader___init__ [a0, a1] = [some a0, some a1] := rfl
theorem sc_ProgramReader___init__ : FnScope N_ProgramReader___init__ (["self", "text"] : List Str) (defScope s_ProgramReader___init__) := ⟨rfl, rfl, rfl, by decide +kernel, rfl, by decide +kernel, by decide +kernel⟩
abbrev s_ProgramReader_takes : Stmt := inClass (top 20) 1
abbrev N_ProgramReader_takes : List Str := ["self", "sign"]
theorem st_ProgramReader_takes (a0 a1 : D) : startD N_ProgramReader_takes [a0, a1] = [some a0, some a1] := rfl
theorem sc_ProgramReader_takes : FnScope N_ProgramReader_takes (["self", "sign"] : List Str) (defScope s_ProgramReader_takes) := ⟨rfl, rfl, rfl, by decide +kernel, rfl, by decide +kernel, by decide +kernel⟩
abbrev s_ProgramReader_need : Stmt := inClass (top 20) 2
abbrev N_ProgramReader_need : List Str := ["self", "sign"]
theorem st_ProgramReader_need (a0 a1 : D) : startD N_ProgramReader_need [a0, a1] = [some a0, some a1] := rfl
theorem sc_ProgramReader_need : FnScope N_ProgramReader_need (["self", "sign"] : List Str) (defScope s_ProgramReader_need) := ⟨rfl, rfl, rfl, by decide +kernel, rfl, by decide +kernel, by decide +kernel⟩
abbrev s_ProgramReader_bracketed : Stmt := inClass (top 20) 3
abbrev N_ProgramReader_bracketed : List Str := ["self", "deep", "found"]
theorem st_ProgramReader_bracketed (a0 a1 : D) : startD N_ProgramReader_bracketed [a0, a1] = [some a0, some a1, none] := rfl
theorem sc_ProgramReader_bracketed : FnScope N_ProgramReader_bracketed (["self", "deep"] : List Str) (defScope s_ProgramReader_bracketed) := ⟨rfl, rfl, rfl, by decide +kernel, rfl, by decide +kernel, by decide +kernel⟩
abbrev s_ProgramReader_parts : Stmt := inClass (top 20) 4
abbrev N_ProgramReader_parts : List Str := ["self", "deep", "found"]
theorem st_ProgramReader_parts (a0 a1 : D) : startD N_ProgramReader_parts [a0, a1] = [some a0, some a1, none] := rfl
theorem sc_ProgramReader_parts : FnScope N_ProgramReader_parts (["self", "deep"] : List Str) (defScope s_ProgramReader_parts) := ⟨rfl, rfl, rfl, by decide +kernel, rfl, by decide +kernel, by decide +kernel⟩
abbrev s_ProgramReader_room : Stmt := inClass (top 20) 5
abbrev N_ProgramReader_room : List Str := ["self", "sign"]
theorem st_ProgramReader_room (a0 : D) : startD N_ProgramReader_room [a0] = [some a0, none] := rfl
theorem sc_ProgramReader_room : FnScope N_ProgramReader_room (["self"] : List Str) (defScope s_ProgramReader_room) := ⟨rfl, rfl, rfl, by decide +kernel, rfl, by decide +kernel, by decide +kernel⟩
abbrev s_ProgramReader_one_part : Stmt := inClass (top 20) 6
abbrev N_ProgramReader_one_part : List Str := ["self", "deep", "room", "found"]
theorem st_ProgramReader_one_part (a0 a1 : D) : startD N_ProgramReader_one_part [a0, a1] = [some a0, some a1, none, none] := rfl
theorem sc_ProgramReader_one_part : FnScope N_ProgramReader_one_part (["self", "deep"] : List Str) (defScope s_ProgramReader_one_part) := ⟨rfl, rfl, rfl, by decide +kernel, rfl, by decide +kernel, by decide +kernel⟩
abbrev s_read_program : Stmt := top 21
abbrev N_read_program : List Str := ["value", "reader", "found"]
theorem st_read_program (a0 : D) : startD N_read_program [a0] = [some a0, none, none] := rfl
theorem sc_read_program : FnScope N_read_program (["value"] : List Str) (defScope s_read_program) := ⟨rfl, rfl, rfl, by decide +kernel, rfl, by decide +kernel, by decide +kernel⟩
abbrev s__law_deck : Stmt := top 23
abbrev N__law_deck : List Str := ["script", "seal", "great", "cell", "own"]
theorem st__law_deck (a0 : D) : startD N__law_deck [a0] = [some a0, none, none, none, none] := rfl
theorem sc__law_deck : FnScope N__law_deck (["script"] : List Str) (defScope s__law_deck) := ⟨rfl, rfl, rfl, by decide +kernel, rfl, by decide +kernel, by decide +kernel⟩
abbrev s__law_draw : Stmt := top 24
abbrev N__law_draw : List Str := ["deck", "many", "cell", "number"]
theorem st__law_draw (a0 a1 : D) : startD N__law_draw [a0, a1] = [some a0, some a1, none, none] := rfl
theorem sc__law_draw : FnScope N__law_draw (["deck", "many"] : List Str) (defScope s__law_draw) := ⟨rfl, rfl, rfl, by decide +kernel, rfl, by decide +kernel, by decide +kernel⟩
abbrev s__law_pick : Stmt := top 25
abbrev N__law_pick : List Str := ["deck", "items"]
theorem st__law_pick (a0 a1 : D) : startD N__law_pick [a0, a1] = [some a0, some a1] := rfl
theorem sc__law_pick : FnScope N__law_pick (["deck", "items"] : List Str) (defScope s__law_pick) := ⟨rfl, rfl, rfl, by decide +kernel, rfl, by decide +kernel, by decide +kernel⟩
abbrev s__law_parts : Stmt := top 26
abbrev N__law_parts : List Str := ["deck", "rooms", "left", "deep", "found", "spent", "turn", "part", "own"]
theorem st__law_parts (a0 a1 a2 a3 : D) : startD N__law_parts [a0, a1, a2, a3] = [some a0, some a1, some a2, some a3, none, none, none, none, none] := rfl
theorem sc__law_parts : FnScope N__law_parts (["deck", "rooms", "left", "deep"] : List Str) (defScope s__law_parts) := ⟨rfl, rfl, rfl, by decide +kernel, rfl, by decide +kernel, by decide +kernel⟩
abbrev s__law_part : Stmt := top 27
abbrev N__law_part : List Str := ["deck", "rooms", "left", "deep", "sort", "room", "own", "spent", "lots", "turn", "more", "other"]
theorem st__law_part (a0 a1 a2 a3 : D) : startD N__law_part [a0, a1, a2, a3] = [some a0, some a1, some a2, some a3, none, none, none, none, none, none, none, none] := rfl
theorem sc__law_part : FnScope N__law_part (["deck", "rooms", "left", "deep"] : List Str) (defScope s__law_part) := ⟨rfl, rfl, rfl, by decide +kernel, rfl, by decide +kernel, by decide +kernel⟩
abbrev s__law_program : Stmt := top 28
abbrev N__law_program : List Str := ["deck", "many", "left", "found", "spent"]
theorem st__law_program (a0 a1 a2 : D) : startD N__law_program [a0, a1, a2] = [some a0, some a1, some a2, none, none] := rfl
theorem sc__law_program : FnScope N__law_program (["deck", "many", "left"] : List Str) (defScope s__law_program) := ⟨rfl, rfl, rfl, by decide +kernel, rfl, by decide +kernel, by decide +kernel⟩
abbrev s__law_count : Stmt := top 29
abbrev N__law_count : List Str := ["program", "found", "part", "own", "more"]
theorem st__law_count (a0 : D) : startD N__law_count [a0] = [some a0, none, none, none, none] := rfl
theorem sc__law_count : FnScope N__law_count (["program"] : List Str) (defScope s__law_count) := ⟨rfl, rfl, rfl, by decide +kernel, rfl, by decide +kernel, by decide +kernel⟩
abbrev s__law_program_error : Stmt := top 30
abbrev N__law_program_error : List Str := ["many", "value", "counted", "error"]
theorem st__law_program_error (a0 a1 : D) : startD N__law_program_error [a0, a1] = [some a0, some a1, none, none] := rfl
theorem sc__law_program_error : FnScope N__law_program_error (["many", "value"] : List Str) (defScope s__law_program_error) := ⟨rfl, rfl, rfl, by decide +kernel, rfl, by decide +kernel, by decide +kernel⟩
abbrev s__law_first_error : Stmt := top 31
abbrev N__law_first_error : List Str := ["many", "program", "spot", "within_v", "deep", "counted", "number", "part", "own", "lots", "at", "lot", "further", "more", "error"]
theorem st__law_first_error (a0 a1 a2 a3 a4 a5 : D) : startD N__law_first_error [a0, a1, a2, a3, a4, a5] = [some a0, some a1, some a2, some a3, some a4, some a5, none, none, none, none, none, none, none, none, none] := rfl
theorem sc__law_first_error : FnScope N__law_first_error (["many", "program", "spot", "within_v", "deep", "counted"] : List Str) (defScope s__law_first_error) := ⟨rfl, rfl, rfl, by decide +kernel, rfl, by decide +kernel, by decide +kernel⟩
abbrev s__law_lots : Stmt := top 32
abbrev N__law_lots : List Str := ["many", "part", "is_room", "own"]
theorem st__law_lots (a0 a1 : D) : startD N__law_lots [a0, a1] = [some a0, some a1, none, none] := rfl
theorem sc__law_lots : FnScope N__law_lots (["many", "part"] : List Str) (defScope s__law_lots) := ⟨rfl, rfl, rfl, by decide +kernel, rfl, by decide +kernel, by decide +kernel⟩
abbrev s__law_text : Stmt := top 33
abbrev N__law_text : List Str := ["program", "found", "part", "own"]
theorem st__law_text (a0 : D) : startD N__law_text [a0] = [some a0, none, none, none] := rfl
theorem sc__law_text : FnScope N__law_text (["program"] : List Str) (defScope s__law_text) := ⟨rfl, rfl, rfl, by decide +kernel, rfl, by decide +kernel, by decide +kernel⟩
abbrev s__law_near : Stmt := top 34
abbrev N__law_near : List Str := ["deck", "program", "at", "way", "part", "fresh"]
theorem st__law_near (a0 a1 : D) : startD N__law_near [a0, a1] = [some a0, some a1, none, none, none, none] := rfl
theorem sc__law_near : FnScope N__law_near (["deck", "program"] : List Str) (defScope s__law_near) := ⟨rfl, rfl, rfl, by decide +kernel, rfl, by decide +kernel, by decide +kernel⟩
abbrev s_law : Stmt := top 35
abbrev N_law : List Str := ["script", "deck", "turn", "program", "other", "texts", "own", "kept", "due", "told", "back"]
theorem st_law (a0 : D) : startD N_law [a0] = [some a0, none, none, none, none, none, none, none, none, none, none] := rfl
theorem sc_law : FnScope N_law (["script"] : List Str) (defScope s_law) := ⟨rfl, rfl, rfl, by decide +kernel, rfl, by decide +kernel, by decide +kernel⟩
theorem bt_range : bootBuiltins "range" = some (.type "range") := by decide +kernel
theorem bt_enumerate : bootBuiltins "enumerate" = some (.type "enumerate") := by decide +kernel
theorem bt_isinstance : bootBuiltins "isinstance" = some (.builtin "isinstance") := by decide +kernel
theorem bt_int : bootBuiltins "int" = some (.type "int") := by decide +kernel
theorem bt_tuple : bootBuiltins "tuple" = some (.type "tuple") := by decide +kernel
theorem bt_all : bootBuiltins "all" = some (.builtin "all") := by decide +kernel
theorem bt_len : bootBuiltins "len" = some (.builtin "len") := by decide +kernel
theorem bt_str : bootBuiltins "str" = some (.type "str") := by decide +kernel
theorem bt_abs : bootBuiltins "abs" = some (.builtin "abs") := by decide +kernel
theorem bt_list : bootBuiltins "list" = some (.type "list") := by decide +kernel
theorem bt_bool : bootBuiltins "bool" = some (.type "bool") := by decide +kernel
theorem bt_repr : bootBuiltins "repr" = some (.builtin "repr") := by decide +kernel
/-- what the top has written -/
structure Tx (K : PySem.W.Frag) (mg : Str → Option Value) : Type where
  n_range : mg "range" = none
  n_enumerate : mg "enumerate" = none
  n_isinstance : mg "isinstance" = none
  n_int : mg "int" = none
  n_tuple : mg "tuple" = none
  n_all : mg "all" = none
  n_len : mg "len" = none
  n_str : mg "str" = none
  n_abs : mg "abs" = none
  n_list : mg "list" = none
  n_bool : mg "bool" = none
  n_repr : mg "repr" = none
  {t_MAX_ROOMS : Tok}
  c_MAX_ROOMS : mg "MAX_ROOMS" = some (.int 6 t_MAX_ROOMS)
  {t_MAX_PARTS : Tok}
  c_MAX_PARTS : mg "MAX_PARTS" = some (.int 12 t_MAX_PARTS)
  {t_MAX_DEEP : Tok}
  c_MAX_DEEP : mg "MAX_DEEP" = some (.int 5 t_MAX_DEEP)
  {t_FIGURES : Tok}
  c_FIGURES : mg "FIGURES" = some (.str "0123456789" t_FIGURES)
  {f_is_integer : Addr}
  {d_is_integer : FuncData}
  F_is_integer : Fun K "is_integer" "is_integer" s_is_integer f_is_integer d_is_integer
  b_is_integer : Binds K d_is_integer ["value"] []
  g_is_integer : mg "is_integer" = some (.ref f_is_integer)
  {f_is_within : Addr}
  {d_is_within : FuncData}
  F_is_within : Fun K "is_within" "is_within" s_is_within f_is_within d_is_within
  b_is_within : Binds K d_is_within ["value", "low", "high"] []
  g_is_within : mg "is_within" = some (.ref f_is_within)
  {f_are_programs : Addr}
  {d_are_programs : FuncData}
  F_are_programs : Fun K "are_programs" "are_programs" s_are_programs f_are_programs d_are_programs
  b_are_programs : Binds K d_are_programs ["value"] []
  g_are_programs : mg "are_programs" = some (.ref f_are_programs)
  {f_is_part : Addr}
  {d_is_part : FuncData}
  F_is_part : Fun K "is_part" "is_part" s_is_part f_is_part d_is_part
  b_is_part : Binds K d_is_part ["many", "value"] []
  g_is_part : mg "is_part" = some (.ref f_is_part)
  {f_within : Addr}
  {d_within : FuncData}
  F_within : Fun K "within" "within" s_within f_within d_within
  b_within : Binds K d_within ["part", "spot"] []
  g_within : mg "within" = some (.ref f_within)
  {f_part_error : Addr}
  {d_part_error : FuncData}
  F_part_error : Fun K "part_error" "part_error" s_part_error f_part_error d_part_error
  b_part_error : Binds K d_part_error ["many", "value", "spot", "rooms", "deep"] []
  g_part_error : mg "part_error" = some (.ref f_part_error)
  {f_program_error : Addr}
  {d_program_error : FuncData}
  F_program_error : Fun K "program_error" "program_error" s_program_error f_program_error d_program_error
  b_program_error : Binds K d_program_error ["many", "value"] []
  g_program_error : mg "program_error" = some (.ref f_program_error)
  {f_in_brackets : Addr}
  {d_in_brackets : FuncData}
  F_in_brackets : Fun K "in_brackets" "in_brackets" s_in_brackets f_in_brackets d_in_brackets
  b_in_brackets : Binds K d_in_brackets ["program"] []
  g_in_brackets : mg "in_brackets" = some (.ref f_in_brackets)
  {f_part_text : Addr}
  {d_part_text : FuncData}
  F_part_text : Fun K "part_text" "part_text" s_part_text f_part_text d_part_text
  b_part_text : Binds K d_part_text ["part"] []
  g_part_text : mg "part_text" = some (.ref f_part_text)
  {f_program_text : Addr}
  {d_program_text : FuncData}
  F_program_text : Fun K "program_text" "program_text" s_program_text f_program_text d_program_text
  b_program_text : Binds K d_program_text ["program"] []
  g_program_text : mg "program_text" = some (.ref f_program_text)
  {f_ProgramReader___init__ : Addr}
  {d_ProgramReader___init__ : FuncData}
  F_ProgramReader___init__ : Fun K "__init__" "ProgramReader.__init__" s_ProgramReader___init__ f_ProgramReader___init__ d_ProgramReader___init__
  b_ProgramReader___init__ : Binds K d_ProgramReader___init__ ["self", "text"] []
  {f_ProgramReader_takes : Addr}
  {d_ProgramReader_takes : FuncData}
  F_ProgramReader_takes : Fun K "takes" "ProgramReader.takes" s_ProgramReader_takes f_ProgramReader_takes d_ProgramReader_takes
  b_ProgramReader_takes : Binds K d_ProgramReader_takes ["self", "sign"] []
  {f_ProgramReader_need : Addr}
  {d_ProgramReader_need : FuncData}
  F_ProgramReader_need : Fun K "need" "ProgramReader.need" s_ProgramReader_need f_ProgramReader_need d_ProgramReader_need
  b_ProgramReader_need : Binds K d_ProgramReader_need ["self", "sign"] []
  {f_ProgramReader_bracketed : Addr}
  {d_ProgramReader_bracketed : FuncData}
  F_ProgramReader_bracketed : Fun K "bracketed" "ProgramReader.bracketed" s_ProgramReader_bracketed f_ProgramReader_bracketed d_ProgramReader_bracketed
  b_ProgramReader_bracketed : Binds K d_ProgramReader_bracketed ["self", "deep"] []
  {f_ProgramReader_parts : Addr}
  {d_ProgramReader_parts : FuncData}
  F_ProgramReader_parts : Fun K "parts" "ProgramReader.parts" s_ProgramReader_parts f_ProgramReader_parts d_ProgramReader_parts
  b_ProgramReader_parts : Binds K d_ProgramReader_parts ["self", "deep"] []
  {f_ProgramReader_room : Addr}
  {d_ProgramReader_room : FuncData}
  F_ProgramReader_room : Fun K "room" "ProgramReader.room" s_ProgramReader_room f_ProgramReader_room d_ProgramReader_room
  b_ProgramReader_room : Binds K d_ProgramReader_room ["self"] []
  {f_ProgramReader_one_part : Addr}
  {d_ProgramReader_one_part : FuncData}
  F_ProgramReader_one_part : Fun K "one_part" "ProgramReader.one_part" s_ProgramReader_one_part f_ProgramReader_one_part d_ProgramReader_one_part
  b_ProgramReader_one_part : Binds K d_ProgramReader_one_part ["self", "deep"] []
  {f_read_program : Addr}
  {d_read_program : FuncData}
  F_read_program : Fun K "read_program" "read_program" s_read_program f_read_program d_read_program
  b_read_program : Binds K d_read_program ["value"] []
  g_read_program : mg "read_program" = some (.ref f_read_program)
  {f__law_deck : Addr}
  {d__law_deck : FuncData}
  F__law_deck : Fun K "_law_deck" "_law_deck" s__law_deck f__law_deck d__law_deck
  b__law_deck : Binds K d__law_deck ["script"] []
  g__law_deck : mg "_law_deck" = some (.ref f__law_deck)
  {f__law_draw : Addr}
  {d__law_draw : FuncData}
  F__law_draw : Fun K "_law_draw" "_law_draw" s__law_draw f__law_draw d__law_draw
  b__law_draw : Binds K d__law_draw ["deck", "many"] []
  g__law_draw : mg "_law_draw" = some (.ref f__law_draw)
  {f__law_pick : Addr}
  {d__law_pick : FuncData}
  F__law_pick : Fun K "_law_pick" "_law_pick" s__law_pick f__law_pick d__law_pick
  b__law_pick : Binds K d__law_pick ["deck", "items"] []
  g__law_pick : mg "_law_pick" = some (.ref f__law_pick)
  {f__law_parts : Addr}
  {d__law_parts : FuncData}
  F__law_parts : Fun K "_law_parts" "_law_parts" s__law_parts f__law_parts d__law_parts
  b__law_parts : Binds K d__law_parts ["deck", "rooms", "left", "deep"] []
  g__law_parts : mg "_law_parts" = some (.ref f__law_parts)
  {f__law_part : Addr}
  {d__law_part : FuncData}
  F__law_part : Fun K "_law_part" "_law_part" s__law_part f__law_part d__law_part
  b__law_part : Binds K d__law_part ["deck", "rooms", "left", "deep"] []
  g__law_part : mg "_law_part" = some (.ref f__law_part)
  {f__law_program : Addr}
  {d__law_program : FuncData}
  F__law_program : Fun K "_law_program" "_law_program" s__law_program f__law_program d__law_program
  b__law_program : Binds K d__law_program ["deck", "many", "left"] []
  g__law_program : mg "_law_program" = some (.ref f__law_program)
  {f__law_count : Addr}
  {d__law_count : FuncData}
  F__law_count : Fun K "_law_count" "_law_count" s__law_count f__law_count d__law_count
  b__law_count : Binds K d__law_count ["program"] []
  g__law_count : mg "_law_count" = some (.ref f__law_count)
  {f__law_program_error : Addr}
  {d__law_program_error : FuncData}
  F__law_program_error : Fun K "_law_program_error" "_law_program_error" s__law_program_error f__law_program_error d__law_program_error
  b__law_program_error : Binds K d__law_program_error ["many", "value"] []
  g__law_program_error : mg "_law_program_error" = some (.ref f__law_program_error)
  {f__law_first_error : Addr}
  {d__law_first_error : FuncData}
  F__law_first_error : Fun K "_law_first_error" "_law_first_error" s__law_first_error f__law_first_error d__law_first_error
  b__law_first_error : Binds K d__law_first_error ["many", "program", "spot", "within_v", "deep", "counted"] []
  g__law_first_error : mg "_law_first_error" = some (.ref f__law_first_error)
  {f__law_lots : Addr}
  {d__law_lots : FuncData}
  F__law_lots : Fun K "_law_lots" "_law_lots" s__law_lots f__law_lots d__law_lots
  b__law_lots : Binds K d__law_lots ["many", "part"] []
  g__law_lots : mg "_law_lots" = some (.ref f__law_lots)
  {f__law_text : Addr}
  {d__law_text : FuncData}
  F__law_text : Fun K "_law_text" "_law_text" s__law_text f__law_text d__law_text
  b__law_text : Binds K d__law_text ["program"] []
  g__law_text : mg "_law_text" = some (.ref f__law_text)
  {f__law_near : Addr}
  {d__law_near : FuncData}
  F__law_near : Fun K "_law_near" "_law_near" s__law_near f__law_near d__law_near
  b__law_near : Binds K d__law_near ["deck", "program"] []
  g__law_near : mg "_law_near" = some (.ref f__law_near)
  {f_law : Addr}
  {d_law : FuncData}
  F_law : Fun K "law" "law" s_law f_law d_law
  b_law : Binds K d_law ["script"] []
  g_law : mg "law" = some (.ref f_law)
  k_program_text : ∀ (s : Shared) (ws : List Value), K.In s.heap → ws.length = (["program"] : List Str).length → BindsTo s d_program_text ⟨[], (["program"] : List Str).zip ws⟩ ((["program"] : List Str).zip ws)
  k_read_program : ∀ (s : Shared) (ws : List Value), K.In s.heap → ws.length = (["value"] : List Str).length → BindsTo s d_read_program ⟨[], (["value"] : List Str).zip ws⟩ ((["value"] : List Str).zip ws)
  {C_ProgramReader : Addr}
  cl_ProgramReader : Cls K C_ProgramReader
  g_ProgramReader : mg "ProgramReader" = some (.ref C_ProgramReader)
  mk_ProgramReader : Mk K C_ProgramReader f_ProgramReader___init__
  a_text : NoAttr K C_ProgramReader "text"
  a_place : NoAttr K C_ProgramReader "place"
  m_ProgramReader_takes : Meth K C_ProgramReader "takes" f_ProgramReader_takes
  m_ProgramReader_need : Meth K C_ProgramReader "need" f_ProgramReader_need
  m_ProgramReader_bracketed : Meth K C_ProgramReader "bracketed" f_ProgramReader_bracketed
  m_ProgramReader_parts : Meth K C_ProgramReader "parts" f_ProgramReader_parts
  m_ProgramReader_room : Meth K C_ProgramReader "room" f_ProgramReader_room
  m_ProgramReader_one_part : Meth K C_ProgramReader "one_part" f_ProgramReader_one_part
end K76
namespace K76
open PySem PySem.Spec PyProof.Rows L2 DL
section
variable {P : Program} {w : World} {K : PySem.W.Frag} {mg : Str → Option Value} {base : Heap}
def sp_is_integer : DSp := fun ds M Q E => ∃ d, ds = [d] ∧ ∃ i, d = .int i ∧ Q (.bl true) M
theorem ok_is_integer (T : Tx K mg) : DFn P w K mg base CX0 1 T.f_is_integer T.d_is_integer ["value"] sp_is_integer := by
  refine dfn_of (N := N_is_integer) T.F_is_integer sc_is_integer (by decide) (fun ds M Q E h => ?_) (fun cdv A outer s H hr hgd => (dss_one (ds_ret (de_and (de_callB call_isi tr_isi rfl T.n_isinstance bt_isinstance (da_cons (de_var 0) (da_cons (de_bty rfl T.n_int bt_int) da_nil))) (de_one (de_not (de_callB call_isi tr_isi rfl T.n_isinstance bt_isinstance (da_cons (de_var 0) (da_cons (de_bty rfl T.n_bool bt_bool) da_nil))))))))) ?_
  · obtain ⟨d, rfl, _⟩ := h; rfl
  rintro ds M Q E ⟨d, rfl, i, rfl, q⟩
  rw [st_is_integer]
  simp only [wipeD, List.map_cons, List.map_nil, atI_0, atI_1, atI_2, atI_3, atI_m1, atI_m1', bIx, bIn_2, bNotIn_2, line16, Nat.reduceLeDiff, Int.reduceEq, or_true, true_or, or_self, or_false, false_or, bEq_int, bNe_int, kb_ii, kb_ib, kb_ss, kb_tt, decide_true, decide_false, dLc_g, dFor_g, diSeq, diEnum, diRng1, diRng2, dMeth, dMake, dFld, exists_and_left, dRet, dSeq, dNext, dIfS, dDrop, dRetN, dAsg, dgName, dgTup, dgCons, dgNil, dPar, dVar, dC, dOp, dTest, dChain, dAndV, dOrV, dNotV, dAndT, dOrT, dNotT, dIf, dNil, dCons, dStar, dTup, dLst, dCallB, dCall, dCallK, dBM, dBM0, dSl, dPart, dNoPart, dNeg, dTy, bIsi, tyName, bLen, bInt, bIntC, bAdd, bIs, bIsNot, isNon, bInt1, bAbs, bStrI, bTuple, bList, itemsOf, bSl, List.getElem?_cons_zero, List.getElem?_cons_succ, List.getElem?_nil, List.set_cons_zero, List.set_cons_succ, Option.some.injEq, exists_eq_left, exists_eq_left', Bool.false_eq_true, if_true, if_false, ite_true, ite_false, reduceIte, Bool.not_true, Bool.not_false, List.length_cons, List.length_nil, List.append_nil, List.nil_append, List.cons_append, List.zip_cons_cons, List.zip_nil_left, List.zip_nil_right, List.foldl_cons, List.foldl_nil, Nat.reduceAdd, true_and, and_true]
  exact Fg.now q
def sp_is_within : DSp := fun ds M Q E => ∃ i lo hi, ds = [.int i, .int lo, .int hi] ∧ Q (.bl (decide (lo ≤ i) && decide (i ≤ hi))) M
theorem ok_is_within (T : Tx K mg) : DFn P w K mg base CX0 2 T.f_is_within T.d_is_within ["value", "low", "high"] sp_is_within := by
  refine dfn_of (N := N_is_within) T.F_is_within sc_is_within (by decide) (fun ds M Q E h => ?_) (fun cdv A outer s H hr hgd => (dss_one (ds_ret (de_and (de_call (ok_is_integer T) (hr.mono (by omega)) hgd rfl T.g_is_integer T.F_is_integer.kp T.b_is_integer dpass0 (da_cons (de_var 0) da_nil)) (de_one (de_chain op_le op_le tr_intB tr_intB (de_var 1) (de_var 0) (de_var 2))))))) ?_
  · obtain ⟨i, lo, hi, rfl, _⟩ := h; rfl
  rintro ds M Q E ⟨i, lo, hi, rfl, q⟩
  rw [st_is_within]
  simp only [wipeD, List.map_cons, List.map_nil, atI_0, atI_1, atI_2, atI_3, atI_m1, atI_m1', bIx, bIn_2, bNotIn_2, line16, Nat.reduceLeDiff, Int.reduceEq, or_true, true_or, or_self, or_false, false_or, bEq_int, bNe_int, kb_ii, kb_ib, kb_ss, kb_tt, decide_true, decide_false, dLc_g, dFor_g, diSeq, diEnum, diRng1, diRng2, dMeth, dMake, dFld, exists_and_left, dRet, dSeq, dNext, dIfS, dDrop, dRetN, dAsg, dgName, dgTup, dgCons, dgNil, dPar, dVar, dC, dOp, dTest, dChain, dAndV, dOrV, dNotV, dAndT, dOrT, dNotT, dIf, dNil, dCons, dStar, dTup, dLst, dCallB, dCall, dCallK, dBM, dBM0, dSl, dPart, dNoPart, dNeg, dTy, bIsi, tyName, bLen, bInt, bIntC, bAdd, bIs, bIsNot, isNon, bInt1, bAbs, bStrI, bTuple, bList, itemsOf, bSl, List.getElem?_cons_zero, List.getElem?_cons_succ, List.getElem?_nil, List.set_cons_zero, List.set_cons_succ, Option.some.injEq, exists_eq_left, exists_eq_left', Bool.false_eq_true, if_true, if_false, ite_true, ite_false, reduceIte, Bool.not_true, Bool.not_false, List.length_cons, List.length_nil, List.append_nil, List.nil_append, List.cons_append, List.zip_cons_cons, List.zip_nil_left, List.zip_nil_right, List.foldl_cons, List.foldl_nil, Nat.reduceAdd, true_and, and_true, sp_is_integer]
  refine ⟨_, rfl, _, rfl, ?_⟩
  by_cases h1 : lo ≤ i
  · simp [h1] at q ⊢; exact Fg.now q
  · simp [h1] at q ⊢; exact Fg.now q
def sp_are_programs : DSp := fun ds M Q E => ∃ lots : List (List Part), ds = [.tup (pDss lots)] ∧ 2 ≤ lots.length ∧ lots.length ≤ 4 ∧ Q (.bl true) M
theorem pDss_length (lots : List (List Part)) : (pDss lots).length = lots.length := by rw [pDss_map]; simp
theorem pDs_length (lots : List Part) : (pDs lots).length = lots.length := by rw [pDs_map]; simp
theorem pDss_get {lots : List (List Part)} {i : Nat} {x : D} (h : (pDss lots)[i]? = some x) : ∃ l, lots[i]? = some l ∧ x = .tup (pDs l) := by
  rw [pDss_map, List.getElem?_map] at h
  cases e : lots[i]? with
  | none => rw [e] at h; cases h
  | some l => rw [e] at h; cases h; exact ⟨l, rfl, rfl⟩
theorem pDs_get {lots : List Part} {i : Nat} {x : D} (h : (pDs lots)[i]? = some x) : ∃ l, lots[i]? = some l ∧ x = pD l := by
  rw [pDs_map, List.getElem?_map] at h
  cases e : lots[i]? with
  | none => rw [e] at h; cases h
  | some l => rw [e] at h; cases h; exact ⟨l, rfl, rfl⟩
theorem ok_are_programs (T : Tx K mg) : DFn P w K mg base CX0 1 T.f_are_programs T.d_are_programs ["value"] sp_are_programs := by
  refine dfn_of (N := N_are_programs) T.F_are_programs sc_are_programs (by decide) (fun ds M Q E h => ?_) (fun cdv A outer s H hr hgd => (dss_one (ds_ret (de_and (de_callB call_isi tr_isi rfl T.n_isinstance bt_isinstance (da_cons (de_var 0) (da_cons (de_bty rfl T.n_tuple bt_tuple) da_nil))) (de_and (de_chain op_le op_le tr_intB tr_intB de_int (de_callB call_len tr_len rfl T.n_len bt_len (da_cons (de_var 0) da_nil)) de_int) (de_one (de_callB (cr_all rfl) tr_all rfl T.n_all bt_all (da_cons (de_lc (own := [("item", 1)]) rfl sc_are_programs.nd (di_seq (de_var 0)) (blkOk_by (N := N_are_programs) (sc := defScope s_are_programs) (by decide +kernel)) (fun _ _ _ _ _ => (pg_name (i := 1) sc_are_programs.nd rfl (by first | exact Or.inl rfl | exact Or.inr rfl))) dgr_name (only_name (by decide)) (fun _ _ _ _ _ => (de_callB call_isi tr_isi rfl T.n_isinstance bt_isinstance (da_cons (de_var 1) (da_cons (de_bty rfl T.n_tuple bt_tuple) da_nil))))) da_nil)))))))) ?_
  · obtain ⟨i, rfl, _⟩ := h; rfl
  rintro ds M Q E ⟨lots, rfl, h2, h4, q⟩
  rw [st_are_programs]
  simp only [wipeD, List.map_cons, List.map_nil, atI_0, atI_1, atI_2, atI_3, atI_m1, atI_m1', bIx, bIn_2, bNotIn_2, line16, Nat.reduceLeDiff, Int.reduceEq, or_true, true_or, or_self, or_false, false_or, bEq_int, bNe_int, kb_ii, kb_ib, kb_ss, kb_tt, decide_true, decide_false, dLc_g, dFor_g, diSeq, diEnum, diRng1, diRng2, dMeth, dMake, dFld, exists_and_left, dRet, dSeq, dNext, dIfS, dDrop, dRetN, dAsg, dgName, dgTup, dgCons, dgNil, dPar, dVar, dC, dOp, dTest, dChain, dAndV, dOrV, dNotV, dAndT, dOrT, dNotT, dIf, dNil, dCons, dStar, dTup, dLst, dCallB, dCall, dCallK, dBM, dBM0, dSl, dPart, dNoPart, dNeg, dTy, bIsi, tyName, bLen, bInt, bIntC, bAdd, bIs, bIsNot, isNon, bInt1, bAbs, bStrI, bTuple, bList, itemsOf, bSl, List.getElem?_cons_zero, List.getElem?_cons_succ, List.getElem?_nil, List.set_cons_zero, List.set_cons_succ, Option.some.injEq, exists_eq_left, exists_eq_left', Bool.false_eq_true, if_true, if_false, ite_true, ite_false, reduceIte, Bool.not_true, Bool.not_false, List.length_cons, List.length_nil, List.append_nil, List.nil_append, List.cons_append, List.zip_cons_cons, List.zip_nil_left, List.zip_nil_right, List.foldl_cons, List.foldl_nil, Nat.reduceAdd, true_and, and_true, pDss_length]
  have e1 : ((2 : Int) ≤ lots.length) := by omega
  have e2 : ((lots.length : Int) ≤ 4) := by omega
  simp only [e1, e2, decide_true, if_true]
  refine lcG_map (fun _ => .bl true) (fun _ _ _ => trivial) (by rw [pDss_length, line16]; omega) (fun i x M' hx hs R hR => ?_) fun p hp => ?_
  · obtain ⟨l, _, rfl⟩ := pDss_get hx
    simp only [wipeD, List.map_cons, List.map_nil, atI_0, atI_1, atI_2, atI_3, atI_m1, atI_m1', bIx, bIn_2, bNotIn_2, line16, Nat.reduceLeDiff, Int.reduceEq, or_true, true_or, or_self, or_false, false_or, bEq_int, bNe_int, kb_ii, kb_ib, kb_ss, kb_tt, decide_true, decide_false, dLc_g, dFor_g, diSeq, diEnum, diRng1, diRng2, dMeth, dMake, dFld, exists_and_left, dRet, dSeq, dNext, dIfS, dDrop, dRetN, dAsg, dgName, dgTup, dgCons, dgNil, dPar, dVar, dC, dOp, dTest, dChain, dAndV, dOrV, dNotV, dAndT, dOrT, dNotT, dIf, dNil, dCons, dStar, dTup, dLst, dCallB, dCall, dCallK, dBM, dBM0, dSl, dPart, dNoPart, dNeg, dTy, bIsi, tyName, bLen, bInt, bIntC, bAdd, bIs, bIsNot, isNon, bInt1, bAbs, bStrI, bTuple, bList, itemsOf, bSl, List.getElem?_cons_zero, List.getElem?_cons_succ, List.getElem?_nil, List.set_cons_zero, List.set_cons_succ, Option.some.injEq, exists_eq_left, exists_eq_left', Bool.false_eq_true, if_true, if_false, ite_true, ite_false, reduceIte, Bool.not_true, Bool.not_false, List.length_cons, List.length_nil, List.append_nil, List.nil_append, List.cons_append, List.zip_cons_cons, List.zip_nil_left, List.zip_nil_right, List.foldl_cons, List.foldl_nil, Nat.reduceAdd, true_and, and_true]
    exact hR
  · refine ⟨List.replicate lots.length true, ?_, ?_⟩
    · rw [put_same, ← pDss_length lots]; simp [List.map_const']
    · simp; exact Fg.mk (Sub.putNew hp) q
def sp_is_part : DSp := fun ds M Q E => ∃ p, ds = [.int 6, pD p] ∧ okP p = true ∧ cP p ≤ 13 ∧ Q (.bl true) M
theorem ok_is_part (T : Tx K mg) : DFn P w K mg base CX0 3 T.f_is_part T.d_is_part ["many", "value"] sp_is_part := by
  refine dfn_of (N := N_is_part) T.F_is_part sc_is_part (by decide) (fun ds M Q E h => ?_) (fun cdv A outer s H hr hgd => (dss_cons (ds_if (DW.dt (dw_or (dt_not (dt_val (de_callB call_isi tr_isi rfl T.n_isinstance bt_isinstance (da_cons (de_var 1) (da_cons (de_bty rfl T.n_tuple bt_tuple) da_nil))))) (dw_or (dt_cmp (op_notIn3 (room65 hr)) tr_notIn (de_callB call_len tr_len rfl T.n_len bt_len (da_cons (de_var 1) da_nil)) (de_tup (da_cons de_int (da_cons de_int da_nil))) (by with_unfolding_all rfl)) (dw_or1 (dt_not (dt_val (de_callB call_isi tr_isi rfl T.n_isinstance bt_isinstance (da_cons (de_ix (hu_of hr) (de_var 1) de_int) (da_cons (de_bty rfl T.n_str bt_str) da_nil))))))))) (dss_one (ds_ret de_bl)) dss_nil) (dss_cons (ds_if (dt_cmp (op_eqD hr.units) tr_eq (de_ix (hu_of hr) (de_var 1) de_int) de_str (nomark _)) (dss_one (ds_ret (de_and (de_cmp (op_eqD hr.units) tr_eq (de_callB call_len tr_len rfl T.n_len bt_len (da_cons (de_var 1) da_nil)) de_int (nomark _)) (de_and (de_call (ok_is_within T) (hr.mono (by omega)) hgd rfl T.g_is_within T.F_is_within.kp T.b_is_within dpass0 (da_cons (de_ix (hu_of hr) (de_var 1) de_int) (da_cons de_int (da_cons (de_bin op_sub tr_int (de_var 0) de_int) da_nil)))) (de_one (de_callB call_isi tr_isi rfl T.n_isinstance bt_isinstance (da_cons (de_ix (hu_of hr) (de_var 1) de_int) (da_cons (de_bty rfl T.n_tuple bt_tuple) da_nil)))))))) dss_nil) (dss_cons (ds_if (dt_cmp (op_neD hr.units) tr_ne (de_callB call_len tr_len rfl T.n_len bt_len (da_cons (de_var 1) da_nil)) de_int (nomark _)) (dss_one (ds_ret de_bl)) dss_nil) (dss_cons (ds_if (dt_cmp (op_eqD hr.units) tr_eq (de_ix (hu_of hr) (de_var 1) de_int) de_str (nomark _)) (dss_one (ds_ret (de_call (ok_are_programs T) (hr.mono (by omega)) hgd rfl T.g_are_programs T.F_are_programs.kp T.b_are_programs dpass0 (da_cons (de_ix (hu_of hr) (de_var 1) de_int) da_nil)))) dss_nil) (dss_one (ds_ret (de_and (de_cmp (op_eqD hr.units) tr_eq (de_ix (hu_of hr) (de_var 1) de_int) de_str (nomark _)) (de_and (de_callB call_isi tr_isi rfl T.n_isinstance bt_isinstance (da_cons (de_ix (hu_of hr) (de_var 1) de_int) (da_cons (de_bty rfl T.n_tuple bt_tuple) da_nil))) (de_one (de_cmp (op_neD hr.units) tr_ne (de_ix (hu_of hr) (de_var 1) de_int) (de_tup da_nil) (nomark _)))))))))))) ?_
  · obtain ⟨i, rfl, _⟩ := h; rfl
  rintro ds M Q E ⟨p, rfl, hp, hc, q⟩
  rw [st_is_part]
  cases p with
  | inn r own =>
    have hr : r < 6 := by simp [okP] at hp; exact hp.1
    simp only [wipeD, List.map_cons, List.map_nil, atI_0, atI_1, atI_2, atI_3, atI_m1, atI_m1', bIx, bIn_2, bNotIn_2, line16, Nat.reduceLeDiff, Int.reduceEq, or_true, true_or, or_self, or_false, false_or, bEq_int, bNe_int, kb_ii, kb_ib, kb_ss, kb_tt, decide_true, decide_false, dLc_g, dFor_g, diSeq, diEnum, diRng1, diRng2, dMeth, dMake, dFld, exists_and_left, dRet, dSeq, dNext, dIfS, dDrop, dRetN, dAsg, dgName, dgTup, dgCons, dgNil, dPar, dVar, dC, dOp, dTest, dChain, dAndV, dOrV, dNotV, dAndT, dOrT, dNotT, dIf, dNil, dCons, dStar, dTup, dLst, dCallB, dCall, dCallK, dBM, dBM0, dSl, dPart, dNoPart, dNeg, dTy, bIsi, tyName, bLen, bInt, bIntC, bAdd, bIs, bIsNot, isNon, bInt1, bAbs, bStrI, bTuple, bList, itemsOf, bSl, List.getElem?_cons_zero, List.getElem?_cons_succ, List.getElem?_nil, List.set_cons_zero, List.set_cons_succ, Option.some.injEq, exists_eq_left, exists_eq_left', Bool.false_eq_true, if_true, if_false, ite_true, ite_false, reduceIte, Bool.not_true, Bool.not_false, List.length_cons, List.length_nil, List.append_nil, List.nil_append, List.cons_append, List.zip_cons_cons, List.zip_nil_left, List.zip_nil_right, List.foldl_cons, List.foldl_nil, Nat.reduceAdd, true_and, and_true, pD, bEq_str so_in so_in]
    simp [sp_is_within, bNotIn_2, show ((r : Int) ≤ 5) by omega]
    exact ⟨_, _, _, ⟨rfl, rfl, rfl⟩, by rw [if_pos (by omega)]; exact Fg.now q⟩
  | again own =>
    have h0 : own.isEmpty = false := by simp [okP] at hp; cases own <;> simp_all
    have hc' : cPs own ≤ 20 := by simp [cP] at hc; omega
    simp only [wipeD, List.map_cons, List.map_nil, atI_0, atI_1, atI_2, atI_3, atI_m1, atI_m1', bIx, bIn_2, bNotIn_2, line16, Nat.reduceLeDiff, Int.reduceEq, or_true, true_or, or_self, or_false, false_or, bEq_int, bNe_int, kb_ii, kb_ib, kb_ss, kb_tt, decide_true, decide_false, dLc_g, dFor_g, diSeq, diEnum, diRng1, diRng2, dMeth, dMake, dFld, exists_and_left, dRet, dSeq, dNext, dIfS, dDrop, dRetN, dAsg, dgName, dgTup, dgCons, dgNil, dPar, dVar, dC, dOp, dTest, dChain, dAndV, dOrV, dNotV, dAndT, dOrT, dNotT, dIf, dNil, dCons, dStar, dTup, dLst, dCallB, dCall, dCallK, dBM, dBM0, dSl, dPart, dNoPart, dNeg, dTy, bIsi, tyName, bLen, bInt, bIntC, bAdd, bIs, bIsNot, isNon, bInt1, bAbs, bStrI, bTuple, bList, itemsOf, bSl, List.getElem?_cons_zero, List.getElem?_cons_succ, List.getElem?_nil, List.set_cons_zero, List.set_cons_succ, Option.some.injEq, exists_eq_left, exists_eq_left', Bool.false_eq_true, if_true, if_false, ite_true, ite_false, reduceIte, Bool.not_true, Bool.not_false, List.length_cons, List.length_nil, List.append_nil, List.nil_append, List.cons_append, List.zip_cons_cons, List.zip_nil_left, List.zip_nil_right, List.foldl_cons, List.foldl_nil, Nat.reduceAdd, true_and, and_true, pD, bEq_str so_again so_in, bEq_str so_again so_either, bEq_str so_again so_again, ne_ai, ne_ae]
    simp [bNe_pnil hc', h0]
    exact Fg.now q
  | either lots =>
    have h0 : 2 ≤ lots.length ∧ lots.length ≤ 4 := by simp [okP] at hp; exact hp.1
    simp only [wipeD, List.map_cons, List.map_nil, atI_0, atI_1, atI_2, atI_3, atI_m1, atI_m1', bIx, bIn_2, bNotIn_2, line16, Nat.reduceLeDiff, Int.reduceEq, or_true, true_or, or_self, or_false, false_or, bEq_int, bNe_int, kb_ii, kb_ib, kb_ss, kb_tt, decide_true, decide_false, dLc_g, dFor_g, diSeq, diEnum, diRng1, diRng2, dMeth, dMake, dFld, exists_and_left, dRet, dSeq, dNext, dIfS, dDrop, dRetN, dAsg, dgName, dgTup, dgCons, dgNil, dPar, dVar, dC, dOp, dTest, dChain, dAndV, dOrV, dNotV, dAndT, dOrT, dNotT, dIf, dNil, dCons, dStar, dTup, dLst, dCallB, dCall, dCallK, dBM, dBM0, dSl, dPart, dNoPart, dNeg, dTy, bIsi, tyName, bLen, bInt, bIntC, bAdd, bIs, bIsNot, isNon, bInt1, bAbs, bStrI, bTuple, bList, itemsOf, bSl, List.getElem?_cons_zero, List.getElem?_cons_succ, List.getElem?_nil, List.set_cons_zero, List.set_cons_succ, Option.some.injEq, exists_eq_left, exists_eq_left', Bool.false_eq_true, if_true, if_false, ite_true, ite_false, reduceIte, Bool.not_true, Bool.not_false, List.length_cons, List.length_nil, List.append_nil, List.nil_append, List.cons_append, List.zip_cons_cons, List.zip_nil_left, List.zip_nil_right, List.foldl_cons, List.foldl_nil, Nat.reduceAdd, true_and, and_true, pD, bEq_str so_either so_in, bEq_str so_either so_either, ne_ei]
    simp [sp_are_programs]
    exact ⟨lots, rfl, h0.1, h0.2, Fg.now q⟩
end
end K76
namespace K76
open PySem PySem.Spec PyProof.Rows L2 DL
def kidsP : Part → List Part
  | .inn _ own => own
  | .again own => own
  | .either lots => lots.flatten
theorem pDs_enum (own : List Part) : enumD (pDs own) = own.zipIdx.map fun p => D.tup [.int ((p.2 : Nat) : Int), pD p.1] := by rw [pDs_map]; exact enumD_map _ _
theorem pDss_enum (own : List (List Part)) : enumD (pDss own) = own.zipIdx.map fun p => D.tup [.int ((p.2 : Nat) : Int), .tup (pDs p.1)] := by rw [pDss_map]; exact enumD_map _ _
/-- a pair of a spot and a part, as it stands in a list -/
def spD (x : List Int × Part) : D := .tup [.tup (x.1.map D.int), pD x.2]
def spF (spot : List Int) : D → D
  | .tup [.int i, x] => .tup [.tup (spot.map D.int ++ [.int i]), x]
  | d => d
def spL (spot : List Int) (own : List Part) : List (List Int × Part) := own.zipIdx.map fun p => (spot ++ [((p.2 : Nat) : Int)], p.1)
theorem spL_map (spot : List Int) (own : List Part) : (enumD (pDs own)).map (spF spot) = (spL spot own).map spD := by
  rw [pDs_enum, List.map_map, spL, List.map_map]
  apply List.map_congr_left
  intro p _
  simp [spF, spD]
theorem spL_snd (spot : List Int) (own : List Part) : (spL spot own).map (·.2) = own := by
  rw [spL, List.map_map]
  exact zipIdx_fst own
theorem spL_len (spot : List Int) (own : List Part) : ∀ x ∈ spL spot own, x.1.length = spot.length + 1 := fun x h => by
  unfold spL at h
  obtain ⟨p, _, rfl⟩ := List.mem_map.mp h
  simp
section
variable {P : Program} {w : World} {K : PySem.W.Frag} {mg : Str → Option Value} {base : Heap}
theorem cP_kids (p : Part) : cP p = 1 + cPs (kidsP p) := by
  have fl : ∀ ls : List (List Part), cPss ls = cPs ls.flatten := fun ls => by
    have ap : ∀ a b : List Part, cPs (a ++ b) = cPs a + cPs b := fun a b => by
      induction a with
      | nil => simp [cPs]
      | cons x xs ih => simp [cPs, ih]; omega
    induction ls with
    | nil => simp [cPss, cPs]
    | cons x xs ih => simp [cPss, ih, ap]
  cases p <;> simp [cP, kidsP, fl]
theorem len_cPs : ∀ ps : List Part, ps.length ≤ cPs ps
  | [] => Nat.zero_le _
  | p :: ps => by have := len_cPs ps; have := cP_kids p; simp only [cPs, List.length_cons]; omega
def sp_within : DSp := fun ds M Q E => ∃ (p : Part) (spot : List Int), ds = [pD p, .tup (spot.map D.int)] ∧ cP p ≤ 13 ∧ okP p = true ∧ spot.length ≤ 1000 ∧ ∀ a (L : List (List Int × Part)), M a = none → L.map (·.2) = kidsP p → (∀ x ∈ L, x.1.length ≤ spot.length + 2) → Q (.ref a) (put M a (.lst (L.map spD)))
theorem ok_within (T : Tx K mg) : DFn P w K mg base CX0 1 T.f_within T.d_within ["part", "spot"] sp_within := by
  refine dfn_of (N := N_within) T.F_within sc_within (by decide) (fun ds M Q E h => ?_) (fun cdv A outer s H hr hgd => (dss_cons (ds_if (dt_cmp (op_eqD hr.units) tr_eq (de_ix (hu_of hr) (de_var 0) de_int) de_str (nomark _)) (dss_cons (ds_set (i := 2) sc_within.nd rfl (Or.inl rfl) (de_lst da_nil)) (dss_cons (ds_for PassesOwn.never rfl (di_enum rfl T.n_enumerate (da_cons (de_ix (hu_of hr) (de_var 0) de_int) da_nil)) (dg_tup (n := 2) rfl (dgs_cons (dg_name (i := 3) sc_within.nd rfl (Or.inr rfl)) (dgs_cons (dg_name (i := 4) sc_within.nd rfl (Or.inl rfl)) dgs_nil))) (dss_one (ds_expr (de_bm PySem.F.plainAttrs_list PySem.F.slot_list_extend PySem.F.type_list_extend mt_extend tr_extend (de_var 2) (da_cons (de_lc (own := [("place", 5), ("own", 6)]) rfl sc_within.nd (di_enum rfl T.n_enumerate (da_cons (de_var 4) da_nil)) (blkOk_by (N := N_within) (sc := defScope s_within) (by decide +kernel)) (fun _ _ _ _ _ => (pg_tup (n := 2) rfl (pgs_cons (pg_name (i := 5) sc_within.nd rfl (by first | exact Or.inl rfl | exact Or.inr rfl)) (pgs_cons (pg_name (i := 6) sc_within.nd rfl (by first | exact Or.inl rfl | exact Or.inr rfl)) pgs_nil)))) (dgr_tup (n := 2) (dgrs_cons dgr_name (dgrs_cons dgr_name dgrs_nil))) (only_tup (onlys_cons (only_name (by decide)) (onlys_cons (only_name (by decide)) onlys_nil))) (fun _ _ _ _ _ => (de_tup (da_cons (de_tup (da_star (de_var 1) (da_cons (de_var 3) (da_cons (de_var 5) da_nil)))) (da_cons (de_var 6) da_nil))))) da_nil))))) (dss_one (ds_ret (de_var 2))))) dss_nil) (dss_one (ds_ret (de_lc (own := [("place", 5), ("own", 6)]) rfl sc_within.nd (di_enum rfl T.n_enumerate (da_cons (de_ix (hu_of hr) (de_var 0) (de_neg de_int)) da_nil)) (blkOk_by (N := N_within) (sc := defScope s_within) (by decide +kernel)) (fun _ _ _ _ _ => (pg_tup (n := 2) rfl (pgs_cons (pg_name (i := 5) sc_within.nd rfl (by first | exact Or.inl rfl | exact Or.inr rfl)) (pgs_cons (pg_name (i := 6) sc_within.nd rfl (by first | exact Or.inl rfl | exact Or.inr rfl)) pgs_nil)))) (dgr_tup (n := 2) (dgrs_cons dgr_name (dgrs_cons dgr_name dgrs_nil))) (only_tup (onlys_cons (only_name (by decide)) (onlys_cons (only_name (by decide)) onlys_nil))) (fun _ _ _ _ _ => (de_tup (da_cons (de_tup (da_star (de_var 1) (da_cons (de_var 5) da_nil))) (da_cons (de_var 6) da_nil))))))))) ?_
  · obtain ⟨_, _, rfl, _⟩ := h; rfl
  rintro ds M Q E ⟨p, spot, rfl, hc, hp, hs, q⟩
  rw [st_within]
  have one : ∀ (own : List Part) (a b : Addr), (∀ x ∈ own, True) → True := fun _ _ _ _ => trivial
  cases p with
  | inn r own =>
    simp only [wipeD, List.map_cons, List.map_nil, atI_0, atI_1, atI_2, atI_3, atI_m1, atI_m1', bIx, bIn_2, bNotIn_2, line16, Nat.reduceLeDiff, Int.reduceEq, or_true, true_or, or_self, or_false, false_or, bEq_int, bNe_int, kb_ii, kb_ib, kb_ss, kb_tt, decide_true, decide_false, dLc_g, dFor_g, diSeq, diEnum, diRng1, diRng2, dMeth, dMake, dFld, exists_and_left, dRet, dSeq, dNext, dIfS, dDrop, dRetN, dAsg, dgName, dgTup, dgCons, dgNil, dPar, dVar, dC, dOp, dTest, dChain, dAndV, dOrV, dNotV, dAndT, dOrT, dNotT, dIf, dNil, dCons, dStar, dTup, dLst, dCallB, dCall, dCallK, dBM, dBM0, dSl, dPart, dNoPart, dNeg, dTy, bIsi, tyName, bLen, bInt, bIntC, bAdd, bIs, bIsNot, isNon, bInt1, bAbs, bStrI, bTuple, bList, itemsOf, bSl, List.getElem?_cons_zero, List.getElem?_cons_succ, List.getElem?_nil, List.set_cons_zero, List.set_cons_succ, Option.some.injEq, exists_eq_left, exists_eq_left', Bool.false_eq_true, if_true, if_false, ite_true, ite_false, reduceIte, Bool.not_true, Bool.not_false, List.length_cons, List.length_nil, List.append_nil, List.nil_append, List.cons_append, List.zip_cons_cons, List.zip_nil_left, List.zip_nil_right, List.foldl_cons, List.foldl_nil, Nat.reduceAdd, true_and, and_true, pD, bEq_str so_in so_either, ne_ie]
    have hl : own.length ≤ 13 := by have := len_cPs own; simp only [cP] at hc; omega
    refine lcG_map (spF spot) (fun _ _ _ => trivial) (by rw [pDs_enum, List.length_map, List.length_zipIdx, line16]; omega) (fun i x M' hx hs' R hR => ?_) fun a ha => ?_
    · rw [pDs_enum, List.getElem?_map] at hx
      cases e : own.zipIdx[i]? with
      | none => rw [e] at hx; cases hx
      | some p =>
        rw [e] at hx; cases hx
        simp only [wipeD, List.map_cons, List.map_nil, atI_0, atI_1, atI_2, atI_3, atI_m1, atI_m1', bIx, bIn_2, bNotIn_2, line16, Nat.reduceLeDiff, Int.reduceEq, or_true, true_or, or_self, or_false, false_or, bEq_int, bNe_int, kb_ii, kb_ib, kb_ss, kb_tt, decide_true, decide_false, dLc_g, dFor_g, diSeq, diEnum, diRng1, diRng2, dMeth, dMake, dFld, exists_and_left, dRet, dSeq, dNext, dIfS, dDrop, dRetN, dAsg, dgName, dgTup, dgCons, dgNil, dPar, dVar, dC, dOp, dTest, dChain, dAndV, dOrV, dNotV, dAndT, dOrT, dNotT, dIf, dNil, dCons, dStar, dTup, dLst, dCallB, dCall, dCallK, dBM, dBM0, dSl, dPart, dNoPart, dNeg, dTy, bIsi, tyName, bLen, bInt, bIntC, bAdd, bIs, bIsNot, isNon, bInt1, bAbs, bStrI, bTuple, bList, itemsOf, bSl, List.getElem?_cons_zero, List.getElem?_cons_succ, List.getElem?_nil, List.set_cons_zero, List.set_cons_succ, Option.some.injEq, exists_eq_left, exists_eq_left', Bool.false_eq_true, if_true, if_false, ite_true, ite_false, reduceIte, Bool.not_true, Bool.not_false, List.length_cons, List.length_nil, List.append_nil, List.nil_append, List.cons_append, List.zip_cons_cons, List.zip_nil_left, List.zip_nil_right, List.foldl_cons, List.foldl_nil, Nat.reduceAdd, true_and, and_true]
        simp only [List.length_append, List.length_map, List.length_cons, List.length_nil]
        exact ⟨by omega, hR⟩
    · rw [spL_map]
      exact Fg.now (q a _ ha (spL_snd _ _) fun x h => by rw [spL_len _ _ x h]; omega)
  | again own =>
    simp only [wipeD, List.map_cons, List.map_nil, atI_0, atI_1, atI_2, atI_3, atI_m1, atI_m1', bIx, bIn_2, bNotIn_2, line16, Nat.reduceLeDiff, Int.reduceEq, or_true, true_or, or_self, or_false, false_or, bEq_int, bNe_int, kb_ii, kb_ib, kb_ss, kb_tt, decide_true, decide_false, dLc_g, dFor_g, diSeq, diEnum, diRng1, diRng2, dMeth, dMake, dFld, exists_and_left, dRet, dSeq, dNext, dIfS, dDrop, dRetN, dAsg, dgName, dgTup, dgCons, dgNil, dPar, dVar, dC, dOp, dTest, dChain, dAndV, dOrV, dNotV, dAndT, dOrT, dNotT, dIf, dNil, dCons, dStar, dTup, dLst, dCallB, dCall, dCallK, dBM, dBM0, dSl, dPart, dNoPart, dNeg, dTy, bIsi, tyName, bLen, bInt, bIntC, bAdd, bIs, bIsNot, isNon, bInt1, bAbs, bStrI, bTuple, bList, itemsOf, bSl, List.getElem?_cons_zero, List.getElem?_cons_succ, List.getElem?_nil, List.set_cons_zero, List.set_cons_succ, Option.some.injEq, exists_eq_left, exists_eq_left', Bool.false_eq_true, if_true, if_false, ite_true, ite_false, reduceIte, Bool.not_true, Bool.not_false, List.length_cons, List.length_nil, List.append_nil, List.nil_append, List.cons_append, List.zip_cons_cons, List.zip_nil_left, List.zip_nil_right, List.foldl_cons, List.foldl_nil, Nat.reduceAdd, true_and, and_true, pD, bEq_str so_again so_either, ne_ae]
    have hl : own.length ≤ 13 := by have := len_cPs own; simp only [cP] at hc; omega
    refine lcG_map (spF spot) (fun _ _ _ => trivial) (by rw [pDs_enum, List.length_map, List.length_zipIdx, line16]; omega) (fun i x M' hx hs' R hR => ?_) fun a ha => ?_
    · rw [pDs_enum, List.getElem?_map] at hx
      cases e : own.zipIdx[i]? with
      | none => rw [e] at hx; cases hx
      | some p =>
        rw [e] at hx; cases hx
        simp only [wipeD, List.map_cons, List.map_nil, atI_0, atI_1, atI_2, atI_3, atI_m1, atI_m1', bIx, bIn_2, bNotIn_2, line16, Nat.reduceLeDiff, Int.reduceEq, or_true, true_or, or_self, or_false, false_or, bEq_int, bNe_int, kb_ii, kb_ib, kb_ss, kb_tt, decide_true, decide_false, dLc_g, dFor_g, diSeq, diEnum, diRng1, diRng2, dMeth, dMake, dFld, exists_and_left, dRet, dSeq, dNext, dIfS, dDrop, dRetN, dAsg, dgName, dgTup, dgCons, dgNil, dPar, dVar, dC, dOp, dTest, dChain, dAndV, dOrV, dNotV, dAndT, dOrT, dNotT, dIf, dNil, dCons, dStar, dTup, dLst, dCallB, dCall, dCallK, dBM, dBM0, dSl, dPart, dNoPart, dNeg, dTy, bIsi, tyName, bLen, bInt, bIntC, bAdd, bIs, bIsNot, isNon, bInt1, bAbs, bStrI, bTuple, bList, itemsOf, bSl, List.getElem?_cons_zero, List.getElem?_cons_succ, List.getElem?_nil, List.set_cons_zero, List.set_cons_succ, Option.some.injEq, exists_eq_left, exists_eq_left', Bool.false_eq_true, if_true, if_false, ite_true, ite_false, reduceIte, Bool.not_true, Bool.not_false, List.length_cons, List.length_nil, List.append_nil, List.nil_append, List.cons_append, List.zip_cons_cons, List.zip_nil_left, List.zip_nil_right, List.foldl_cons, List.foldl_nil, Nat.reduceAdd, true_and, and_true]
        simp only [List.length_append, List.length_map, List.length_cons, List.length_nil]
        exact ⟨by omega, hR⟩
    · rw [spL_map]
      exact Fg.now (q a _ ha (spL_snd _ _) fun x h => by rw [spL_len _ _ x h]; omega)
  | either lots =>
    simp only [wipeD, List.map_cons, List.map_nil, atI_0, atI_1, atI_2, atI_3, atI_m1, atI_m1', bIx, bIn_2, bNotIn_2, line16, Nat.reduceLeDiff, Int.reduceEq, or_true, true_or, or_self, or_false, false_or, bEq_int, bNe_int, kb_ii, kb_ib, kb_ss, kb_tt, decide_true, decide_false, dLc_g, dFor_g, diSeq, diEnum, diRng1, diRng2, dMeth, dMake, dFld, exists_and_left, dRet, dSeq, dNext, dIfS, dDrop, dRetN, dAsg, dgName, dgTup, dgCons, dgNil, dPar, dVar, dC, dOp, dTest, dChain, dAndV, dOrV, dNotV, dAndT, dOrT, dNotT, dIf, dNil, dCons, dStar, dTup, dLst, dCallB, dCall, dCallK, dBM, dBM0, dSl, dPart, dNoPart, dNeg, dTy, bIsi, tyName, bLen, bInt, bIntC, bAdd, bIs, bIsNot, isNon, bInt1, bAbs, bStrI, bTuple, bList, itemsOf, bSl, List.getElem?_cons_zero, List.getElem?_cons_succ, List.getElem?_nil, List.set_cons_zero, List.set_cons_succ, Option.some.injEq, exists_eq_left, exists_eq_left', Bool.false_eq_true, if_true, if_false, ite_true, ite_false, reduceIte, Bool.not_true, Bool.not_false, List.length_cons, List.length_nil, List.append_nil, List.nil_append, List.cons_append, List.zip_cons_cons, List.zip_nil_left, List.zip_nil_right, List.foldl_cons, List.foldl_nil, Nat.reduceAdd, true_and, and_true, pD, bEq_str so_either so_either]
    refine fun a ha => ?_
    have hl : lots.flatten.length ≤ 13 := by have := len_cPs lots.flatten; have := cP_kids (.either lots); simp only [kidsP] at this; omega
    refine ⟨fun i σ M' => ∃ u v y z, ∃ L : List (List Int × Part), σ = [some (.tup [.str "either", .tup (pDss lots)]), some (.tup (spot.map D.int)), some (.ref a), u, v, y, z] ∧ Sub M M' ∧ M' a = some (.lst (L.map spD)) ∧ L.map (·.2) = (lots.take i).flatten ∧ ∀ x ∈ L, x.1.length ≤ spot.length + 2, ?_, fun _ _ _ _ => trivial, ?_, ?_⟩
    · exact ⟨none, none, none, none, [], rfl, Sub.putNew ha, put_same, rfl, fun _ h => by cases h⟩
    · rintro i x σ M' hx ⟨u, v, y, z, L, rfl, hS, hL, h1, h2⟩
      rw [pDss_enum, List.getElem?_map] at hx
      cases e : lots.zipIdx[i]? with
      | none => rw [e] at hx; cases hx
      | some p =>
        rw [e] at hx; cases hx
        have ep : lots[i]? = some p.1 := by
          rw [List.getElem?_zipIdx] at e
          cases e2 : lots[i]? with
          | none => rw [e2] at e; cases e
          | some q => rw [e2] at e; cases e; rfl
        have hle : L.length = (lots.take i).flatten.length := by rw [← h1, List.length_map]
        have hpl : (lots.take i).flatten.length + p.1.length ≤ lots.flatten.length := by
          have : (lots.take (i + 1)).flatten = (lots.take i).flatten ++ p.1 := by rw [List.take_succ, ep]; simp
          have h3 : lots.flatten = (lots.take (i + 1)).flatten ++ (lots.drop (i + 1)).flatten := by rw [← List.flatten_append, List.take_append_drop]
          rw [h3, this]; simp
        simp only [wipeD, List.map_cons, List.map_nil, atI_0, atI_1, atI_2, atI_3, atI_m1, atI_m1', bIx, bIn_2, bNotIn_2, line16, Nat.reduceLeDiff, Int.reduceEq, or_true, true_or, or_self, or_false, false_or, bEq_int, bNe_int, kb_ii, kb_ib, kb_ss, kb_tt, decide_true, decide_false, dLc_g, dFor_g, diSeq, diEnum, diRng1, diRng2, dMeth, dMake, dFld, exists_and_left, dRet, dSeq, dNext, dIfS, dDrop, dRetN, dAsg, dgName, dgTup, dgCons, dgNil, dPar, dVar, dC, dOp, dTest, dChain, dAndV, dOrV, dNotV, dAndT, dOrT, dNotT, dIf, dNil, dCons, dStar, dTup, dLst, dCallB, dCall, dCallK, dBM, dBM0, dSl, dPart, dNoPart, dNeg, dTy, bIsi, tyName, bLen, bInt, bIntC, bAdd, bIs, bIsNot, isNon, bInt1, bAbs, bStrI, bTuple, bList, itemsOf, bSl, List.getElem?_cons_zero, List.getElem?_cons_succ, List.getElem?_nil, List.set_cons_zero, List.set_cons_succ, Option.some.injEq, exists_eq_left, exists_eq_left', Bool.false_eq_true, if_true, if_false, ite_true, ite_false, reduceIte, Bool.not_true, Bool.not_false, List.length_cons, List.length_nil, List.append_nil, List.nil_append, List.cons_append, List.zip_cons_cons, List.zip_nil_left, List.zip_nil_right, List.foldl_cons, List.foldl_nil, Nat.reduceAdd, true_and, and_true, hL]
        refine lcG_map (spF (spot ++ [((p.2 : Nat) : Int)])) (fun _ _ _ => trivial) (by rw [pDs_enum, List.length_map, List.length_zipIdx, line16]; omega) (fun j x M'' hx hs' R hR => ?_) fun b hb => ?_
        · rw [pDs_enum, List.getElem?_map] at hx
          cases e : p.1.zipIdx[j]? with
          | none => rw [e] at hx; cases hx
          | some p =>
            rw [e] at hx; cases hx
            simp only [wipeD, List.map_cons, List.map_nil, atI_0, atI_1, atI_2, atI_3, atI_m1, atI_m1', bIx, bIn_2, bNotIn_2, line16, Nat.reduceLeDiff, Int.reduceEq, or_true, true_or, or_self, or_false, false_or, bEq_int, bNe_int, kb_ii, kb_ib, kb_ss, kb_tt, decide_true, decide_false, dLc_g, dFor_g, diSeq, diEnum, diRng1, diRng2, dMeth, dMake, dFld, exists_and_left, dRet, dSeq, dNext, dIfS, dDrop, dRetN, dAsg, dgName, dgTup, dgCons, dgNil, dPar, dVar, dC, dOp, dTest, dChain, dAndV, dOrV, dNotV, dAndT, dOrT, dNotT, dIf, dNil, dCons, dStar, dTup, dLst, dCallB, dCall, dCallK, dBM, dBM0, dSl, dPart, dNoPart, dNeg, dTy, bIsi, tyName, bLen, bInt, bIntC, bAdd, bIs, bIsNot, isNon, bInt1, bAbs, bStrI, bTuple, bList, itemsOf, bSl, List.getElem?_cons_zero, List.getElem?_cons_succ, List.getElem?_nil, List.set_cons_zero, List.set_cons_succ, Option.some.injEq, exists_eq_left, exists_eq_left', Bool.false_eq_true, if_true, if_false, ite_true, ite_false, reduceIte, Bool.not_true, Bool.not_false, List.length_cons, List.length_nil, List.append_nil, List.nil_append, List.cons_append, List.zip_cons_cons, List.zip_nil_left, List.zip_nil_right, List.foldl_cons, List.foldl_nil, Nat.reduceAdd, true_and, and_true]
            simp only [List.length_append, List.length_map, List.length_cons, List.length_nil]
            refine ⟨by omega, ?_⟩
            simpa [spF] using hR
        · have hab : a ≠ b := ne_of hL hb
          rw [spL_map]
          refine ⟨L.map spD, _, (put_ne hab).trans hL, put_same, ?_, ?_⟩
          · rw [List.length_map, List.length_map, hle, line16]
            have := congrArg List.length (spL_snd (spot ++ [((p.2 : Nat) : Int)]) p.1)
            rw [List.length_map] at this
            omega
          · refine ⟨some (.int ((p.2 : Nat) : Int)), some (.tup (pDs p.1)), y, z, rfl, ?_, L ++ spL (spot ++ [((p.2 : Nat) : Int)]) p.1, ?_, ?_, ?_⟩
            · exact ((hS.new hb)).put ha
            · rw [put_same, List.map_append]
            · rw [List.map_append, h1, spL_snd, List.take_succ, ep]; simp
            · intro x hx
              rcases List.mem_append.mp hx with h | h
              · exact h2 x h
              · rw [spL_len _ _ x h]; simp
    · rintro σ M' ⟨u, v, y, z, L, rfl, hS, hL, h1, h2⟩
      simp only [wipeD, List.map_cons, List.map_nil, atI_0, atI_1, atI_2, atI_3, atI_m1, atI_m1', bIx, bIn_2, bNotIn_2, line16, Nat.reduceLeDiff, Int.reduceEq, or_true, true_or, or_self, or_false, false_or, bEq_int, bNe_int, kb_ii, kb_ib, kb_ss, kb_tt, decide_true, decide_false, dLc_g, dFor_g, diSeq, diEnum, diRng1, diRng2, dMeth, dMake, dFld, exists_and_left, dRet, dSeq, dNext, dIfS, dDrop, dRetN, dAsg, dgName, dgTup, dgCons, dgNil, dPar, dVar, dC, dOp, dTest, dChain, dAndV, dOrV, dNotV, dAndT, dOrT, dNotT, dIf, dNil, dCons, dStar, dTup, dLst, dCallB, dCall, dCallK, dBM, dBM0, dSl, dPart, dNoPart, dNeg, dTy, bIsi, tyName, bLen, bInt, bIntC, bAdd, bIs, bIsNot, isNon, bInt1, bAbs, bStrI, bTuple, bList, itemsOf, bSl, List.getElem?_cons_zero, List.getElem?_cons_succ, List.getElem?_nil, List.set_cons_zero, List.set_cons_succ, Option.some.injEq, exists_eq_left, exists_eq_left', Bool.false_eq_true, if_true, if_false, ite_true, ite_false, reduceIte, Bool.not_true, Bool.not_false, List.length_cons, List.length_nil, List.append_nil, List.nil_append, List.cons_append, List.zip_cons_cons, List.zip_nil_left, List.zip_nil_right, List.foldl_cons, List.foldl_nil, Nat.reduceAdd, true_and, and_true]
      have : lots.take (enumD (pDss lots)).length = lots := by rw [pDss_enum, List.length_map, List.length_zipIdx, List.take_length]
      rw [this] at h1
      exact Fg.mk (hS.ofPut hL) (q a L ha h1 h2)
end
end K76
namespace K76
open PySem PySem.Spec PyProof.Rows L2 DL
/-! ### the kids of a part -/
def inRooms (rooms : List Nat) : Part → List Nat
  | .inn r _ => rooms ++ [r]
  | _ => rooms
def isIn : Part → Nat
  | .inn _ _ => 1
  | _ => 0
theorem okPs_iff : ∀ ps : List Part, okPs ps = true ↔ ∀ p ∈ ps, okP p = true
  | [] => by simp [okPs]
  | p :: ps => by simp [okPs, okPs_iff ps]
theorem okPss_iff : ∀ ps : List (List Part), okPss ps = true ↔ ∀ p ∈ ps, okPs p = true
  | [] => by simp [okPss]
  | p :: ps => by simp [okPss, okPss_iff ps]
theorem ckPs_iff (rooms : List Nat) (deep : Nat) : ∀ ps : List Part, ckPs rooms deep ps = true ↔ ∀ p ∈ ps, ckP rooms deep p = true
  | [] => by simp [ckPs]
  | p :: ps => by simp [ckPs, ckPs_iff rooms deep ps]
theorem ckPss_iff (rooms : List Nat) (deep : Nat) : ∀ ps : List (List Part), ckPss rooms deep ps = true ↔ ∀ p ∈ ps, ckPs rooms deep p = true
  | [] => by simp [ckPss]
  | p :: ps => by simp [ckPss, ckPss_iff rooms deep ps]
theorem ok_kids {p : Part} (h : okP p = true) : ∀ q ∈ kidsP p, okP q = true := by
  cases p with
  | inn r own => exact (okPs_iff own).mp (by simp [okP] at h; exact h.2)
  | again own => exact (okPs_iff own).mp (by simp [okP] at h; exact h.2)
  | either lots =>
    have h2 : okPss lots = true := by simp [okP] at h; exact h.2
    intro q hq
    obtain ⟨l, hl, hq⟩ := List.mem_flatten.mp hq
    exact (okPs_iff l).mp ((okPss_iff lots).mp h2 l hl) q hq
theorem ck_kids {p : Part} {rooms : List Nat} {deep : Nat} (h : ckP rooms deep p = true) : ∀ q ∈ kidsP p, ckP (inRooms rooms p) (deep + 1) q = true := by
  cases p with
  | inn r own => exact (ckPs_iff _ _ own).mp (by simp [ckP] at h; exact h.2)
  | again own => exact (ckPs_iff _ _ own).mp (by simp [ckP] at h; exact h.2)
  | either lots =>
    have h2 : ckPss rooms (deep + 1) lots = true := by simp [ckP] at h; exact h.2
    intro q hq
    obtain ⟨l, hl, hq⟩ := List.mem_flatten.mp hq
    exact (ckPs_iff _ _ l).mp ((ckPss_iff _ _ lots).mp h2 l hl) q hq
theorem ck_deep {p : Part} {rooms : List Nat} {deep : Nat} (h : ckP rooms deep p = true) : deep ≤ 5 := by
  cases p <;> simp [ckP] at h
  · exact h.1.2
  · exact h.1
  · exact h.1
theorem iP_kids (p : Part) : iP p = isIn p + iPs (kidsP p) := by
  have fl : ∀ ls : List (List Part), iPss ls = iPs ls.flatten := fun ls => by
    have ap : ∀ a b : List Part, iPs (a ++ b) = iPs a + iPs b := fun a b => by
      induction a with
      | nil => simp [iPs]
      | cons x xs ih => simp [iPs, ih]; omega
    induction ls with
    | nil => simp [iPss, iPs]
    | cons x xs ih => simp [iPss, ih, ap]
  cases p <;> simp [iP, kidsP, isIn, fl]
theorem cPs_sum : ∀ ps : List Part, cPs ps = (ps.map cP).sum
  | [] => by simp [cPs]
  | p :: ps => by simp [cPs, cPs_sum ps]
theorem iPs_sum : ∀ ps : List Part, iPs ps = (ps.map iP).sum
  | [] => by simp [iPs]
  | p :: ps => by simp [iPs, iPs_sum ps]
theorem cP_pos (p : Part) : 1 ≤ cP p := by have := cP_kids p; omega
def nI (rooms : List Nat) : List Int := rooms.map fun r : Nat => (r : Int)
theorem mem_nI {r : Nat} {rooms : List Nat} : ((r : Int) ∈ nI rooms) ↔ r ∈ rooms := by
  unfold nI
  constructor
  · intro h
    obtain ⟨x, hx, e⟩ := List.mem_map.mp h
    have : x = r := by omega
    exact this ▸ hx
  · intro h; exact List.mem_map.mpr ⟨r, h, rfl⟩
theorem nI_len (rooms : List Nat) : (nI rooms).length = rooms.length := by simp [nI]
theorem nI_app (rooms : List Nat) (r : Nat) : nI (rooms ++ [r]) = nI rooms ++ [(r : Int)] := by simp [nI]
section
variable {P : Program} {w : World} {K : PySem.W.Frag} {mg : Str → Option Value} {base : Heap}
def sp_part_error : DSp := fun ds M Q E => ∃ (p : Part) (spot : List Int) (rooms : List Nat) (deep : Nat), ds = [.int 6, pD p, .tup (spot.map D.int), .tup ((nI rooms).map D.int), .int (deep : Nat)] ∧ okP p = true ∧ cP p ≤ 13 ∧ ckP rooms deep p = true ∧ Q .non M
theorem ok_part_error (T : Tx K mg) : DFn P w K mg base CX0 4 T.f_part_error T.d_part_error ["many", "value", "spot", "rooms", "deep"] sp_part_error := by
  refine dfn_of (N := N_part_error) T.F_part_error sc_part_error (by decide) (fun ds M Q E h => ?_) (fun cdv A outer s H hr hgd => (dss_cons (ds_if (dt_not (dt_val (de_call (ok_is_part T) (hr.mono (by omega)) hgd rfl T.g_is_part T.F_is_part.kp T.b_is_part dpass0 (da_cons (de_var 0) (da_cons (de_var 1) da_nil))))) (dss_one (ds_ret (de_tup (da_cons de_str (da_cons (de_var 2) da_nil))))) dss_nil) (dss_cons (ds_if (DW.dt (dw_and (dt_cmp (op_eqD hr.units) tr_eq (de_ix (hu_of hr) (de_var 1) de_int) de_str (nomark _)) (dw_and1 (dt_cmp (op_in3 (room65 hr)) tr_in (de_ix (hu_of hr) (de_var 1) de_int) (de_var 3) (by with_unfolding_all rfl))))) (dss_one (ds_ret (de_tup (da_cons de_str (da_cons (de_var 2) da_nil))))) dss_nil) (dss_one (ds_ret (de_if (dt_cmp op_gt tr_intB (de_var 4) (de_glob (v := (.int 5)) (d := (.int 5)) rfl T.c_MAX_DEEP ⟨_, rfl⟩ (fun _ => rfl)) (nomark _)) (de_tup (da_cons de_str (da_cons (de_var 2) da_nil))) de_non)))))) ?_
  · obtain ⟨_, _, _, _, rfl, _⟩ := h; rfl
  rintro ds M Q E ⟨p, spot, rooms, deep, rfl, hp, hc, hk, q⟩
  rw [st_part_error]
  have hd := ck_deep hk
  have hd' : ¬ ((5 : Int) < (deep : Nat)) := by omega
  cases p with
  | inn r own =>
    have h0 : r ∉ rooms := by simp [ckP] at hk; exact hk.1.1
    simp only [wipeD, List.map_cons, List.map_nil, atI_0, atI_1, atI_2, atI_3, atI_m1, atI_m1', bIx, bIn_2, bNotIn_2, line16, Nat.reduceLeDiff, Int.reduceEq, or_true, true_or, or_self, or_false, false_or, bEq_int, bNe_int, kb_ii, kb_ib, kb_ss, kb_tt, decide_true, decide_false, dLc_g, dFor_g, diSeq, diEnum, diRng1, diRng2, dMeth, dMake, dFld, exists_and_left, dRet, dSeq, dNext, dIfS, dDrop, dRetN, dAsg, dgName, dgTup, dgCons, dgNil, dPar, dVar, dC, dOp, dTest, dChain, dAndV, dOrV, dNotV, dAndT, dOrT, dNotT, dIf, dNil, dCons, dStar, dTup, dLst, dCallB, dCall, dCallK, dBM, dBM0, dSl, dPart, dNoPart, dNeg, dTy, bIsi, tyName, bLen, bInt, bIntC, bAdd, bIs, bIsNot, isNon, bInt1, bAbs, bStrI, bTuple, bList, itemsOf, bSl, List.getElem?_cons_zero, List.getElem?_cons_succ, List.getElem?_nil, List.set_cons_zero, List.set_cons_succ, Option.some.injEq, exists_eq_left, exists_eq_left', Bool.false_eq_true, if_true, if_false, ite_true, ite_false, reduceIte, Bool.not_true, Bool.not_false, List.length_cons, List.length_nil, List.append_nil, List.nil_append, List.cons_append, List.zip_cons_cons, List.zip_nil_left, List.zip_nil_right, List.foldl_cons, List.foldl_nil, Nat.reduceAdd, true_and, and_true, sp_is_part, bIn_tint, show pD (.inn r own) = .tup [.str "in", .int (r : Int), .tup (pDs own)] by rw [pD], bEq_str so_in so_in, mem_nI]
    refine ⟨.inn r own, by simp [pD], hp, hc, ?_⟩
    simp only [hd', h0, decide_false, Bool.false_eq_true, if_false]
    exact Fg.now q
  | again own =>
    simp only [wipeD, List.map_cons, List.map_nil, atI_0, atI_1, atI_2, atI_3, atI_m1, atI_m1', bIx, bIn_2, bNotIn_2, line16, Nat.reduceLeDiff, Int.reduceEq, or_true, true_or, or_self, or_false, false_or, bEq_int, bNe_int, kb_ii, kb_ib, kb_ss, kb_tt, decide_true, decide_false, dLc_g, dFor_g, diSeq, diEnum, diRng1, diRng2, dMeth, dMake, dFld, exists_and_left, dRet, dSeq, dNext, dIfS, dDrop, dRetN, dAsg, dgName, dgTup, dgCons, dgNil, dPar, dVar, dC, dOp, dTest, dChain, dAndV, dOrV, dNotV, dAndT, dOrT, dNotT, dIf, dNil, dCons, dStar, dTup, dLst, dCallB, dCall, dCallK, dBM, dBM0, dSl, dPart, dNoPart, dNeg, dTy, bIsi, tyName, bLen, bInt, bIntC, bAdd, bIs, bIsNot, isNon, bInt1, bAbs, bStrI, bTuple, bList, itemsOf, bSl, List.getElem?_cons_zero, List.getElem?_cons_succ, List.getElem?_nil, List.set_cons_zero, List.set_cons_succ, Option.some.injEq, exists_eq_left, exists_eq_left', Bool.false_eq_true, if_true, if_false, ite_true, ite_false, reduceIte, Bool.not_true, Bool.not_false, List.length_cons, List.length_nil, List.append_nil, List.nil_append, List.cons_append, List.zip_cons_cons, List.zip_nil_left, List.zip_nil_right, List.foldl_cons, List.foldl_nil, Nat.reduceAdd, true_and, and_true, sp_is_part, bIn_tint, show pD (.again own) = .tup [.str "again", .tup (pDs own)] by rw [pD], bEq_str so_again so_in, ne_ai]
    refine ⟨.again own, by simp [pD], hp, hc, ?_⟩
    simp only [hd', decide_false, Bool.false_eq_true, if_false]
    exact Fg.now q
  | either own =>
    simp only [wipeD, List.map_cons, List.map_nil, atI_0, atI_1, atI_2, atI_3, atI_m1, atI_m1', bIx, bIn_2, bNotIn_2, line16, Nat.reduceLeDiff, Int.reduceEq, or_true, true_or, or_self, or_false, false_or, bEq_int, bNe_int, kb_ii, kb_ib, kb_ss, kb_tt, decide_true, decide_false, dLc_g, dFor_g, diSeq, diEnum, diRng1, diRng2, dMeth, dMake, dFld, exists_and_left, dRet, dSeq, dNext, dIfS, dDrop, dRetN, dAsg, dgName, dgTup, dgCons, dgNil, dPar, dVar, dC, dOp, dTest, dChain, dAndV, dOrV, dNotV, dAndT, dOrT, dNotT, dIf, dNil, dCons, dStar, dTup, dLst, dCallB, dCall, dCallK, dBM, dBM0, dSl, dPart, dNoPart, dNeg, dTy, bIsi, tyName, bLen, bInt, bIntC, bAdd, bIs, bIsNot, isNon, bInt1, bAbs, bStrI, bTuple, bList, itemsOf, bSl, List.getElem?_cons_zero, List.getElem?_cons_succ, List.getElem?_nil, List.set_cons_zero, List.set_cons_succ, Option.some.injEq, exists_eq_left, exists_eq_left', Bool.false_eq_true, if_true, if_false, ite_true, ite_false, reduceIte, Bool.not_true, Bool.not_false, List.length_cons, List.length_nil, List.append_nil, List.nil_append, List.cons_append, List.zip_cons_cons, List.zip_nil_left, List.zip_nil_right, List.foldl_cons, List.foldl_nil, Nat.reduceAdd, true_and, and_true, sp_is_part, bIn_tint, show pD (.either own) = .tup [.str "either", .tup (pDss own)] by rw [pD], bEq_str so_either so_in, ne_ei]
    refine ⟨.either own, by simp [pD], hp, hc, ?_⟩
    simp only [hd', decide_false, Bool.false_eq_true, if_false]
    exact Fg.now q
end
end K76
namespace K76
open PySem PySem.Spec PyProof.Rows L2 DL
/-- what waits: a spot, a part, the rooms around it, how deep it stands -/
structure Wt where
  spot : List Int
  p : Part
  rooms : List Nat
  deep : Nat
def wD (x : Wt) : D := .tup [.tup (x.spot.map D.int), pD x.p, .tup ((nI x.rooms).map D.int), .int ((x.deep : Nat) : Int)]
def wP (x : Wt) : PyData := .tuple [.tuple (x.spot.map PyData.int), pP x.p, .tuple ((nI x.rooms).map PyData.int), .int ((x.deep : Nat) : Int)]
theorem toP_w (x : Wt) : toP (wD x) = some (wP x) := by simp [wD, wP, toP, toPs, toPs_ints, toP_p]
theorem lay_ints (l : List Int) : PyData.canLayAll0 (l.map PyData.int) = true := canLay_map _ (fun _ => by simp [PyData.canLay0]) l
theorem dep_ints (l : List Int) : PyData.depthAll (l.map PyData.int) = 0 := Nat.le_zero.mp (depth_map _ 0 (fun _ => by simp [PyData.depth]) l)
theorem lay_w (x : Wt) : (wP x).canLay0 = true := by simp [wP, PyData.canLay0, PyData.canLayAll0, lay_ints, lay_p]
theorem dep_w (x : Wt) : (wP x).depth ≤ 3 * cP x.p + 2 := by
  have := dep_p x.p
  simp only [wP, PyData.depth, PyData.depthAll, dep_ints]; omega
theorem shape_W {W : List Wt} (h : ∀ x ∈ W, cP x.p ≤ 13) : SeqAt.shaped (.list (W.map wP)) = true := by
  refine shaped_lst (canLay_map _ lay_w W) ?_
  induction W with
  | nil => simp [PyData.depthAll]
  | cons x xs ih =>
    have h1 := dep_w x
    have h2 := h x List.mem_cons_self
    have h3 := ih fun y hy => h y (List.mem_cons_of_mem _ hy)
    simp only [List.map_cons, PyData.depthAll]; omega
structure WOk (x : Wt) : Prop where
  ok : okP x.p = true
  ck : ckP x.rooms x.deep x.p = true
  sp : x.spot.length ≤ 2 * x.deep + 1
  rm : x.rooms.length ≤ x.deep
def wF (rooms : List Nat) (deep : Nat) : D → D
  | .tup [s, p] => .tup [s, p, .tup ((nI rooms).map D.int), .int ((deep : Nat) : Int)]
  | d => d
theorem le_sum {n : Nat} : ∀ {l : List Nat}, n ∈ l → n ≤ l.sum
  | x :: xs, h => by
    rcases List.mem_cons.mp h with e | h
    · subst e; simp
    · have := le_sum h; simp; omega
theorem sum_rev (l : List Nat) : l.reverse.sum = l.sum := by induction l <;> simp_all; omega
def w0 : D → D
  | .tup [.int i, x] => .tup [.tup [.int i], x, .tup [], .int 0]
  | d => d
def W0 (ps : List Part) : List Wt := ps.zipIdx.map fun p => ⟨[((p.2 : Nat) : Int)], p.1, [], 0⟩
theorem W0_map (ps : List Part) : ps.zipIdx.map (w0 ∘ fun p => D.tup [.int ((p.2 : Nat) : Int), pD p.1]) = (W0 ps).map wD := by
  rw [W0, List.map_map]
  apply List.map_congr_left
  intro p _
  simp [w0, wD, nI]
section
variable {P : Program} {w : World} {K : PySem.W.Frag} {mg : Str → Option Value} {base : Heap}
def sp_program_error : DSp := fun ds M Q E => ∃ ps : List Part, ds = [.int 6, .tup (pDs ps)] ∧ okPs ps = true ∧ cPs ps ≤ 12 ∧ ckPs [] 0 ps = true ∧ 0 < iPs ps ∧ Q .non M
theorem ok_program_error (T : Tx K mg) : DFn P w K mg base CX0 5 T.f_program_error T.d_program_error ["many", "value"] sp_program_error := by
  refine dfn_of (N := N_program_error) T.F_program_error sc_program_error (by decide) (fun ds M Q E h => ?_) (fun cdv A outer s H hr hgd => (dss_cons (ds_if (dt_not (dt_val (de_callB call_isi tr_isi rfl T.n_isinstance bt_isinstance (da_cons (de_var 1) (da_cons (de_bty rfl T.n_tuple bt_tuple) da_nil))))) (dss_one (ds_ret de_str)) dss_nil) (dss_cons (ds_set (i := 2) sc_program_error.nd rfl (Or.inl rfl) (de_revL (p4 := ⟨0, 0, 0, 0⟩) (de_lc (own := [("place", 10), ("own", 11)]) rfl sc_program_error.nd (di_enum rfl T.n_enumerate (da_cons (de_var 1) da_nil)) (blkOk_by (N := N_program_error) (sc := defScope s_program_error) (by decide +kernel)) (fun _ _ _ _ _ => (pg_tup (n := 2) rfl (pgs_cons (pg_name (i := 10) sc_program_error.nd rfl (by first | exact Or.inl rfl | exact Or.inr rfl)) (pgs_cons (pg_name (i := 11) sc_program_error.nd rfl (by first | exact Or.inl rfl | exact Or.inr rfl)) pgs_nil)))) (dgr_tup (n := 2) (dgrs_cons dgr_name (dgrs_cons dgr_name dgrs_nil))) (only_tup (onlys_cons (only_name (by decide)) (onlys_cons (only_name (by decide)) onlys_nil))) (fun _ _ _ _ _ => (de_tup (da_cons (de_tup (da_cons (de_var 10) da_nil)) (da_cons (de_var 11) (da_cons (de_tup da_nil) (da_cons de_int da_nil))))))))) (dss_cons (ds_asg (de_tup (da_cons de_int (da_cons de_int da_nil))) (dg_tup (n := 2) rfl (dgs_cons (dg_name (i := 3) sc_program_error.nd rfl (Or.inl rfl)) (dgs_cons (dg_name (i := 4) sc_program_error.nd rfl (Or.inl rfl)) dgs_nil)))) (dss_cons (ds_while PassesOwn.never (dt_cmp (op_neD hr.units) tr_ne (de_var 2) (de_lst da_nil) (nomark _)) (dss_cons (ds_asg (de_bm0 PySem.F.plainAttrs_list PySem.F.slot_list_pop PySem.F.type_list_pop mt_pop tr_pop (de_var 2)) (dg_tup (n := 4) rfl (dgs_cons (dg_name (i := 5) sc_program_error.nd rfl (Or.inl rfl)) (dgs_cons (dg_name (i := 6) sc_program_error.nd rfl (Or.inl rfl)) (dgs_cons (dg_name (i := 7) sc_program_error.nd rfl (Or.inr rfl)) (dgs_cons (dg_name (i := 8) sc_program_error.nd rfl (Or.inr rfl)) dgs_nil)))))) (dss_cons (ds_set (i := 9) sc_program_error.nd rfl (Or.inl rfl) (de_call (ok_part_error T) (hr.mono (by omega)) hgd rfl T.g_part_error T.F_part_error.kp T.b_part_error dpass0 (da_cons (de_var 0) (da_cons (de_var 6) (da_cons (de_var 5) (da_cons (de_var 7) (da_cons (de_var 8) da_nil))))))) (dss_cons (ds_if (dt_cmp op_notN tr_isNot (de_var 9) de_non (nomark _)) (dss_one (ds_ret (de_var 9))) dss_nil) (dss_cons (ds_set (i := 3) sc_program_error.nd rfl (Or.inl rfl) (de_bin op_add4 tr_add (de_var 3) de_int)) (dss_cons (ds_if (dt_cmp (op_eqD hr.units) tr_eq (de_ix (hu_of hr) (de_var 6) de_int) de_str (nomark _)) (dss_one (ds_asg (de_tup (da_cons (de_bin op_add4 tr_add (de_var 4) de_int) (da_cons (de_tup (da_star (de_var 7) (da_cons (de_ix (hu_of hr) (de_var 6) de_int) da_nil))) da_nil))) (dg_tup (n := 2) rfl (dgs_cons (dg_name (i := 4) sc_program_error.nd rfl (Or.inl rfl)) (dgs_cons (dg_name (i := 7) sc_program_error.nd rfl (Or.inr rfl)) dgs_nil))))) dss_nil) (dss_one (ds_expr (de_bm PySem.F.plainAttrs_list PySem.F.slot_list_extend PySem.F.type_list_extend mt_extend tr_extend (de_var 2) (da_cons (de_revL (p4 := ⟨0, 0, 0, 0⟩) (de_lc (own := [("place", 10), ("own", 11)]) rfl sc_program_error.nd (di_seq (de_call (ok_within T) (hr.mono (by omega)) hgd rfl T.g_within T.F_within.kp T.b_within dpass0 (da_cons (de_var 6) (da_cons (de_var 5) da_nil)))) (blkOk_by (N := N_program_error) (sc := defScope s_program_error) (by decide +kernel)) (fun _ _ _ _ _ => (pg_tup (n := 2) rfl (pgs_cons (pg_name (i := 10) sc_program_error.nd rfl (by first | exact Or.inl rfl | exact Or.inr rfl)) (pgs_cons (pg_name (i := 11) sc_program_error.nd rfl (by first | exact Or.inl rfl | exact Or.inr rfl)) pgs_nil)))) (dgr_tup (n := 2) (dgrs_cons dgr_name (dgrs_cons dgr_name dgrs_nil))) (only_tup (onlys_cons (only_name (by decide)) (onlys_cons (only_name (by decide)) onlys_nil))) (fun _ _ _ _ _ => (de_tup (da_cons (de_var 10) (da_cons (de_var 11) (da_cons (de_var 7) (da_cons (de_bin op_add4 tr_add (de_var 8) de_int) da_nil)))))))) da_nil)))))))))) (dss_cons (ds_if (dt_cmp op_gt tr_intB (de_var 3) (de_glob (v := (.int 12)) (d := (.int 12)) rfl T.c_MAX_PARTS ⟨_, rfl⟩ (fun _ => rfl)) (nomark _)) (dss_one (ds_ret de_str)) dss_nil) (dss_one (ds_ret (de_if (dt_cmp (op_eqD hr.units) tr_eq (de_var 4) de_int (nomark _)) de_str de_non))))))))) ?_
  · obtain ⟨_, rfl, _⟩ := h; rfl
  rintro ds M Q E ⟨ps, rfl, hp, hc, hk, hi, q⟩
  rw [st_program_error]
  simp only [↓x_seq, ↓x_next, ↓x_ret, ↓x_retN, ↓x_drop, ↓x_if, ↓x_asg, ↓x_false, ↓x_brk, ↓x_cnt, ↓x_g0, ↓x_v0, ↓x_g1, ↓x_v1, ↓x_g2, ↓x_v2, ↓x_g3, ↓x_v3, ↓x_g4, ↓x_v4, ↓x_g5, ↓x_v5, ↓x_g6, ↓x_v6, ↓x_g7, ↓x_v7, ↓x_g8, ↓x_v8, ↓x_g9, ↓x_v9, ↓x_g10, ↓x_v10, ↓x_g11, ↓x_v11, ↓x_g12, ↓x_v12, ↓x_g13, ↓x_v13, ↓x_g14, ↓x_v14, ↓x_g15, ↓x_v15, ↓x_g16, ↓x_v16, ↓x_g17, ↓x_v17, ↓x_g18, ↓x_v18, ↓x_g19, ↓x_v19, ↓x_gt2, ↓x_gt3, ↓x_gt4, ↓x_gt5, ↓x_gt6, ↓x_gc, ↓x_gn, ↓x_par2, ↓x_p2, ↓x_par3, ↓x_p3, ↓x_C, ↓x_op, ↓x_test, ↓x_chain, ↓x_andT, ↓x_orT, ↓x_notT, ↓x_ifE, ↓x_andV, ↓x_orV, ↓x_notV, ↓x_nil, ↓x_cons, ↓x_star, ↓x_tup, ↓x_lst, ↓x_callB, ↓x_call, ↓x_callK, ↓x_meth, ↓x_make, ↓x_fld, ↓x_fldS, ↓x_bm0, ↓x_bm, ↓x_sl, ↓x_nop, ↓x_prt, ↓x_neg, ↓x_revL, ↓x_lc, ↓x_for, ↓x_diSeq, ↓x_diEnum, ↓x_rng1, ↓y_addi, ↓y_adds, ↓y_addt, ↓y_int, ↓y_intC, ↓y_is, ↓y_isn, ↓y_nnon, ↓y_nbl, ↓y_nint, ↓y_nstr, ↓y_ntup, ↓y_nref, ↓y_t0, ↓y_t1, ↓y_t2, ↓y_t3, ↓y_m2, ↓y_m3, ↓y_len0, ↓y_len1, ↓y_len2, ↓y_len3, ↓y_len, ↓y_lenS, ↓y_itt, ↓y_iss, ↓y_iii, ↓y_iib, ↓y_i1, ↓y_i1b, ↓y_abs, ↓y_strI, ↓y_slt, ↓y_sls, ↓y_tys, ↓bIn_2, ↓bNotIn_2, ↓bEq_int, ↓bNe_int, wipeD, List.map_cons, List.map_nil, List.set_cons_zero, List.set_cons_succ, Option.some.injEq, exists_and_left, exists_eq_left', exists_eq_left, decide_true, decide_false, Bool.false_eq_true, reduceIte, Bool.not_true, Bool.not_false, List.length_cons, List.length_nil, Nat.reduceAdd, Nat.zero_add, line16, Nat.reduceLeDiff, Int.reduceEq, Int.reduceLT, Int.reduceLE, Int.reduceNeg, or_true, true_or, or_self, or_false, false_or, true_and, and_true, and_self, List.cons_append, List.nil_append, List.append_nil, forall_const, dWhile]
  have hlen : ps.length ≤ 12 := Nat.le_trans (len_cPs ps) hc
  have hpm := (okPs_iff ps).mp hp
  have hkm := (ckPs_iff [] 0 ps).mp hk
  refine lcG_map w0 (fun _ _ _ => trivial) (by rw [pDs_enum, List.length_map, List.length_zipIdx, line16]; omega) (fun i x M' hx hs' R hR => ?_) fun a ha => ?_
  · rw [pDs_enum, List.getElem?_map] at hx
    cases e : ps.zipIdx[i]? with
    | none => rw [e] at hx; cases hx
    | some p =>
      rw [e] at hx; cases hx
      simp only [↓x_seq, ↓x_next, ↓x_ret, ↓x_retN, ↓x_drop, ↓x_if, ↓x_asg, ↓x_false, ↓x_brk, ↓x_cnt, ↓x_g0, ↓x_v0, ↓x_g1, ↓x_v1, ↓x_g2, ↓x_v2, ↓x_g3, ↓x_v3, ↓x_g4, ↓x_v4, ↓x_g5, ↓x_v5, ↓x_g6, ↓x_v6, ↓x_g7, ↓x_v7, ↓x_g8, ↓x_v8, ↓x_g9, ↓x_v9, ↓x_g10, ↓x_v10, ↓x_g11, ↓x_v11, ↓x_g12, ↓x_v12, ↓x_g13, ↓x_v13, ↓x_g14, ↓x_v14, ↓x_g15, ↓x_v15, ↓x_g16, ↓x_v16, ↓x_g17, ↓x_v17, ↓x_g18, ↓x_v18, ↓x_g19, ↓x_v19, ↓x_gt2, ↓x_gt3, ↓x_gt4, ↓x_gt5, ↓x_gt6, ↓x_gc, ↓x_gn, ↓x_par2, ↓x_p2, ↓x_par3, ↓x_p3, ↓x_C, ↓x_op, ↓x_test, ↓x_chain, ↓x_andT, ↓x_orT, ↓x_notT, ↓x_ifE, ↓x_andV, ↓x_orV, ↓x_notV, ↓x_nil, ↓x_cons, ↓x_star, ↓x_tup, ↓x_lst, ↓x_callB, ↓x_call, ↓x_callK, ↓x_meth, ↓x_make, ↓x_fld, ↓x_fldS, ↓x_bm0, ↓x_bm, ↓x_sl, ↓x_nop, ↓x_prt, ↓x_neg, ↓x_revL, ↓x_lc, ↓x_for, ↓x_diSeq, ↓x_diEnum, ↓x_rng1, ↓y_addi, ↓y_adds, ↓y_addt, ↓y_int, ↓y_intC, ↓y_is, ↓y_isn, ↓y_nnon, ↓y_nbl, ↓y_nint, ↓y_nstr, ↓y_ntup, ↓y_nref, ↓y_t0, ↓y_t1, ↓y_t2, ↓y_t3, ↓y_m2, ↓y_m3, ↓y_len0, ↓y_len1, ↓y_len2, ↓y_len3, ↓y_len, ↓y_lenS, ↓y_itt, ↓y_iss, ↓y_iii, ↓y_iib, ↓y_i1, ↓y_i1b, ↓y_abs, ↓y_strI, ↓y_slt, ↓y_sls, ↓y_tys, ↓bIn_2, ↓bNotIn_2, ↓bEq_int, ↓bNe_int, wipeD, List.map_cons, List.map_nil, List.set_cons_zero, List.set_cons_succ, Option.some.injEq, exists_and_left, exists_eq_left', exists_eq_left, decide_true, decide_false, Bool.false_eq_true, reduceIte, Bool.not_true, Bool.not_false, List.length_cons, List.length_nil, Nat.reduceAdd, Nat.zero_add, line16, Nat.reduceLeDiff, Int.reduceEq, Int.reduceLT, Int.reduceLE, Int.reduceNeg, or_true, true_or, or_self, or_false, false_or, true_and, and_true, and_self, List.cons_append, List.nil_append, List.append_nil, forall_const]
      exact hR
  · simp only [put_same]
    intro b hb
    rw [pDs_enum, List.map_map, W0_map] at hb ⊢
    refine ⟨fun m σ M' => ∃ (W : List Wt) (np ne : Nat) (u5 u6 u7 u8 u9 u10 u11 : Option D), σ = [some (.int 6), some (.tup (pDs ps)), some (.ref b), some (.int ((np : Nat) : Int)), some (.int ((ne : Nat) : Int)), u5, u6, u7, u8, u9, u10, u11] ∧ M' b = some (.lst (W.map wD)) ∧ Sub M M' ∧ m = (W.map fun x => cP x.p).sum ∧ np + (W.map fun x => cP x.p).sum = cPs ps ∧ ne + (W.map fun x => iP x.p).sum = iPs ps ∧ ∀ x ∈ W, WOk x, ?_, ?_⟩
    · refine ⟨_, (W0 ps).reverse, 0, 0, none, none, none, none, none, none, none, rfl, ?_, ?_, rfl, ?_, ?_, ?_⟩
      · rw [put_same, List.map_reverse]
      · exact (Sub.putNew ha).new hb
      · rw [List.map_reverse, sum_rev, Nat.zero_add, W0, List.map_map, cPs_sum]
        congr 1
        conv => rhs; rw [← zipIdx_fst ps]
        rw [List.map_map]; rfl
      · rw [List.map_reverse, sum_rev, Nat.zero_add, W0, List.map_map, iPs_sum]
        congr 1
        conv => rhs; rw [← zipIdx_fst ps]
        rw [List.map_map]; rfl
      · intro x hx
        rw [List.mem_reverse, W0] at hx
        obtain ⟨p, hp', rfl⟩ := List.mem_map.mp hx
        have hmem : p.1 ∈ ps := by
          have := List.mem_map_of_mem (f := Prod.fst) hp'
          rwa [zipIdx_fst] at this
        exact ⟨hpm _ hmem, hkm _ hmem, by simp, by simp⟩
    · rintro m σ M' ⟨W, np, ne, u5, u6, u7, u8, u9, u10, u11, rfl, hW, hS, rfl, hn, he, hok⟩
      simp only [↓x_seq, ↓x_next, ↓x_ret, ↓x_retN, ↓x_drop, ↓x_if, ↓x_asg, ↓x_false, ↓x_brk, ↓x_cnt, ↓x_g0, ↓x_v0, ↓x_g1, ↓x_v1, ↓x_g2, ↓x_v2, ↓x_g3, ↓x_v3, ↓x_g4, ↓x_v4, ↓x_g5, ↓x_v5, ↓x_g6, ↓x_v6, ↓x_g7, ↓x_v7, ↓x_g8, ↓x_v8, ↓x_g9, ↓x_v9, ↓x_g10, ↓x_v10, ↓x_g11, ↓x_v11, ↓x_g12, ↓x_v12, ↓x_g13, ↓x_v13, ↓x_g14, ↓x_v14, ↓x_g15, ↓x_v15, ↓x_g16, ↓x_v16, ↓x_g17, ↓x_v17, ↓x_g18, ↓x_v18, ↓x_g19, ↓x_v19, ↓x_gt2, ↓x_gt3, ↓x_gt4, ↓x_gt5, ↓x_gt6, ↓x_gc, ↓x_gn, ↓x_par2, ↓x_p2, ↓x_par3, ↓x_p3, ↓x_C, ↓x_op, ↓x_test, ↓x_chain, ↓x_andT, ↓x_orT, ↓x_notT, ↓x_ifE, ↓x_andV, ↓x_orV, ↓x_notV, ↓x_nil, ↓x_cons, ↓x_star, ↓x_tup, ↓x_lst, ↓x_callB, ↓x_call, ↓x_callK, ↓x_meth, ↓x_make, ↓x_fld, ↓x_fldS, ↓x_bm0, ↓x_bm, ↓x_sl, ↓x_nop, ↓x_prt, ↓x_neg, ↓x_revL, ↓x_lc, ↓x_for, ↓x_diSeq, ↓x_diEnum, ↓x_rng1, ↓y_addi, ↓y_adds, ↓y_addt, ↓y_int, ↓y_intC, ↓y_is, ↓y_isn, ↓y_nnon, ↓y_nbl, ↓y_nint, ↓y_nstr, ↓y_ntup, ↓y_nref, ↓y_t0, ↓y_t1, ↓y_t2, ↓y_t3, ↓y_m2, ↓y_m3, ↓y_len0, ↓y_len1, ↓y_len2, ↓y_len3, ↓y_len, ↓y_lenS, ↓y_itt, ↓y_iss, ↓y_iii, ↓y_iib, ↓y_i1, ↓y_i1b, ↓y_abs, ↓y_strI, ↓y_slt, ↓y_sls, ↓y_tys, ↓bIn_2, ↓bNotIn_2, ↓bEq_int, ↓bNe_int, wipeD, List.map_cons, List.map_nil, List.set_cons_zero, List.set_cons_succ, Option.some.injEq, exists_and_left, exists_eq_left', exists_eq_left, decide_true, decide_false, Bool.false_eq_true, reduceIte, Bool.not_true, Bool.not_false, List.length_cons, List.length_nil, Nat.reduceAdd, Nat.zero_add, line16, Nat.reduceLeDiff, Int.reduceEq, Int.reduceLT, Int.reduceLE, Int.reduceNeg, or_true, true_or, or_self, or_false, false_or, true_and, and_true, and_self, List.cons_append, List.nil_append, List.append_nil, forall_const]
      intro e he0
      have hbe : b ≠ e := ne_of hW he0
      have hc13 : ∀ x ∈ W, cP x.p ≤ 13 := fun x hx => by
        have : cP x.p ≤ (W.map fun x => cP x.p).sum := le_sum (List.mem_map_of_mem (f := fun x => cP x.p) hx)
        omega
      rw [bNe_lnil ((put_ne hbe).trans hW) (toPs_map wD wP toP_w W) (shape_W hc13) put_same]
      have hS1 : Sub M (DL.put M' e (.lst [])) := hS.new he0
      have hW1 : DL.put M' e (.lst []) b = some (.lst (W.map wD)) := (put_ne hbe).trans hW
      rcases (show W = [] ∨ ∃ W' x, W = W' ++ [x] by rcases List.eq_nil_or_concat W with h | ⟨W', x, h⟩; exact .inl h; exact .inr ⟨W', x, by rw [h, List.concat_eq_append]⟩) with rfl | ⟨W', x, rfl⟩
      · simp only [List.map_nil, List.isEmpty_nil, ↓x_seq, ↓x_next, ↓x_ret, ↓x_retN, ↓x_drop, ↓x_if, ↓x_asg, ↓x_false, ↓x_brk, ↓x_cnt, ↓x_g0, ↓x_v0, ↓x_g1, ↓x_v1, ↓x_g2, ↓x_v2, ↓x_g3, ↓x_v3, ↓x_g4, ↓x_v4, ↓x_g5, ↓x_v5, ↓x_g6, ↓x_v6, ↓x_g7, ↓x_v7, ↓x_g8, ↓x_v8, ↓x_g9, ↓x_v9, ↓x_g10, ↓x_v10, ↓x_g11, ↓x_v11, ↓x_g12, ↓x_v12, ↓x_g13, ↓x_v13, ↓x_g14, ↓x_v14, ↓x_g15, ↓x_v15, ↓x_g16, ↓x_v16, ↓x_g17, ↓x_v17, ↓x_g18, ↓x_v18, ↓x_g19, ↓x_v19, ↓x_gt2, ↓x_gt3, ↓x_gt4, ↓x_gt5, ↓x_gt6, ↓x_gc, ↓x_gn, ↓x_par2, ↓x_p2, ↓x_par3, ↓x_p3, ↓x_C, ↓x_op, ↓x_test, ↓x_chain, ↓x_andT, ↓x_orT, ↓x_notT, ↓x_ifE, ↓x_andV, ↓x_orV, ↓x_notV, ↓x_nil, ↓x_cons, ↓x_star, ↓x_tup, ↓x_lst, ↓x_callB, ↓x_call, ↓x_callK, ↓x_meth, ↓x_make, ↓x_fld, ↓x_fldS, ↓x_bm0, ↓x_bm, ↓x_sl, ↓x_nop, ↓x_prt, ↓x_neg, ↓x_revL, ↓x_lc, ↓x_for, ↓x_diSeq, ↓x_diEnum, ↓x_rng1, ↓y_addi, ↓y_adds, ↓y_addt, ↓y_int, ↓y_intC, ↓y_is, ↓y_isn, ↓y_nnon, ↓y_nbl, ↓y_nint, ↓y_nstr, ↓y_ntup, ↓y_nref, ↓y_t0, ↓y_t1, ↓y_t2, ↓y_t3, ↓y_m2, ↓y_m3, ↓y_len0, ↓y_len1, ↓y_len2, ↓y_len3, ↓y_len, ↓y_lenS, ↓y_itt, ↓y_iss, ↓y_iii, ↓y_iib, ↓y_i1, ↓y_i1b, ↓y_abs, ↓y_strI, ↓y_slt, ↓y_sls, ↓y_tys, ↓bIn_2, ↓bNotIn_2, ↓bEq_int, ↓bNe_int, wipeD, List.map_cons, List.map_nil, List.set_cons_zero, List.set_cons_succ, Option.some.injEq, exists_and_left, exists_eq_left', exists_eq_left, decide_true, decide_false, Bool.false_eq_true, reduceIte, Bool.not_true, Bool.not_false, List.length_cons, List.length_nil, Nat.reduceAdd, Nat.zero_add, line16, Nat.reduceLeDiff, Int.reduceEq, Int.reduceLT, Int.reduceLE, Int.reduceNeg, or_true, true_or, or_self, or_false, false_or, true_and, and_true, and_self, List.cons_append, List.nil_append, List.append_nil, forall_const]
        simp only [List.map_nil, List.sum_nil, Nat.add_zero] at hn he
        have h1 : ¬ (12 : Int) < (np : Nat) := by omega
        have h2 : ¬ ((ne : Nat) : Int) = 0 := by omega
        simp only [h1, h2, ↓x_seq, ↓x_next, ↓x_ret, ↓x_retN, ↓x_drop, ↓x_if, ↓x_asg, ↓x_false, ↓x_brk, ↓x_cnt, ↓x_g0, ↓x_v0, ↓x_g1, ↓x_v1, ↓x_g2, ↓x_v2, ↓x_g3, ↓x_v3, ↓x_g4, ↓x_v4, ↓x_g5, ↓x_v5, ↓x_g6, ↓x_v6, ↓x_g7, ↓x_v7, ↓x_g8, ↓x_v8, ↓x_g9, ↓x_v9, ↓x_g10, ↓x_v10, ↓x_g11, ↓x_v11, ↓x_g12, ↓x_v12, ↓x_g13, ↓x_v13, ↓x_g14, ↓x_v14, ↓x_g15, ↓x_v15, ↓x_g16, ↓x_v16, ↓x_g17, ↓x_v17, ↓x_g18, ↓x_v18, ↓x_g19, ↓x_v19, ↓x_gt2, ↓x_gt3, ↓x_gt4, ↓x_gt5, ↓x_gt6, ↓x_gc, ↓x_gn, ↓x_par2, ↓x_p2, ↓x_par3, ↓x_p3, ↓x_C, ↓x_op, ↓x_test, ↓x_chain, ↓x_andT, ↓x_orT, ↓x_notT, ↓x_ifE, ↓x_andV, ↓x_orV, ↓x_notV, ↓x_nil, ↓x_cons, ↓x_star, ↓x_tup, ↓x_lst, ↓x_callB, ↓x_call, ↓x_callK, ↓x_meth, ↓x_make, ↓x_fld, ↓x_fldS, ↓x_bm0, ↓x_bm, ↓x_sl, ↓x_nop, ↓x_prt, ↓x_neg, ↓x_revL, ↓x_lc, ↓x_for, ↓x_diSeq, ↓x_diEnum, ↓x_rng1, ↓y_addi, ↓y_adds, ↓y_addt, ↓y_int, ↓y_intC, ↓y_is, ↓y_isn, ↓y_nnon, ↓y_nbl, ↓y_nint, ↓y_nstr, ↓y_ntup, ↓y_nref, ↓y_t0, ↓y_t1, ↓y_t2, ↓y_t3, ↓y_m2, ↓y_m3, ↓y_len0, ↓y_len1, ↓y_len2, ↓y_len3, ↓y_len, ↓y_lenS, ↓y_itt, ↓y_iss, ↓y_iii, ↓y_iib, ↓y_i1, ↓y_i1b, ↓y_abs, ↓y_strI, ↓y_slt, ↓y_sls, ↓y_tys, ↓bIn_2, ↓bNotIn_2, ↓bEq_int, ↓bNe_int, wipeD, List.map_cons, List.map_nil, List.set_cons_zero, List.set_cons_succ, Option.some.injEq, exists_and_left, exists_eq_left', exists_eq_left, decide_true, decide_false, Bool.false_eq_true, reduceIte, Bool.not_true, Bool.not_false, List.length_cons, List.length_nil, Nat.reduceAdd, Nat.zero_add, line16, Nat.reduceLeDiff, Int.reduceEq, Int.reduceLT, Int.reduceLE, Int.reduceNeg, or_true, true_or, or_self, or_false, false_or, true_and, and_true, and_self, List.cons_append, List.nil_append, List.append_nil, forall_const]
        exact Fg.mk hS1 q
      · have hx := hok x (by simp)
        have hxc := hc13 x (by simp)
        have hd := ck_deep hx.ck
        have hsp := hx.sp
        have hrm := hx.rm
        have hisE : (List.map wP (W' ++ [x])).isEmpty = false := by simp
        have hnl : W'.length ≤ 12 := by
          have : W'.length ≤ (W'.map fun x => cP x.p).sum := by
            clear hn he hW hok hc13 hW1 hisE
            induction W' with
            | nil => simp
            | cons y ys ih => have := cP_pos y.p; simp; omega
          simp at hn; omega
        simp only [hisE, ↓x_seq, ↓x_next, ↓x_ret, ↓x_retN, ↓x_drop, ↓x_if, ↓x_asg, ↓x_false, ↓x_brk, ↓x_cnt, ↓x_g0, ↓x_v0, ↓x_g1, ↓x_v1, ↓x_g2, ↓x_v2, ↓x_g3, ↓x_v3, ↓x_g4, ↓x_v4, ↓x_g5, ↓x_v5, ↓x_g6, ↓x_v6, ↓x_g7, ↓x_v7, ↓x_g8, ↓x_v8, ↓x_g9, ↓x_v9, ↓x_g10, ↓x_v10, ↓x_g11, ↓x_v11, ↓x_g12, ↓x_v12, ↓x_g13, ↓x_v13, ↓x_g14, ↓x_v14, ↓x_g15, ↓x_v15, ↓x_g16, ↓x_v16, ↓x_g17, ↓x_v17, ↓x_g18, ↓x_v18, ↓x_g19, ↓x_v19, ↓x_gt2, ↓x_gt3, ↓x_gt4, ↓x_gt5, ↓x_gt6, ↓x_gc, ↓x_gn, ↓x_par2, ↓x_p2, ↓x_par3, ↓x_p3, ↓x_C, ↓x_op, ↓x_test, ↓x_chain, ↓x_andT, ↓x_orT, ↓x_notT, ↓x_ifE, ↓x_andV, ↓x_orV, ↓x_notV, ↓x_nil, ↓x_cons, ↓x_star, ↓x_tup, ↓x_lst, ↓x_callB, ↓x_call, ↓x_callK, ↓x_meth, ↓x_make, ↓x_fld, ↓x_fldS, ↓x_bm0, ↓x_bm, ↓x_sl, ↓x_nop, ↓x_prt, ↓x_neg, ↓x_revL, ↓x_lc, ↓x_for, ↓x_diSeq, ↓x_diEnum, ↓x_rng1, ↓y_addi, ↓y_adds, ↓y_addt, ↓y_int, ↓y_intC, ↓y_is, ↓y_isn, ↓y_nnon, ↓y_nbl, ↓y_nint, ↓y_nstr, ↓y_ntup, ↓y_nref, ↓y_t0, ↓y_t1, ↓y_t2, ↓y_t3, ↓y_m2, ↓y_m3, ↓y_len0, ↓y_len1, ↓y_len2, ↓y_len3, ↓y_len, ↓y_lenS, ↓y_itt, ↓y_iss, ↓y_iii, ↓y_iib, ↓y_i1, ↓y_i1b, ↓y_abs, ↓y_strI, ↓y_slt, ↓y_sls, ↓y_tys, ↓bIn_2, ↓bNotIn_2, ↓bEq_int, ↓bNe_int, wipeD, List.map_cons, List.map_nil, List.set_cons_zero, List.set_cons_succ, Option.some.injEq, exists_and_left, exists_eq_left', exists_eq_left, decide_true, decide_false, Bool.false_eq_true, reduceIte, Bool.not_true, Bool.not_false, List.length_cons, List.length_nil, Nat.reduceAdd, Nat.zero_add, line16, Nat.reduceLeDiff, Int.reduceEq, Int.reduceLT, Int.reduceLE, Int.reduceNeg, or_true, true_or, or_self, or_false, false_or, true_and, and_true, and_self, List.cons_append, List.nil_append, List.append_nil, forall_const]
        refine ⟨by simp [dTy, hW1], _, wD x, hW1, by simp, ?_⟩
        simp only [wD, ↓x_seq, ↓x_next, ↓x_ret, ↓x_retN, ↓x_drop, ↓x_if, ↓x_asg, ↓x_false, ↓x_brk, ↓x_cnt, ↓x_g0, ↓x_v0, ↓x_g1, ↓x_v1, ↓x_g2, ↓x_v2, ↓x_g3, ↓x_v3, ↓x_g4, ↓x_v4, ↓x_g5, ↓x_v5, ↓x_g6, ↓x_v6, ↓x_g7, ↓x_v7, ↓x_g8, ↓x_v8, ↓x_g9, ↓x_v9, ↓x_g10, ↓x_v10, ↓x_g11, ↓x_v11, ↓x_g12, ↓x_v12, ↓x_g13, ↓x_v13, ↓x_g14, ↓x_v14, ↓x_g15, ↓x_v15, ↓x_g16, ↓x_v16, ↓x_g17, ↓x_v17, ↓x_g18, ↓x_v18, ↓x_g19, ↓x_v19, ↓x_gt2, ↓x_gt3, ↓x_gt4, ↓x_gt5, ↓x_gt6, ↓x_gc, ↓x_gn, ↓x_par2, ↓x_p2, ↓x_par3, ↓x_p3, ↓x_C, ↓x_op, ↓x_test, ↓x_chain, ↓x_andT, ↓x_orT, ↓x_notT, ↓x_ifE, ↓x_andV, ↓x_orV, ↓x_notV, ↓x_nil, ↓x_cons, ↓x_star, ↓x_tup, ↓x_lst, ↓x_callB, ↓x_call, ↓x_callK, ↓x_meth, ↓x_make, ↓x_fld, ↓x_fldS, ↓x_bm0, ↓x_bm, ↓x_sl, ↓x_nop, ↓x_prt, ↓x_neg, ↓x_revL, ↓x_lc, ↓x_for, ↓x_diSeq, ↓x_diEnum, ↓x_rng1, ↓y_addi, ↓y_adds, ↓y_addt, ↓y_int, ↓y_intC, ↓y_is, ↓y_isn, ↓y_nnon, ↓y_nbl, ↓y_nint, ↓y_nstr, ↓y_ntup, ↓y_nref, ↓y_t0, ↓y_t1, ↓y_t2, ↓y_t3, ↓y_m2, ↓y_m3, ↓y_len0, ↓y_len1, ↓y_len2, ↓y_len3, ↓y_len, ↓y_lenS, ↓y_itt, ↓y_iss, ↓y_iii, ↓y_iib, ↓y_i1, ↓y_i1b, ↓y_abs, ↓y_strI, ↓y_slt, ↓y_sls, ↓y_tys, ↓bIn_2, ↓bNotIn_2, ↓bEq_int, ↓bNe_int, wipeD, List.map_cons, List.map_nil, List.set_cons_zero, List.set_cons_succ, Option.some.injEq, exists_and_left, exists_eq_left', exists_eq_left, decide_true, decide_false, Bool.false_eq_true, reduceIte, Bool.not_true, Bool.not_false, List.length_cons, List.length_nil, Nat.reduceAdd, Nat.zero_add, line16, Nat.reduceLeDiff, Int.reduceEq, Int.reduceLT, Int.reduceLE, Int.reduceNeg, or_true, true_or, or_self, or_false, false_or, true_and, and_true, and_self, List.cons_append, List.nil_append, List.append_nil, forall_const, sp_part_error]
        refine ⟨x.p, x.spot, x.rooms, x.deep, rfl, hx.ok, hxc, hx.ck, ?_⟩
        rw [show (List.map wD (W' ++ [x])).dropLast = List.map wD W' by rw [List.map_append]; simp]
        cases hxp : x.p with
        | inn r own =>
          rw [show pD (.inn r own) = .tup [.str "in", .int (r : Int), .tup (pDs own)] by rw [pD]]
          simp only [↓bEq_str so_in so_in, ↓x_seq, ↓x_next, ↓x_ret, ↓x_retN, ↓x_drop, ↓x_if, ↓x_asg, ↓x_false, ↓x_brk, ↓x_cnt, ↓x_g0, ↓x_v0, ↓x_g1, ↓x_v1, ↓x_g2, ↓x_v2, ↓x_g3, ↓x_v3, ↓x_g4, ↓x_v4, ↓x_g5, ↓x_v5, ↓x_g6, ↓x_v6, ↓x_g7, ↓x_v7, ↓x_g8, ↓x_v8, ↓x_g9, ↓x_v9, ↓x_g10, ↓x_v10, ↓x_g11, ↓x_v11, ↓x_g12, ↓x_v12, ↓x_g13, ↓x_v13, ↓x_g14, ↓x_v14, ↓x_g15, ↓x_v15, ↓x_g16, ↓x_v16, ↓x_g17, ↓x_v17, ↓x_g18, ↓x_v18, ↓x_g19, ↓x_v19, ↓x_gt2, ↓x_gt3, ↓x_gt4, ↓x_gt5, ↓x_gt6, ↓x_gc, ↓x_gn, ↓x_par2, ↓x_p2, ↓x_par3, ↓x_p3, ↓x_C, ↓x_op, ↓x_test, ↓x_chain, ↓x_andT, ↓x_orT, ↓x_notT, ↓x_ifE, ↓x_andV, ↓x_orV, ↓x_notV, ↓x_nil, ↓x_cons, ↓x_star, ↓x_tup, ↓x_lst, ↓x_callB, ↓x_call, ↓x_callK, ↓x_meth, ↓x_make, ↓x_fld, ↓x_fldS, ↓x_bm0, ↓x_bm, ↓x_sl, ↓x_nop, ↓x_prt, ↓x_neg, ↓x_revL, ↓x_lc, ↓x_for, ↓x_diSeq, ↓x_diEnum, ↓x_rng1, ↓y_addi, ↓y_adds, ↓y_addt, ↓y_int, ↓y_intC, ↓y_is, ↓y_isn, ↓y_nnon, ↓y_nbl, ↓y_nint, ↓y_nstr, ↓y_ntup, ↓y_nref, ↓y_t0, ↓y_t1, ↓y_t2, ↓y_t3, ↓y_m2, ↓y_m3, ↓y_len0, ↓y_len1, ↓y_len2, ↓y_len3, ↓y_len, ↓y_lenS, ↓y_itt, ↓y_iss, ↓y_iii, ↓y_iib, ↓y_i1, ↓y_i1b, ↓y_abs, ↓y_strI, ↓y_slt, ↓y_sls, ↓y_tys, ↓bIn_2, ↓bNotIn_2, ↓bEq_int, ↓bNe_int, wipeD, List.map_cons, List.map_nil, List.set_cons_zero, List.set_cons_succ, Option.some.injEq, exists_and_left, exists_eq_left', exists_eq_left, decide_true, decide_false, Bool.false_eq_true, reduceIte, Bool.not_true, Bool.not_false, List.length_cons, List.length_nil, Nat.reduceAdd, Nat.zero_add, line16, Nat.reduceLeDiff, Int.reduceEq, Int.reduceLT, Int.reduceLE, Int.reduceNeg, or_true, true_or, or_self, or_false, false_or, true_and, and_true, and_self, List.cons_append, List.nil_append, List.append_nil, forall_const]
          refine ⟨by simp [nI]; omega, by simp [dTy, put_same], ?_⟩
          rw [show D.tup [.str "in", .int (r : Int), .tup (pDs own)] = pD x.p by rw [hxp, pD]]
          refine ⟨_, x.spot, rfl, hxc, hx.ok, by omega, fun a2 L ha2 hL1 hL2 => ?_⟩
          simp only [put_same]
          have hll : L.length ≤ 13 := by
            have h1 := len_cPs (kidsP x.p)
            have h2 := cP_kids x.p
            have h3 := congrArg List.length hL1
            rw [List.length_map] at h3
            simp only [hxp] at h1 h2 h3 hxc; omega
          refine lcG_map (wF (x.rooms ++ [r]) (x.deep + 1)) (fun p l hp => (put_ne (ne_of put_same hp)).trans put_same) (by rw [List.length_map, line16]; omega) (fun i y M'' hy hs' R hR => ?_) fun c hc' => ?_
          · rw [List.getElem?_map] at hy
            cases e : L[i]? with
            | none => rw [e] at hy; cases hy
            | some z =>
              rw [e] at hy; cases hy
              simp only [spD, ↓x_seq, ↓x_next, ↓x_ret, ↓x_retN, ↓x_drop, ↓x_if, ↓x_asg, ↓x_false, ↓x_brk, ↓x_cnt, ↓x_g0, ↓x_v0, ↓x_g1, ↓x_v1, ↓x_g2, ↓x_v2, ↓x_g3, ↓x_v3, ↓x_g4, ↓x_v4, ↓x_g5, ↓x_v5, ↓x_g6, ↓x_v6, ↓x_g7, ↓x_v7, ↓x_g8, ↓x_v8, ↓x_g9, ↓x_v9, ↓x_g10, ↓x_v10, ↓x_g11, ↓x_v11, ↓x_g12, ↓x_v12, ↓x_g13, ↓x_v13, ↓x_g14, ↓x_v14, ↓x_g15, ↓x_v15, ↓x_g16, ↓x_v16, ↓x_g17, ↓x_v17, ↓x_g18, ↓x_v18, ↓x_g19, ↓x_v19, ↓x_gt2, ↓x_gt3, ↓x_gt4, ↓x_gt5, ↓x_gt6, ↓x_gc, ↓x_gn, ↓x_par2, ↓x_p2, ↓x_par3, ↓x_p3, ↓x_C, ↓x_op, ↓x_test, ↓x_chain, ↓x_andT, ↓x_orT, ↓x_notT, ↓x_ifE, ↓x_andV, ↓x_orV, ↓x_notV, ↓x_nil, ↓x_cons, ↓x_star, ↓x_tup, ↓x_lst, ↓x_callB, ↓x_call, ↓x_callK, ↓x_meth, ↓x_make, ↓x_fld, ↓x_fldS, ↓x_bm0, ↓x_bm, ↓x_sl, ↓x_nop, ↓x_prt, ↓x_neg, ↓x_revL, ↓x_lc, ↓x_for, ↓x_diSeq, ↓x_diEnum, ↓x_rng1, ↓y_addi, ↓y_adds, ↓y_addt, ↓y_int, ↓y_intC, ↓y_is, ↓y_isn, ↓y_nnon, ↓y_nbl, ↓y_nint, ↓y_nstr, ↓y_ntup, ↓y_nref, ↓y_t0, ↓y_t1, ↓y_t2, ↓y_t3, ↓y_m2, ↓y_m3, ↓y_len0, ↓y_len1, ↓y_len2, ↓y_len3, ↓y_len, ↓y_lenS, ↓y_itt, ↓y_iss, ↓y_iii, ↓y_iib, ↓y_i1, ↓y_i1b, ↓y_abs, ↓y_strI, ↓y_slt, ↓y_sls, ↓y_tys, ↓bIn_2, ↓bNotIn_2, ↓bEq_int, ↓bNe_int, wipeD, List.map_cons, List.map_nil, List.set_cons_zero, List.set_cons_succ, Option.some.injEq, exists_and_left, exists_eq_left', exists_eq_left, decide_true, decide_false, Bool.false_eq_true, reduceIte, Bool.not_true, Bool.not_false, List.length_cons, List.length_nil, Nat.reduceAdd, Nat.zero_add, line16, Nat.reduceLeDiff, Int.reduceEq, Int.reduceLT, Int.reduceLE, Int.reduceNeg, or_true, true_or, or_self, or_false, false_or, true_and, and_true, and_self, List.cons_append, List.nil_append, List.append_nil, forall_const]
              simpa [wF, spD, nI_app] using hR
          · simp only [put_same]
            intro d hd
            have hL3 : (L.map spD).map (wF (x.rooms ++ [r]) (x.deep + 1)) = (L.map fun z => (⟨z.1, z.2, (x.rooms ++ [r]), x.deep + 1⟩ : Wt)).map wD := by
              rw [List.map_map, List.map_map]
              apply List.map_congr_left
              intro z _
              simp [wF, spD, wD]
            rw [hL3] at hd ⊢
            have hb2 : b ≠ a2 := ne_of put_same ha2
            have hb3 : b ≠ c := ne_of ((put_ne hb2).trans put_same) hc'
            have hb4 : b ≠ d := ne_of ((put_ne hb3).trans ((put_ne hb2).trans put_same)) hd
            have hbM : M b = none := by
              cases hq : M b with
              | none => rfl
              | some o => rw [(Sub.putNew ha).nn hb] at hq; cases hq
            have hkid : ∀ z ∈ L, z.2 ∈ kidsP x.p := fun z hz => by rw [← hL1]; exact List.mem_map_of_mem hz
            have sc : (L.map fun z => cP z.2).sum = cPs (kidsP x.p) := by rw [cPs_sum, ← hL1, List.map_map]; rfl
            have si : (L.map fun z => iP z.2).sum = iPs (kidsP x.p) := by rw [iPs_sum, ← hL1, List.map_map]; rfl
            have ec : ((W' ++ (L.map fun z => (⟨z.1, z.2, (x.rooms ++ [r]), x.deep + 1⟩ : Wt)).reverse).map fun y => cP y.p).sum + 1 = ((W' ++ [x]).map fun y => cP y.p).sum := by
              rw [List.map_append, List.map_append, List.map_reverse, List.sum_append, List.sum_append, sum_rev, List.map_map]
              have h1 := cP_kids x.p
              have : (L.map ((fun y : Wt => cP y.p) ∘ fun z => (⟨z.1, z.2, (x.rooms ++ [r]), x.deep + 1⟩ : Wt))).sum = (L.map fun z => cP z.2).sum := rfl
              rw [this, sc]
              simp only [List.map_cons, List.map_nil, List.sum_cons, List.sum_nil]; omega
            have ei : ((W' ++ (L.map fun z => (⟨z.1, z.2, (x.rooms ++ [r]), x.deep + 1⟩ : Wt)).reverse).map fun y => iP y.p).sum + 1 = ((W' ++ [x]).map fun y => iP y.p).sum := by
              rw [List.map_append, List.map_append, List.map_reverse, List.sum_append, List.sum_append, sum_rev, List.map_map]
              have h1 := iP_kids x.p
              have h2 : isIn x.p = 1 := by rw [hxp]; rfl
              have : (L.map ((fun y : Wt => iP y.p) ∘ fun z => (⟨z.1, z.2, (x.rooms ++ [r]), x.deep + 1⟩ : Wt))).sum = (L.map fun z => iP z.2).sum := rfl
              rw [this, si]
              simp only [List.map_cons, List.map_nil, List.sum_cons, List.sum_nil]; omega
            refine ⟨W'.map wD, _, ?_, put_same, ?_, ?_⟩
            · exact (put_ne hb4).trans ((put_ne hb3).trans ((put_ne hb2).trans put_same))
            · rw [List.length_map, List.length_reverse, List.length_map, List.length_map, line16]; omega
            · refine ⟨_, ?_, W' ++ (L.map fun z => (⟨z.1, z.2, (x.rooms ++ [r]), x.deep + 1⟩ : Wt)).reverse, np + 1, ne + 1, _, _, _, _, _, _, _, rfl, ?_, ?_, rfl, ?_, ?_, ?_⟩
              · omega
              · rw [put_same, List.map_append, List.map_reverse]
              · exact ((((hS1.set hbM).new ha2).new hc').new hd).set hbM
              · omega
              · omega
              · intro y hy
                rcases List.mem_append.mp hy with h | h
                · exact hok y (by simp [h])
                · rw [List.mem_reverse] at h
                  obtain ⟨z, hz, rfl⟩ := List.mem_map.mp h
                  have hk1 := ck_kids hx.ck z.2 (hkid z hz)
                  have hr1 : inRooms x.rooms x.p = (x.rooms ++ [r]) := by rw [hxp]; rfl
                  rw [hr1] at hk1
                  refine ⟨ok_kids hx.ok z.2 (hkid z hz), hk1, ?_, ?_⟩
                  · have := hL2 z hz; show z.1.length ≤ 2 * (x.deep + 1) + 1; omega
                  · show List.length (x.rooms ++ [r]) ≤ x.deep + 1; first | omega | (simp; omega)
        | again own =>
          rw [show pD (.again own) = .tup [.str "again", .tup (pDs own)] by rw [pD]]
          simp only [↓bEq_str so_again so_in, ne_ai, ↓x_seq, ↓x_next, ↓x_ret, ↓x_retN, ↓x_drop, ↓x_if, ↓x_asg, ↓x_false, ↓x_brk, ↓x_cnt, ↓x_g0, ↓x_v0, ↓x_g1, ↓x_v1, ↓x_g2, ↓x_v2, ↓x_g3, ↓x_v3, ↓x_g4, ↓x_v4, ↓x_g5, ↓x_v5, ↓x_g6, ↓x_v6, ↓x_g7, ↓x_v7, ↓x_g8, ↓x_v8, ↓x_g9, ↓x_v9, ↓x_g10, ↓x_v10, ↓x_g11, ↓x_v11, ↓x_g12, ↓x_v12, ↓x_g13, ↓x_v13, ↓x_g14, ↓x_v14, ↓x_g15, ↓x_v15, ↓x_g16, ↓x_v16, ↓x_g17, ↓x_v17, ↓x_g18, ↓x_v18, ↓x_g19, ↓x_v19, ↓x_gt2, ↓x_gt3, ↓x_gt4, ↓x_gt5, ↓x_gt6, ↓x_gc, ↓x_gn, ↓x_par2, ↓x_p2, ↓x_par3, ↓x_p3, ↓x_C, ↓x_op, ↓x_test, ↓x_chain, ↓x_andT, ↓x_orT, ↓x_notT, ↓x_ifE, ↓x_andV, ↓x_orV, ↓x_notV, ↓x_nil, ↓x_cons, ↓x_star, ↓x_tup, ↓x_lst, ↓x_callB, ↓x_call, ↓x_callK, ↓x_meth, ↓x_make, ↓x_fld, ↓x_fldS, ↓x_bm0, ↓x_bm, ↓x_sl, ↓x_nop, ↓x_prt, ↓x_neg, ↓x_revL, ↓x_lc, ↓x_for, ↓x_diSeq, ↓x_diEnum, ↓x_rng1, ↓y_addi, ↓y_adds, ↓y_addt, ↓y_int, ↓y_intC, ↓y_is, ↓y_isn, ↓y_nnon, ↓y_nbl, ↓y_nint, ↓y_nstr, ↓y_ntup, ↓y_nref, ↓y_t0, ↓y_t1, ↓y_t2, ↓y_t3, ↓y_m2, ↓y_m3, ↓y_len0, ↓y_len1, ↓y_len2, ↓y_len3, ↓y_len, ↓y_lenS, ↓y_itt, ↓y_iss, ↓y_iii, ↓y_iib, ↓y_i1, ↓y_i1b, ↓y_abs, ↓y_strI, ↓y_slt, ↓y_sls, ↓y_tys, ↓bIn_2, ↓bNotIn_2, ↓bEq_int, ↓bNe_int, wipeD, List.map_cons, List.map_nil, List.set_cons_zero, List.set_cons_succ, Option.some.injEq, exists_and_left, exists_eq_left', exists_eq_left, decide_true, decide_false, Bool.false_eq_true, reduceIte, Bool.not_true, Bool.not_false, List.length_cons, List.length_nil, Nat.reduceAdd, Nat.zero_add, line16, Nat.reduceLeDiff, Int.reduceEq, Int.reduceLT, Int.reduceLE, Int.reduceNeg, or_true, true_or, or_self, or_false, false_or, true_and, and_true, and_self, List.cons_append, List.nil_append, List.append_nil, forall_const]
          refine ⟨by simp [dTy, put_same], ?_⟩
          rw [show D.tup [.str "again", .tup (pDs own)] = pD x.p by rw [hxp, pD]]
          refine ⟨_, x.spot, rfl, hxc, hx.ok, by omega, fun a2 L ha2 hL1 hL2 => ?_⟩
          simp only [put_same]
          have hll : L.length ≤ 13 := by
            have h1 := len_cPs (kidsP x.p)
            have h2 := cP_kids x.p
            have h3 := congrArg List.length hL1
            rw [List.length_map] at h3
            simp only [hxp] at h1 h2 h3 hxc; omega
          refine lcG_map (wF x.rooms (x.deep + 1)) (fun p l hp => (put_ne (ne_of put_same hp)).trans put_same) (by rw [List.length_map, line16]; omega) (fun i y M'' hy hs' R hR => ?_) fun c hc' => ?_
          · rw [List.getElem?_map] at hy
            cases e : L[i]? with
            | none => rw [e] at hy; cases hy
            | some z =>
              rw [e] at hy; cases hy
              simp only [spD, ↓x_seq, ↓x_next, ↓x_ret, ↓x_retN, ↓x_drop, ↓x_if, ↓x_asg, ↓x_false, ↓x_brk, ↓x_cnt, ↓x_g0, ↓x_v0, ↓x_g1, ↓x_v1, ↓x_g2, ↓x_v2, ↓x_g3, ↓x_v3, ↓x_g4, ↓x_v4, ↓x_g5, ↓x_v5, ↓x_g6, ↓x_v6, ↓x_g7, ↓x_v7, ↓x_g8, ↓x_v8, ↓x_g9, ↓x_v9, ↓x_g10, ↓x_v10, ↓x_g11, ↓x_v11, ↓x_g12, ↓x_v12, ↓x_g13, ↓x_v13, ↓x_g14, ↓x_v14, ↓x_g15, ↓x_v15, ↓x_g16, ↓x_v16, ↓x_g17, ↓x_v17, ↓x_g18, ↓x_v18, ↓x_g19, ↓x_v19, ↓x_gt2, ↓x_gt3, ↓x_gt4, ↓x_gt5, ↓x_gt6, ↓x_gc, ↓x_gn, ↓x_par2, ↓x_p2, ↓x_par3, ↓x_p3, ↓x_C, ↓x_op, ↓x_test, ↓x_chain, ↓x_andT, ↓x_orT, ↓x_notT, ↓x_ifE, ↓x_andV, ↓x_orV, ↓x_notV, ↓x_nil, ↓x_cons, ↓x_star, ↓x_tup, ↓x_lst, ↓x_callB, ↓x_call, ↓x_callK, ↓x_meth, ↓x_make, ↓x_fld, ↓x_fldS, ↓x_bm0, ↓x_bm, ↓x_sl, ↓x_nop, ↓x_prt, ↓x_neg, ↓x_revL, ↓x_lc, ↓x_for, ↓x_diSeq, ↓x_diEnum, ↓x_rng1, ↓y_addi, ↓y_adds, ↓y_addt, ↓y_int, ↓y_intC, ↓y_is, ↓y_isn, ↓y_nnon, ↓y_nbl, ↓y_nint, ↓y_nstr, ↓y_ntup, ↓y_nref, ↓y_t0, ↓y_t1, ↓y_t2, ↓y_t3, ↓y_m2, ↓y_m3, ↓y_len0, ↓y_len1, ↓y_len2, ↓y_len3, ↓y_len, ↓y_lenS, ↓y_itt, ↓y_iss, ↓y_iii, ↓y_iib, ↓y_i1, ↓y_i1b, ↓y_abs, ↓y_strI, ↓y_slt, ↓y_sls, ↓y_tys, ↓bIn_2, ↓bNotIn_2, ↓bEq_int, ↓bNe_int, wipeD, List.map_cons, List.map_nil, List.set_cons_zero, List.set_cons_succ, Option.some.injEq, exists_and_left, exists_eq_left', exists_eq_left, decide_true, decide_false, Bool.false_eq_true, reduceIte, Bool.not_true, Bool.not_false, List.length_cons, List.length_nil, Nat.reduceAdd, Nat.zero_add, line16, Nat.reduceLeDiff, Int.reduceEq, Int.reduceLT, Int.reduceLE, Int.reduceNeg, or_true, true_or, or_self, or_false, false_or, true_and, and_true, and_self, List.cons_append, List.nil_append, List.append_nil, forall_const]
              simpa [wF, spD, nI_app] using hR
          · simp only [put_same]
            intro d hd
            have hL3 : (L.map spD).map (wF x.rooms (x.deep + 1)) = (L.map fun z => (⟨z.1, z.2, x.rooms, x.deep + 1⟩ : Wt)).map wD := by
              rw [List.map_map, List.map_map]
              apply List.map_congr_left
              intro z _
              simp [wF, spD, wD]
            rw [hL3] at hd ⊢
            have hb2 : b ≠ a2 := ne_of put_same ha2
            have hb3 : b ≠ c := ne_of ((put_ne hb2).trans put_same) hc'
            have hb4 : b ≠ d := ne_of ((put_ne hb3).trans ((put_ne hb2).trans put_same)) hd
            have hbM : M b = none := by
              cases hq : M b with
              | none => rfl
              | some o => rw [(Sub.putNew ha).nn hb] at hq; cases hq
            have hkid : ∀ z ∈ L, z.2 ∈ kidsP x.p := fun z hz => by rw [← hL1]; exact List.mem_map_of_mem hz
            have sc : (L.map fun z => cP z.2).sum = cPs (kidsP x.p) := by rw [cPs_sum, ← hL1, List.map_map]; rfl
            have si : (L.map fun z => iP z.2).sum = iPs (kidsP x.p) := by rw [iPs_sum, ← hL1, List.map_map]; rfl
            have ec : ((W' ++ (L.map fun z => (⟨z.1, z.2, x.rooms, x.deep + 1⟩ : Wt)).reverse).map fun y => cP y.p).sum + 1 = ((W' ++ [x]).map fun y => cP y.p).sum := by
              rw [List.map_append, List.map_append, List.map_reverse, List.sum_append, List.sum_append, sum_rev, List.map_map]
              have h1 := cP_kids x.p
              have : (L.map ((fun y : Wt => cP y.p) ∘ fun z => (⟨z.1, z.2, x.rooms, x.deep + 1⟩ : Wt))).sum = (L.map fun z => cP z.2).sum := rfl
              rw [this, sc]
              simp only [List.map_cons, List.map_nil, List.sum_cons, List.sum_nil]; omega
            have ei : ((W' ++ (L.map fun z => (⟨z.1, z.2, x.rooms, x.deep + 1⟩ : Wt)).reverse).map fun y => iP y.p).sum + 0 = ((W' ++ [x]).map fun y => iP y.p).sum := by
              rw [List.map_append, List.map_append, List.map_reverse, List.sum_append, List.sum_append, sum_rev, List.map_map]
              have h1 := iP_kids x.p
              have h2 : isIn x.p = 0 := by rw [hxp]; rfl
              have : (L.map ((fun y : Wt => iP y.p) ∘ fun z => (⟨z.1, z.2, x.rooms, x.deep + 1⟩ : Wt))).sum = (L.map fun z => iP z.2).sum := rfl
              rw [this, si]
              simp only [List.map_cons, List.map_nil, List.sum_cons, List.sum_nil]; omega
            refine ⟨W'.map wD, _, ?_, put_same, ?_, ?_⟩
            · exact (put_ne hb4).trans ((put_ne hb3).trans ((put_ne hb2).trans put_same))
            · rw [List.length_map, List.length_reverse, List.length_map, List.length_map, line16]; omega
            · refine ⟨_, ?_, W' ++ (L.map fun z => (⟨z.1, z.2, x.rooms, x.deep + 1⟩ : Wt)).reverse, np + 1, ne + 0, _, _, _, _, _, _, _, rfl, ?_, ?_, rfl, ?_, ?_, ?_⟩
              · omega
              · rw [put_same, List.map_append, List.map_reverse]
              · exact ((((hS1.set hbM).new ha2).new hc').new hd).set hbM
              · omega
              · omega
              · intro y hy
                rcases List.mem_append.mp hy with h | h
                · exact hok y (by simp [h])
                · rw [List.mem_reverse] at h
                  obtain ⟨z, hz, rfl⟩ := List.mem_map.mp h
                  have hk1 := ck_kids hx.ck z.2 (hkid z hz)
                  have hr1 : inRooms x.rooms x.p = x.rooms := by rw [hxp]; rfl
                  rw [hr1] at hk1
                  refine ⟨ok_kids hx.ok z.2 (hkid z hz), hk1, ?_, ?_⟩
                  · have := hL2 z hz; show z.1.length ≤ 2 * (x.deep + 1) + 1; omega
                  · show List.length x.rooms ≤ x.deep + 1; first | omega | (simp; omega)
        | either lots =>
          rw [show pD (.either lots) = .tup [.str "either", .tup (pDss lots)] by rw [pD]]
          simp only [↓bEq_str so_either so_in, ne_ei, ↓x_seq, ↓x_next, ↓x_ret, ↓x_retN, ↓x_drop, ↓x_if, ↓x_asg, ↓x_false, ↓x_brk, ↓x_cnt, ↓x_g0, ↓x_v0, ↓x_g1, ↓x_v1, ↓x_g2, ↓x_v2, ↓x_g3, ↓x_v3, ↓x_g4, ↓x_v4, ↓x_g5, ↓x_v5, ↓x_g6, ↓x_v6, ↓x_g7, ↓x_v7, ↓x_g8, ↓x_v8, ↓x_g9, ↓x_v9, ↓x_g10, ↓x_v10, ↓x_g11, ↓x_v11, ↓x_g12, ↓x_v12, ↓x_g13, ↓x_v13, ↓x_g14, ↓x_v14, ↓x_g15, ↓x_v15, ↓x_g16, ↓x_v16, ↓x_g17, ↓x_v17, ↓x_g18, ↓x_v18, ↓x_g19, ↓x_v19, ↓x_gt2, ↓x_gt3, ↓x_gt4, ↓x_gt5, ↓x_gt6, ↓x_gc, ↓x_gn, ↓x_par2, ↓x_p2, ↓x_par3, ↓x_p3, ↓x_C, ↓x_op, ↓x_test, ↓x_chain, ↓x_andT, ↓x_orT, ↓x_notT, ↓x_ifE, ↓x_andV, ↓x_orV, ↓x_notV, ↓x_nil, ↓x_cons, ↓x_star, ↓x_tup, ↓x_lst, ↓x_callB, ↓x_call, ↓x_callK, ↓x_meth, ↓x_make, ↓x_fld, ↓x_fldS, ↓x_bm0, ↓x_bm, ↓x_sl, ↓x_nop, ↓x_prt, ↓x_neg, ↓x_revL, ↓x_lc, ↓x_for, ↓x_diSeq, ↓x_diEnum, ↓x_rng1, ↓y_addi, ↓y_adds, ↓y_addt, ↓y_int, ↓y_intC, ↓y_is, ↓y_isn, ↓y_nnon, ↓y_nbl, ↓y_nint, ↓y_nstr, ↓y_ntup, ↓y_nref, ↓y_t0, ↓y_t1, ↓y_t2, ↓y_t3, ↓y_m2, ↓y_m3, ↓y_len0, ↓y_len1, ↓y_len2, ↓y_len3, ↓y_len, ↓y_lenS, ↓y_itt, ↓y_iss, ↓y_iii, ↓y_iib, ↓y_i1, ↓y_i1b, ↓y_abs, ↓y_strI, ↓y_slt, ↓y_sls, ↓y_tys, ↓bIn_2, ↓bNotIn_2, ↓bEq_int, ↓bNe_int, wipeD, List.map_cons, List.map_nil, List.set_cons_zero, List.set_cons_succ, Option.some.injEq, exists_and_left, exists_eq_left', exists_eq_left, decide_true, decide_false, Bool.false_eq_true, reduceIte, Bool.not_true, Bool.not_false, List.length_cons, List.length_nil, Nat.reduceAdd, Nat.zero_add, line16, Nat.reduceLeDiff, Int.reduceEq, Int.reduceLT, Int.reduceLE, Int.reduceNeg, or_true, true_or, or_self, or_false, false_or, true_and, and_true, and_self, List.cons_append, List.nil_append, List.append_nil, forall_const]
          refine ⟨by simp [dTy, put_same], ?_⟩
          rw [show D.tup [.str "either", .tup (pDss lots)] = pD x.p by rw [hxp, pD]]
          refine ⟨_, x.spot, rfl, hxc, hx.ok, by omega, fun a2 L ha2 hL1 hL2 => ?_⟩
          simp only [put_same]
          have hll : L.length ≤ 13 := by
            have h1 := len_cPs (kidsP x.p)
            have h2 := cP_kids x.p
            have h3 := congrArg List.length hL1
            rw [List.length_map] at h3
            simp only [hxp] at h1 h2 h3 hxc; omega
          refine lcG_map (wF x.rooms (x.deep + 1)) (fun p l hp => (put_ne (ne_of put_same hp)).trans put_same) (by rw [List.length_map, line16]; omega) (fun i y M'' hy hs' R hR => ?_) fun c hc' => ?_
          · rw [List.getElem?_map] at hy
            cases e : L[i]? with
            | none => rw [e] at hy; cases hy
            | some z =>
              rw [e] at hy; cases hy
              simp only [spD, ↓x_seq, ↓x_next, ↓x_ret, ↓x_retN, ↓x_drop, ↓x_if, ↓x_asg, ↓x_false, ↓x_brk, ↓x_cnt, ↓x_g0, ↓x_v0, ↓x_g1, ↓x_v1, ↓x_g2, ↓x_v2, ↓x_g3, ↓x_v3, ↓x_g4, ↓x_v4, ↓x_g5, ↓x_v5, ↓x_g6, ↓x_v6, ↓x_g7, ↓x_v7, ↓x_g8, ↓x_v8, ↓x_g9, ↓x_v9, ↓x_g10, ↓x_v10, ↓x_g11, ↓x_v11, ↓x_g12, ↓x_v12, ↓x_g13, ↓x_v13, ↓x_g14, ↓x_v14, ↓x_g15, ↓x_v15, ↓x_g16, ↓x_v16, ↓x_g17, ↓x_v17, ↓x_g18, ↓x_v18, ↓x_g19, ↓x_v19, ↓x_gt2, ↓x_gt3, ↓x_gt4, ↓x_gt5, ↓x_gt6, ↓x_gc, ↓x_gn, ↓x_par2, ↓x_p2, ↓x_par3, ↓x_p3, ↓x_C, ↓x_op, ↓x_test, ↓x_chain, ↓x_andT, ↓x_orT, ↓x_notT, ↓x_ifE, ↓x_andV, ↓x_orV, ↓x_notV, ↓x_nil, ↓x_cons, ↓x_star, ↓x_tup, ↓x_lst, ↓x_callB, ↓x_call, ↓x_callK, ↓x_meth, ↓x_make, ↓x_fld, ↓x_fldS, ↓x_bm0, ↓x_bm, ↓x_sl, ↓x_nop, ↓x_prt, ↓x_neg, ↓x_revL, ↓x_lc, ↓x_for, ↓x_diSeq, ↓x_diEnum, ↓x_rng1, ↓y_addi, ↓y_adds, ↓y_addt, ↓y_int, ↓y_intC, ↓y_is, ↓y_isn, ↓y_nnon, ↓y_nbl, ↓y_nint, ↓y_nstr, ↓y_ntup, ↓y_nref, ↓y_t0, ↓y_t1, ↓y_t2, ↓y_t3, ↓y_m2, ↓y_m3, ↓y_len0, ↓y_len1, ↓y_len2, ↓y_len3, ↓y_len, ↓y_lenS, ↓y_itt, ↓y_iss, ↓y_iii, ↓y_iib, ↓y_i1, ↓y_i1b, ↓y_abs, ↓y_strI, ↓y_slt, ↓y_sls, ↓y_tys, ↓bIn_2, ↓bNotIn_2, ↓bEq_int, ↓bNe_int, wipeD, List.map_cons, List.map_nil, List.set_cons_zero, List.set_cons_succ, Option.some.injEq, exists_and_left, exists_eq_left', exists_eq_left, decide_true, decide_false, Bool.false_eq_true, reduceIte, Bool.not_true, Bool.not_false, List.length_cons, List.length_nil, Nat.reduceAdd, Nat.zero_add, line16, Nat.reduceLeDiff, Int.reduceEq, Int.reduceLT, Int.reduceLE, Int.reduceNeg, or_true, true_or, or_self, or_false, false_or, true_and, and_true, and_self, List.cons_append, List.nil_append, List.append_nil, forall_const]
              simpa [wF, spD, nI_app] using hR
          · simp only [put_same]
            intro d hd
            have hL3 : (L.map spD).map (wF x.rooms (x.deep + 1)) = (L.map fun z => (⟨z.1, z.2, x.rooms, x.deep + 1⟩ : Wt)).map wD := by
              rw [List.map_map, List.map_map]
              apply List.map_congr_left
              intro z _
              simp [wF, spD, wD]
            rw [hL3] at hd ⊢
            have hb2 : b ≠ a2 := ne_of put_same ha2
            have hb3 : b ≠ c := ne_of ((put_ne hb2).trans put_same) hc'
            have hb4 : b ≠ d := ne_of ((put_ne hb3).trans ((put_ne hb2).trans put_same)) hd
            have hbM : M b = none := by
              cases hq : M b with
              | none => rfl
              | some o => rw [(Sub.putNew ha).nn hb] at hq; cases hq
            have hkid : ∀ z ∈ L, z.2 ∈ kidsP x.p := fun z hz => by rw [← hL1]; exact List.mem_map_of_mem hz
            have sc : (L.map fun z => cP z.2).sum = cPs (kidsP x.p) := by rw [cPs_sum, ← hL1, List.map_map]; rfl
            have si : (L.map fun z => iP z.2).sum = iPs (kidsP x.p) := by rw [iPs_sum, ← hL1, List.map_map]; rfl
            have ec : ((W' ++ (L.map fun z => (⟨z.1, z.2, x.rooms, x.deep + 1⟩ : Wt)).reverse).map fun y => cP y.p).sum + 1 = ((W' ++ [x]).map fun y => cP y.p).sum := by
              rw [List.map_append, List.map_append, List.map_reverse, List.sum_append, List.sum_append, sum_rev, List.map_map]
              have h1 := cP_kids x.p
              have : (L.map ((fun y : Wt => cP y.p) ∘ fun z => (⟨z.1, z.2, x.rooms, x.deep + 1⟩ : Wt))).sum = (L.map fun z => cP z.2).sum := rfl
              rw [this, sc]
              simp only [List.map_cons, List.map_nil, List.sum_cons, List.sum_nil]; omega
            have ei : ((W' ++ (L.map fun z => (⟨z.1, z.2, x.rooms, x.deep + 1⟩ : Wt)).reverse).map fun y => iP y.p).sum + 0 = ((W' ++ [x]).map fun y => iP y.p).sum := by
              rw [List.map_append, List.map_append, List.map_reverse, List.sum_append, List.sum_append, sum_rev, List.map_map]
              have h1 := iP_kids x.p
              have h2 : isIn x.p = 0 := by rw [hxp]; rfl
              have : (L.map ((fun y : Wt => iP y.p) ∘ fun z => (⟨z.1, z.2, x.rooms, x.deep + 1⟩ : Wt))).sum = (L.map fun z => iP z.2).sum := rfl
              rw [this, si]
              simp only [List.map_cons, List.map_nil, List.sum_cons, List.sum_nil]; omega
            refine ⟨W'.map wD, _, ?_, put_same, ?_, ?_⟩
            · exact (put_ne hb4).trans ((put_ne hb3).trans ((put_ne hb2).trans put_same))
            · rw [List.length_map, List.length_reverse, List.length_map, List.length_map, line16]; omega
            · refine ⟨_, ?_, W' ++ (L.map fun z => (⟨z.1, z.2, x.rooms, x.deep + 1⟩ : Wt)).reverse, np + 1, ne + 0, _, _, _, _, _, _, _, rfl, ?_, ?_, rfl, ?_, ?_, ?_⟩
              · omega
              · rw [put_same, List.map_append, List.map_reverse]
              · exact ((((hS1.set hbM).new ha2).new hc').new hd).set hbM
              · omega
              · omega
              · intro y hy
                rcases List.mem_append.mp hy with h | h
                · exact hok y (by simp [h])
                · rw [List.mem_reverse] at h
                  obtain ⟨z, hz, rfl⟩ := List.mem_map.mp h
                  have hk1 := ck_kids hx.ck z.2 (hkid z hz)
                  have hr1 : inRooms x.rooms x.p = x.rooms := by rw [hxp]; rfl
                  rw [hr1] at hk1
                  refine ⟨ok_kids hx.ok z.2 (hkid z hz), hk1, ?_, ?_⟩
                  · have := hL2 z hz; show z.1.length ≤ 2 * (x.deep + 1) + 1; omega
                  · show List.length x.rooms ≤ x.deep + 1; first | omega | (simp; omega)
end
end K76
namespace K76
open PySem PySem.Spec PyProof.Rows L2 DL
section
variable {P : Program} {w : World} {K : PySem.W.Frag} {mg : Str → Option Value} {base : Heap}
def sp_program_text' (n : Nat) : DSp := fun ds M Q E => ∃ ps : List Part, ds = [.tup (pDs ps)] ∧ okPs ps = true ∧ cPs ps ≤ n ∧ n ≤ 20 ∧ Q (.str (S (tPs ps))) M
def sp_part_text' (n : Nat) : DSp := fun ds M Q E => ∃ p : Part, ds = [pD p] ∧ okP p = true ∧ cP p ≤ n ∧ n ≤ 20 ∧ Q (.str (S (tP p))) M
def sp_in_brackets' (n : Nat) : DSp := fun ds M Q E => ∃ ps : List Part, ds = [.tup (pDs ps)] ∧ okPs ps = true ∧ cPs ps ≤ n ∧ n ≤ 20 ∧ Q (.str (S (tB ps))) M
theorem n_in_brackets (T : Tx K mg) (n : Nat) (hp : DFn P w K mg base CX0 (3 * n + 1) T.f_program_text T.d_program_text ["program"] (sp_program_text' n)) : DFn P w K mg base CX0 (3 * n + 1 + 1) T.f_in_brackets T.d_in_brackets ["program"] (sp_in_brackets' n) := by
  refine dfn_of (N := N_in_brackets) T.F_in_brackets sc_in_brackets (by decide) (fun ds M Q E h => ?_) (fun cdv A outer s H hr hgd => (dss_one (ds_ret (de_bin op_add4 tr_add (de_bin op_add4 tr_add de_str (de_call hp (hr.mono (by omega)) hgd rfl T.g_program_text T.F_program_text.kp T.b_program_text dpass0 (da_cons (de_var 0) da_nil))) de_str)))) ?_
  · obtain ⟨_, rfl, _⟩ := h; rfl
  rintro ds M Q E ⟨ps, rfl, hp, hc, hn, q⟩
  rw [st_in_brackets]
  have := tPs_len ps hp
  simp only [↓x_seq, ↓x_next, ↓x_ret, ↓x_retN, ↓x_drop, ↓x_if, ↓x_asg, ↓x_false, ↓x_brk, ↓x_cnt, ↓x_g0, ↓x_v0, ↓x_g1, ↓x_v1, ↓x_g2, ↓x_v2, ↓x_g3, ↓x_v3, ↓x_g4, ↓x_v4, ↓x_g5, ↓x_v5, ↓x_g6, ↓x_v6, ↓x_g7, ↓x_v7, ↓x_g8, ↓x_v8, ↓x_g9, ↓x_v9, ↓x_g10, ↓x_v10, ↓x_g11, ↓x_v11, ↓x_g12, ↓x_v12, ↓x_g13, ↓x_v13, ↓x_g14, ↓x_v14, ↓x_g15, ↓x_v15, ↓x_g16, ↓x_v16, ↓x_g17, ↓x_v17, ↓x_g18, ↓x_v18, ↓x_g19, ↓x_v19, ↓x_gt2, ↓x_gt3, ↓x_gt4, ↓x_gt5, ↓x_gt6, ↓x_gc, ↓x_gn, ↓x_par2, ↓x_p2, ↓x_par3, ↓x_p3, ↓x_C, ↓x_op, ↓x_test, ↓x_chain, ↓x_andT, ↓x_orT, ↓x_notT, ↓x_ifE, ↓x_andV, ↓x_orV, ↓x_notV, ↓x_nil, ↓x_cons, ↓x_star, ↓x_tup, ↓x_lst, ↓x_callB, ↓x_call, ↓x_callK, ↓x_meth, ↓x_make, ↓x_fld, ↓x_fldS, ↓x_bm0, ↓x_bm, ↓x_sl, ↓x_nop, ↓x_prt, ↓x_neg, ↓x_revL, ↓x_lc, ↓x_for, ↓x_diSeq, ↓x_diEnum, ↓x_rng1, ↓y_addi, ↓y_adds, ↓y_addt, ↓y_int, ↓y_intC, ↓y_is, ↓y_isn, ↓y_nnon, ↓y_nbl, ↓y_nint, ↓y_nstr, ↓y_ntup, ↓y_nref, ↓y_t0, ↓y_t1, ↓y_t2, ↓y_t3, ↓y_m2, ↓y_m3, ↓y_len0, ↓y_len1, ↓y_len2, ↓y_len3, ↓y_len, ↓y_lenS, ↓y_itt, ↓y_iss, ↓y_iii, ↓y_iib, ↓y_i1, ↓y_i1b, ↓y_abs, ↓y_strI, ↓y_slt, ↓y_sls, ↓y_tys, ↓bIn_2, ↓bNotIn_2, ↓bEq_int, ↓bNe_int, wipeD, List.map_cons, List.map_nil, List.set_cons_zero, List.set_cons_succ, Option.some.injEq, exists_and_left, exists_eq_left', exists_eq_left, decide_true, decide_false, Bool.false_eq_true, reduceIte, Bool.not_true, Bool.not_false, List.length_cons, List.length_nil, Nat.reduceAdd, Nat.zero_add, line16, Nat.reduceLeDiff, Int.reduceEq, Int.reduceLT, Int.reduceLE, Int.reduceNeg, or_true, true_or, or_self, or_false, false_or, true_and, and_true, and_self, List.cons_append, List.nil_append, List.append_nil, forall_const, sp_program_text', l_op, l_cl]
  refine ⟨ps, rfl, hp, hc, hn, ?_⟩
  simp only [↓x_seq, ↓x_next, ↓x_ret, ↓x_retN, ↓x_drop, ↓x_if, ↓x_asg, ↓x_false, ↓x_brk, ↓x_cnt, ↓x_g0, ↓x_v0, ↓x_g1, ↓x_v1, ↓x_g2, ↓x_v2, ↓x_g3, ↓x_v3, ↓x_g4, ↓x_v4, ↓x_g5, ↓x_v5, ↓x_g6, ↓x_v6, ↓x_g7, ↓x_v7, ↓x_g8, ↓x_v8, ↓x_g9, ↓x_v9, ↓x_g10, ↓x_v10, ↓x_g11, ↓x_v11, ↓x_g12, ↓x_v12, ↓x_g13, ↓x_v13, ↓x_g14, ↓x_v14, ↓x_g15, ↓x_v15, ↓x_g16, ↓x_v16, ↓x_g17, ↓x_v17, ↓x_g18, ↓x_v18, ↓x_g19, ↓x_v19, ↓x_gt2, ↓x_gt3, ↓x_gt4, ↓x_gt5, ↓x_gt6, ↓x_gc, ↓x_gn, ↓x_par2, ↓x_p2, ↓x_par3, ↓x_p3, ↓x_C, ↓x_op, ↓x_test, ↓x_chain, ↓x_andT, ↓x_orT, ↓x_notT, ↓x_ifE, ↓x_andV, ↓x_orV, ↓x_notV, ↓x_nil, ↓x_cons, ↓x_star, ↓x_tup, ↓x_lst, ↓x_callB, ↓x_call, ↓x_callK, ↓x_meth, ↓x_make, ↓x_fld, ↓x_fldS, ↓x_bm0, ↓x_bm, ↓x_sl, ↓x_nop, ↓x_prt, ↓x_neg, ↓x_revL, ↓x_lc, ↓x_for, ↓x_diSeq, ↓x_diEnum, ↓x_rng1, ↓y_addi, ↓y_adds, ↓y_addt, ↓y_int, ↓y_intC, ↓y_is, ↓y_isn, ↓y_nnon, ↓y_nbl, ↓y_nint, ↓y_nstr, ↓y_ntup, ↓y_nref, ↓y_t0, ↓y_t1, ↓y_t2, ↓y_t3, ↓y_m2, ↓y_m3, ↓y_len0, ↓y_len1, ↓y_len2, ↓y_len3, ↓y_len, ↓y_lenS, ↓y_itt, ↓y_iss, ↓y_iii, ↓y_iib, ↓y_i1, ↓y_i1b, ↓y_abs, ↓y_strI, ↓y_slt, ↓y_sls, ↓y_tys, ↓bIn_2, ↓bNotIn_2, ↓bEq_int, ↓bNe_int, wipeD, List.map_cons, List.map_nil, List.set_cons_zero, List.set_cons_succ, Option.some.injEq, exists_and_left, exists_eq_left', exists_eq_left, decide_true, decide_false, Bool.false_eq_true, reduceIte, Bool.not_true, Bool.not_false, List.length_cons, List.length_nil, Nat.reduceAdd, Nat.zero_add, line16, Nat.reduceLeDiff, Int.reduceEq, Int.reduceLT, Int.reduceLE, Int.reduceNeg, or_true, true_or, or_self, or_false, false_or, true_and, and_true, and_self, List.cons_append, List.nil_append, List.append_nil, forall_const, S_app, S_len, List.length_append]
  exact ⟨by omega, by omega, Fg.now q⟩
theorem n_part_text (T : Tx K mg) (n : Nat) (hb : DFn P w K mg base CX0 (3 * n + 2) T.f_in_brackets T.d_in_brackets ["program"] (sp_in_brackets' n)) : DFn P w K mg base CX0 (3 * n + 2 + 1) T.f_part_text T.d_part_text ["part"] (sp_part_text' (n + 1)) := by
  refine dfn_of (N := N_part_text) T.F_part_text sc_part_text (by decide) (fun ds M Q E h => ?_) (fun cdv A outer s H hr hgd => (dss_cons (ds_if (dt_cmp (op_eqD hr.units) tr_eq (de_ix (hu_of hr) (de_var 0) de_int) de_str (nomark _)) (dss_one (ds_ret (de_bin op_add4 tr_add (de_bin op_add4 tr_add de_str (de_callTy call_str_int tr_strI rfl T.n_str bt_str (da_cons (de_ix (hu_of hr) (de_var 0) de_int) da_nil))) (de_if (dt_cmp (op_neD hr.units) tr_ne (de_ix (hu_of hr) (de_var 0) de_int) (de_tup da_nil) (nomark _)) (de_bin op_add4 tr_add de_str (de_call hb (hr.mono (by omega)) hgd rfl T.g_in_brackets T.F_in_brackets.kp T.b_in_brackets dpass0 (da_cons (de_ix (hu_of hr) (de_var 0) de_int) da_nil))) de_str)))) dss_nil) (dss_cons (ds_if (dt_cmp (op_eqD hr.units) tr_eq (de_ix (hu_of hr) (de_var 0) de_int) de_str (nomark _)) (dss_one (ds_ret (de_bin op_add4 tr_add de_str (de_bm PySem.F.plainAttrs_str PySem.F.slot_str_join PySem.F.type_str_join mt_join tr_join de_str (da_cons (de_lc (own := [("program", 1)]) rfl sc_part_text.nd (di_seq (de_ix (hu_of hr) (de_var 0) de_int)) (blkOk_by (N := N_part_text) (sc := defScope s_part_text) (by decide +kernel)) (fun _ _ _ _ _ => (pg_name (i := 1) sc_part_text.nd rfl (by first | exact Or.inl rfl | exact Or.inr rfl))) dgr_name (only_name (by decide)) (fun _ _ _ _ _ => (de_call hb (hr.mono (by omega)) hgd rfl T.g_in_brackets T.F_in_brackets.kp T.b_in_brackets dpass0 (da_cons (de_var 1) da_nil)))) da_nil))))) dss_nil) (dss_one (ds_ret (de_bin op_add4 tr_add de_str (de_call hb (hr.mono (by omega)) hgd rfl T.g_in_brackets T.F_in_brackets.kp T.b_in_brackets dpass0 (da_cons (de_ix (hu_of hr) (de_var 0) de_int) da_nil)))))))) ?_
  · obtain ⟨_, rfl, _⟩ := h; rfl
  rintro ds M Q E ⟨p, rfl, hp, hc, hn, q⟩
  rw [st_part_text]
  have hlen := tP_len p hp
  cases p with
  | inn r own =>
    have h' : r < 6 ∧ okPs own = true := by simpa [okP] using hp
    have hc' : cPs own ≤ n := by simp [cP] at hc; omega
    rw [show pD (.inn r own) = .tup [.str "in", .int (r : Int), .tup (pDs own)] by rw [pD]]
    simp only [↓bEq_str so_in so_in, ↓bNe_pnil (show cPs own ≤ 20 by omega), ↓x_seq, ↓x_next, ↓x_ret, ↓x_retN, ↓x_drop, ↓x_if, ↓x_asg, ↓x_false, ↓x_brk, ↓x_cnt, ↓x_g0, ↓x_v0, ↓x_g1, ↓x_v1, ↓x_g2, ↓x_v2, ↓x_g3, ↓x_v3, ↓x_g4, ↓x_v4, ↓x_g5, ↓x_v5, ↓x_g6, ↓x_v6, ↓x_g7, ↓x_v7, ↓x_g8, ↓x_v8, ↓x_g9, ↓x_v9, ↓x_g10, ↓x_v10, ↓x_g11, ↓x_v11, ↓x_g12, ↓x_v12, ↓x_g13, ↓x_v13, ↓x_g14, ↓x_v14, ↓x_g15, ↓x_v15, ↓x_g16, ↓x_v16, ↓x_g17, ↓x_v17, ↓x_g18, ↓x_v18, ↓x_g19, ↓x_v19, ↓x_gt2, ↓x_gt3, ↓x_gt4, ↓x_gt5, ↓x_gt6, ↓x_gc, ↓x_gn, ↓x_par2, ↓x_p2, ↓x_par3, ↓x_p3, ↓x_C, ↓x_op, ↓x_test, ↓x_chain, ↓x_andT, ↓x_orT, ↓x_notT, ↓x_ifE, ↓x_andV, ↓x_orV, ↓x_notV, ↓x_nil, ↓x_cons, ↓x_star, ↓x_tup, ↓x_lst, ↓x_callB, ↓x_call, ↓x_callK, ↓x_meth, ↓x_make, ↓x_fld, ↓x_fldS, ↓x_bm0, ↓x_bm, ↓x_sl, ↓x_nop, ↓x_prt, ↓x_neg, ↓x_revL, ↓x_lc, ↓x_for, ↓x_diSeq, ↓x_diEnum, ↓x_rng1, ↓y_addi, ↓y_adds, ↓y_addt, ↓y_int, ↓y_intC, ↓y_is, ↓y_isn, ↓y_nnon, ↓y_nbl, ↓y_nint, ↓y_nstr, ↓y_ntup, ↓y_nref, ↓y_t0, ↓y_t1, ↓y_t2, ↓y_t3, ↓y_m2, ↓y_m3, ↓y_len0, ↓y_len1, ↓y_len2, ↓y_len3, ↓y_len, ↓y_lenS, ↓y_itt, ↓y_iss, ↓y_iii, ↓y_iib, ↓y_i1, ↓y_i1b, ↓y_abs, ↓y_strI, ↓y_slt, ↓y_sls, ↓y_tys, ↓bIn_2, ↓bNotIn_2, ↓bEq_int, ↓bNe_int, wipeD, List.map_cons, List.map_nil, List.set_cons_zero, List.set_cons_succ, Option.some.injEq, exists_and_left, exists_eq_left', exists_eq_left, decide_true, decide_false, Bool.false_eq_true, reduceIte, Bool.not_true, Bool.not_false, List.length_cons, List.length_nil, Nat.reduceAdd, Nat.zero_add, line16, Nat.reduceLeDiff, Int.reduceEq, Int.reduceLT, Int.reduceLE, Int.reduceNeg, or_true, true_or, or_self, or_false, false_or, true_and, and_true, and_self, List.cons_append, List.nil_append, List.append_nil, forall_const, l_in, l_no, dig h'.1]
    have hz : (r : Int).natAbs.log2 < 1920 := by
      have : r = 0 ∨ r = 1 ∨ r = 2 ∨ r = 3 ∨ r = 4 ∨ r = 5 := by omega
      rcases this with rfl | rfl | rfl | rfl | rfl | rfl <;> decide +kernel
    refine ⟨hz, by simp only [S_len, List.length_cons, List.length_nil]; omega, ?_⟩
    cases own with
    | nil =>
      simp only [List.isEmpty_nil, ↓x_seq, ↓x_next, ↓x_ret, ↓x_retN, ↓x_drop, ↓x_if, ↓x_asg, ↓x_false, ↓x_brk, ↓x_cnt, ↓x_g0, ↓x_v0, ↓x_g1, ↓x_v1, ↓x_g2, ↓x_v2, ↓x_g3, ↓x_v3, ↓x_g4, ↓x_v4, ↓x_g5, ↓x_v5, ↓x_g6, ↓x_v6, ↓x_g7, ↓x_v7, ↓x_g8, ↓x_v8, ↓x_g9, ↓x_v9, ↓x_g10, ↓x_v10, ↓x_g11, ↓x_v11, ↓x_g12, ↓x_v12, ↓x_g13, ↓x_v13, ↓x_g14, ↓x_v14, ↓x_g15, ↓x_v15, ↓x_g16, ↓x_v16, ↓x_g17, ↓x_v17, ↓x_g18, ↓x_v18, ↓x_g19, ↓x_v19, ↓x_gt2, ↓x_gt3, ↓x_gt4, ↓x_gt5, ↓x_gt6, ↓x_gc, ↓x_gn, ↓x_par2, ↓x_p2, ↓x_par3, ↓x_p3, ↓x_C, ↓x_op, ↓x_test, ↓x_chain, ↓x_andT, ↓x_orT, ↓x_notT, ↓x_ifE, ↓x_andV, ↓x_orV, ↓x_notV, ↓x_nil, ↓x_cons, ↓x_star, ↓x_tup, ↓x_lst, ↓x_callB, ↓x_call, ↓x_callK, ↓x_meth, ↓x_make, ↓x_fld, ↓x_fldS, ↓x_bm0, ↓x_bm, ↓x_sl, ↓x_nop, ↓x_prt, ↓x_neg, ↓x_revL, ↓x_lc, ↓x_for, ↓x_diSeq, ↓x_diEnum, ↓x_rng1, ↓y_addi, ↓y_adds, ↓y_addt, ↓y_int, ↓y_intC, ↓y_is, ↓y_isn, ↓y_nnon, ↓y_nbl, ↓y_nint, ↓y_nstr, ↓y_ntup, ↓y_nref, ↓y_t0, ↓y_t1, ↓y_t2, ↓y_t3, ↓y_m2, ↓y_m3, ↓y_len0, ↓y_len1, ↓y_len2, ↓y_len3, ↓y_len, ↓y_lenS, ↓y_itt, ↓y_iss, ↓y_iii, ↓y_iib, ↓y_i1, ↓y_i1b, ↓y_abs, ↓y_strI, ↓y_slt, ↓y_sls, ↓y_tys, ↓bIn_2, ↓bNotIn_2, ↓bEq_int, ↓bNe_int, wipeD, List.map_cons, List.map_nil, List.set_cons_zero, List.set_cons_succ, Option.some.injEq, exists_and_left, exists_eq_left', exists_eq_left, decide_true, decide_false, Bool.false_eq_true, reduceIte, Bool.not_true, Bool.not_false, List.length_cons, List.length_nil, Nat.reduceAdd, Nat.zero_add, line16, Nat.reduceLeDiff, Int.reduceEq, Int.reduceLT, Int.reduceLE, Int.reduceNeg, or_true, true_or, or_self, or_false, false_or, true_and, and_true, and_self, List.cons_append, List.nil_append, List.append_nil, forall_const, S_len, S_app]
      rw [tP_in0] at q
      simpa using Fg.now q
    | cons x xs =>
      have hl2 := tPs_len (x :: xs) h'.2
      rw [tP_in1 _ (by simp)] at q
      simp only [List.isEmpty_cons, ↓x_seq, ↓x_next, ↓x_ret, ↓x_retN, ↓x_drop, ↓x_if, ↓x_asg, ↓x_false, ↓x_brk, ↓x_cnt, ↓x_g0, ↓x_v0, ↓x_g1, ↓x_v1, ↓x_g2, ↓x_v2, ↓x_g3, ↓x_v3, ↓x_g4, ↓x_v4, ↓x_g5, ↓x_v5, ↓x_g6, ↓x_v6, ↓x_g7, ↓x_v7, ↓x_g8, ↓x_v8, ↓x_g9, ↓x_v9, ↓x_g10, ↓x_v10, ↓x_g11, ↓x_v11, ↓x_g12, ↓x_v12, ↓x_g13, ↓x_v13, ↓x_g14, ↓x_v14, ↓x_g15, ↓x_v15, ↓x_g16, ↓x_v16, ↓x_g17, ↓x_v17, ↓x_g18, ↓x_v18, ↓x_g19, ↓x_v19, ↓x_gt2, ↓x_gt3, ↓x_gt4, ↓x_gt5, ↓x_gt6, ↓x_gc, ↓x_gn, ↓x_par2, ↓x_p2, ↓x_par3, ↓x_p3, ↓x_C, ↓x_op, ↓x_test, ↓x_chain, ↓x_andT, ↓x_orT, ↓x_notT, ↓x_ifE, ↓x_andV, ↓x_orV, ↓x_notV, ↓x_nil, ↓x_cons, ↓x_star, ↓x_tup, ↓x_lst, ↓x_callB, ↓x_call, ↓x_callK, ↓x_meth, ↓x_make, ↓x_fld, ↓x_fldS, ↓x_bm0, ↓x_bm, ↓x_sl, ↓x_nop, ↓x_prt, ↓x_neg, ↓x_revL, ↓x_lc, ↓x_for, ↓x_diSeq, ↓x_diEnum, ↓x_rng1, ↓y_addi, ↓y_adds, ↓y_addt, ↓y_int, ↓y_intC, ↓y_is, ↓y_isn, ↓y_nnon, ↓y_nbl, ↓y_nint, ↓y_nstr, ↓y_ntup, ↓y_nref, ↓y_t0, ↓y_t1, ↓y_t2, ↓y_t3, ↓y_m2, ↓y_m3, ↓y_len0, ↓y_len1, ↓y_len2, ↓y_len3, ↓y_len, ↓y_lenS, ↓y_itt, ↓y_iss, ↓y_iii, ↓y_iib, ↓y_i1, ↓y_i1b, ↓y_abs, ↓y_strI, ↓y_slt, ↓y_sls, ↓y_tys, ↓bIn_2, ↓bNotIn_2, ↓bEq_int, ↓bNe_int, wipeD, List.map_cons, List.map_nil, List.set_cons_zero, List.set_cons_succ, Option.some.injEq, exists_and_left, exists_eq_left', exists_eq_left, decide_true, decide_false, Bool.false_eq_true, reduceIte, Bool.not_true, Bool.not_false, List.length_cons, List.length_nil, Nat.reduceAdd, Nat.zero_add, line16, Nat.reduceLeDiff, Int.reduceEq, Int.reduceLT, Int.reduceLE, Int.reduceNeg, or_true, true_or, or_self, or_false, false_or, true_and, and_true, and_self, List.cons_append, List.nil_append, List.append_nil, forall_const, sp_in_brackets', l_sp, S_len, S_app]
      refine ⟨x :: xs, rfl, h'.2, hc', by omega, ?_⟩
      simp only [tB, List.length_cons, List.length_append, List.length_nil]
      refine ⟨by omega, by omega, ?_⟩
      simpa [List.append_assoc] using Fg.now q
  | again own =>
    have h' : okPs own = true := by simp [okP] at hp; exact hp.2
    have hc' : cPs own ≤ n := by simp [cP] at hc; omega
    rw [show pD (.again own) = .tup [.str "again", .tup (pDs own)] by rw [pD]]
    simp only [↓bEq_str so_again so_in, ↓bEq_str so_again so_either, ne_ai, ne_ae, ↓x_seq, ↓x_next, ↓x_ret, ↓x_retN, ↓x_drop, ↓x_if, ↓x_asg, ↓x_false, ↓x_brk, ↓x_cnt, ↓x_g0, ↓x_v0, ↓x_g1, ↓x_v1, ↓x_g2, ↓x_v2, ↓x_g3, ↓x_v3, ↓x_g4, ↓x_v4, ↓x_g5, ↓x_v5, ↓x_g6, ↓x_v6, ↓x_g7, ↓x_v7, ↓x_g8, ↓x_v8, ↓x_g9, ↓x_v9, ↓x_g10, ↓x_v10, ↓x_g11, ↓x_v11, ↓x_g12, ↓x_v12, ↓x_g13, ↓x_v13, ↓x_g14, ↓x_v14, ↓x_g15, ↓x_v15, ↓x_g16, ↓x_v16, ↓x_g17, ↓x_v17, ↓x_g18, ↓x_v18, ↓x_g19, ↓x_v19, ↓x_gt2, ↓x_gt3, ↓x_gt4, ↓x_gt5, ↓x_gt6, ↓x_gc, ↓x_gn, ↓x_par2, ↓x_p2, ↓x_par3, ↓x_p3, ↓x_C, ↓x_op, ↓x_test, ↓x_chain, ↓x_andT, ↓x_orT, ↓x_notT, ↓x_ifE, ↓x_andV, ↓x_orV, ↓x_notV, ↓x_nil, ↓x_cons, ↓x_star, ↓x_tup, ↓x_lst, ↓x_callB, ↓x_call, ↓x_callK, ↓x_meth, ↓x_make, ↓x_fld, ↓x_fldS, ↓x_bm0, ↓x_bm, ↓x_sl, ↓x_nop, ↓x_prt, ↓x_neg, ↓x_revL, ↓x_lc, ↓x_for, ↓x_diSeq, ↓x_diEnum, ↓x_rng1, ↓y_addi, ↓y_adds, ↓y_addt, ↓y_int, ↓y_intC, ↓y_is, ↓y_isn, ↓y_nnon, ↓y_nbl, ↓y_nint, ↓y_nstr, ↓y_ntup, ↓y_nref, ↓y_t0, ↓y_t1, ↓y_t2, ↓y_t3, ↓y_m2, ↓y_m3, ↓y_len0, ↓y_len1, ↓y_len2, ↓y_len3, ↓y_len, ↓y_lenS, ↓y_itt, ↓y_iss, ↓y_iii, ↓y_iib, ↓y_i1, ↓y_i1b, ↓y_abs, ↓y_strI, ↓y_slt, ↓y_sls, ↓y_tys, ↓bIn_2, ↓bNotIn_2, ↓bEq_int, ↓bNe_int, wipeD, List.map_cons, List.map_nil, List.set_cons_zero, List.set_cons_succ, Option.some.injEq, exists_and_left, exists_eq_left', exists_eq_left, decide_true, decide_false, Bool.false_eq_true, reduceIte, Bool.not_true, Bool.not_false, List.length_cons, List.length_nil, Nat.reduceAdd, Nat.zero_add, line16, Nat.reduceLeDiff, Int.reduceEq, Int.reduceLT, Int.reduceLE, Int.reduceNeg, or_true, true_or, or_self, or_false, false_or, true_and, and_true, and_self, List.cons_append, List.nil_append, List.append_nil, forall_const, sp_in_brackets', l_ag]
    have hl2 := tPs_len own h'
    rw [tP_ag] at q
    refine ⟨own, rfl, h', hc', by omega, ?_⟩
    simp only [S_len, S_app, tB, List.length_cons, List.length_append, List.length_nil]
    refine ⟨by omega, ?_⟩
    simpa [List.append_assoc] using Fg.now q
  | either lots =>
    rw [show pD (.either lots) = .tup [.str "either", .tup (pDss lots)] by rw [pD]]
    simp only [↓bEq_str so_either so_in, ↓bEq_str so_either so_either, ne_ei, ↓x_seq, ↓x_next, ↓x_ret, ↓x_retN, ↓x_drop, ↓x_if, ↓x_asg, ↓x_false, ↓x_brk, ↓x_cnt, ↓x_g0, ↓x_v0, ↓x_g1, ↓x_v1, ↓x_g2, ↓x_v2, ↓x_g3, ↓x_v3, ↓x_g4, ↓x_v4, ↓x_g5, ↓x_v5, ↓x_g6, ↓x_v6, ↓x_g7, ↓x_v7, ↓x_g8, ↓x_v8, ↓x_g9, ↓x_v9, ↓x_g10, ↓x_v10, ↓x_g11, ↓x_v11, ↓x_g12, ↓x_v12, ↓x_g13, ↓x_v13, ↓x_g14, ↓x_v14, ↓x_g15, ↓x_v15, ↓x_g16, ↓x_v16, ↓x_g17, ↓x_v17, ↓x_g18, ↓x_v18, ↓x_g19, ↓x_v19, ↓x_gt2, ↓x_gt3, ↓x_gt4, ↓x_gt5, ↓x_gt6, ↓x_gc, ↓x_gn, ↓x_par2, ↓x_p2, ↓x_par3, ↓x_p3, ↓x_C, ↓x_op, ↓x_test, ↓x_chain, ↓x_andT, ↓x_orT, ↓x_notT, ↓x_ifE, ↓x_andV, ↓x_orV, ↓x_notV, ↓x_nil, ↓x_cons, ↓x_star, ↓x_tup, ↓x_lst, ↓x_callB, ↓x_call, ↓x_callK, ↓x_meth, ↓x_make, ↓x_fld, ↓x_fldS, ↓x_bm0, ↓x_bm, ↓x_sl, ↓x_nop, ↓x_prt, ↓x_neg, ↓x_revL, ↓x_lc, ↓x_for, ↓x_diSeq, ↓x_diEnum, ↓x_rng1, ↓y_addi, ↓y_adds, ↓y_addt, ↓y_int, ↓y_intC, ↓y_is, ↓y_isn, ↓y_nnon, ↓y_nbl, ↓y_nint, ↓y_nstr, ↓y_ntup, ↓y_nref, ↓y_t0, ↓y_t1, ↓y_t2, ↓y_t3, ↓y_m2, ↓y_m3, ↓y_len0, ↓y_len1, ↓y_len2, ↓y_len3, ↓y_len, ↓y_lenS, ↓y_itt, ↓y_iss, ↓y_iii, ↓y_iib, ↓y_i1, ↓y_i1b, ↓y_abs, ↓y_strI, ↓y_slt, ↓y_sls, ↓y_tys, ↓bIn_2, ↓bNotIn_2, ↓bEq_int, ↓bNe_int, wipeD, List.map_cons, List.map_nil, List.set_cons_zero, List.set_cons_succ, Option.some.injEq, exists_and_left, exists_eq_left', exists_eq_left, decide_true, decide_false, Bool.false_eq_true, reduceIte, Bool.not_true, Bool.not_false, List.length_cons, List.length_nil, Nat.reduceAdd, Nat.zero_add, line16, Nat.reduceLeDiff, Int.reduceEq, Int.reduceLT, Int.reduceLE, Int.reduceNeg, or_true, true_or, or_self, or_false, false_or, true_and, and_true, and_self, List.cons_append, List.nil_append, List.append_nil, forall_const, l_ei, l_or]
    have h' : lots.length ≤ 4 ∧ okPss lots = true := by simp [okP] at hp; exact ⟨hp.1.2, hp.2⟩
    have hc' : cPss lots ≤ n := by simp [cP] at hc; omega
    refine lcG_mapA lots (fun l => .tup (pDs l)) (fun l => .str (S (tB l))) (pDss_map lots) (fun _ _ _ => trivial) (by omega) (fun l hl M' hs R hR => ?_) fun p hp' => ?_
    · simp only [↓x_seq, ↓x_next, ↓x_ret, ↓x_retN, ↓x_drop, ↓x_if, ↓x_asg, ↓x_false, ↓x_brk, ↓x_cnt, ↓x_g0, ↓x_v0, ↓x_g1, ↓x_v1, ↓x_g2, ↓x_v2, ↓x_g3, ↓x_v3, ↓x_g4, ↓x_v4, ↓x_g5, ↓x_v5, ↓x_g6, ↓x_v6, ↓x_g7, ↓x_v7, ↓x_g8, ↓x_v8, ↓x_g9, ↓x_v9, ↓x_g10, ↓x_v10, ↓x_g11, ↓x_v11, ↓x_g12, ↓x_v12, ↓x_g13, ↓x_v13, ↓x_g14, ↓x_v14, ↓x_g15, ↓x_v15, ↓x_g16, ↓x_v16, ↓x_g17, ↓x_v17, ↓x_g18, ↓x_v18, ↓x_g19, ↓x_v19, ↓x_gt2, ↓x_gt3, ↓x_gt4, ↓x_gt5, ↓x_gt6, ↓x_gc, ↓x_gn, ↓x_par2, ↓x_p2, ↓x_par3, ↓x_p3, ↓x_C, ↓x_op, ↓x_test, ↓x_chain, ↓x_andT, ↓x_orT, ↓x_notT, ↓x_ifE, ↓x_andV, ↓x_orV, ↓x_notV, ↓x_nil, ↓x_cons, ↓x_star, ↓x_tup, ↓x_lst, ↓x_callB, ↓x_call, ↓x_callK, ↓x_meth, ↓x_make, ↓x_fld, ↓x_fldS, ↓x_bm0, ↓x_bm, ↓x_sl, ↓x_nop, ↓x_prt, ↓x_neg, ↓x_revL, ↓x_lc, ↓x_for, ↓x_diSeq, ↓x_diEnum, ↓x_rng1, ↓y_addi, ↓y_adds, ↓y_addt, ↓y_int, ↓y_intC, ↓y_is, ↓y_isn, ↓y_nnon, ↓y_nbl, ↓y_nint, ↓y_nstr, ↓y_ntup, ↓y_nref, ↓y_t0, ↓y_t1, ↓y_t2, ↓y_t3, ↓y_m2, ↓y_m3, ↓y_len0, ↓y_len1, ↓y_len2, ↓y_len3, ↓y_len, ↓y_lenS, ↓y_itt, ↓y_iss, ↓y_iii, ↓y_iib, ↓y_i1, ↓y_i1b, ↓y_abs, ↓y_strI, ↓y_slt, ↓y_sls, ↓y_tys, ↓bIn_2, ↓bNotIn_2, ↓bEq_int, ↓bNe_int, wipeD, List.map_cons, List.map_nil, List.set_cons_zero, List.set_cons_succ, Option.some.injEq, exists_and_left, exists_eq_left', exists_eq_left, decide_true, decide_false, Bool.false_eq_true, reduceIte, Bool.not_true, Bool.not_false, List.length_cons, List.length_nil, Nat.reduceAdd, Nat.zero_add, line16, Nat.reduceLeDiff, Int.reduceEq, Int.reduceLT, Int.reduceLE, Int.reduceNeg, or_true, true_or, or_self, or_false, false_or, true_and, and_true, and_self, List.cons_append, List.nil_append, List.append_nil, forall_const, sp_in_brackets']
      refine ⟨l, rfl, (okPss_iff lots).mp h'.2 l hl, ?_, by omega, hR⟩
      have : cPs l ≤ cPss lots := by
        clear h' hc' hlen q hp hc
        induction lots with
        | nil => cases hl
        | cons y ys ih =>
          rcases List.mem_cons.mp hl with e | h
          · subst e; simp [cPss]
          · have := ih h; simp [cPss]; omega
      omega
    · have hsum := tLs_sum h'.2
      refine ⟨(lots.map tB).map S, by rw [itemsOf_put, List.map_map, List.map_map]; rfl, ?_, ?_⟩
      · rw [S_sum]; simp only [List.length_map, S_len, List.length_cons, List.length_nil]; omega
      · have hl3 := tLs_len lots h'.2
        simp only [txt_join, ← tLs_jn, ↓x_seq, ↓x_next, ↓x_ret, ↓x_retN, ↓x_drop, ↓x_if, ↓x_asg, ↓x_false, ↓x_brk, ↓x_cnt, ↓x_g0, ↓x_v0, ↓x_g1, ↓x_v1, ↓x_g2, ↓x_v2, ↓x_g3, ↓x_v3, ↓x_g4, ↓x_v4, ↓x_g5, ↓x_v5, ↓x_g6, ↓x_v6, ↓x_g7, ↓x_v7, ↓x_g8, ↓x_v8, ↓x_g9, ↓x_v9, ↓x_g10, ↓x_v10, ↓x_g11, ↓x_v11, ↓x_g12, ↓x_v12, ↓x_g13, ↓x_v13, ↓x_g14, ↓x_v14, ↓x_g15, ↓x_v15, ↓x_g16, ↓x_v16, ↓x_g17, ↓x_v17, ↓x_g18, ↓x_v18, ↓x_g19, ↓x_v19, ↓x_gt2, ↓x_gt3, ↓x_gt4, ↓x_gt5, ↓x_gt6, ↓x_gc, ↓x_gn, ↓x_par2, ↓x_p2, ↓x_par3, ↓x_p3, ↓x_C, ↓x_op, ↓x_test, ↓x_chain, ↓x_andT, ↓x_orT, ↓x_notT, ↓x_ifE, ↓x_andV, ↓x_orV, ↓x_notV, ↓x_nil, ↓x_cons, ↓x_star, ↓x_tup, ↓x_lst, ↓x_callB, ↓x_call, ↓x_callK, ↓x_meth, ↓x_make, ↓x_fld, ↓x_fldS, ↓x_bm0, ↓x_bm, ↓x_sl, ↓x_nop, ↓x_prt, ↓x_neg, ↓x_revL, ↓x_lc, ↓x_for, ↓x_diSeq, ↓x_diEnum, ↓x_rng1, ↓y_addi, ↓y_adds, ↓y_addt, ↓y_int, ↓y_intC, ↓y_is, ↓y_isn, ↓y_nnon, ↓y_nbl, ↓y_nint, ↓y_nstr, ↓y_ntup, ↓y_nref, ↓y_t0, ↓y_t1, ↓y_t2, ↓y_t3, ↓y_m2, ↓y_m3, ↓y_len0, ↓y_len1, ↓y_len2, ↓y_len3, ↓y_len, ↓y_lenS, ↓y_itt, ↓y_iss, ↓y_iii, ↓y_iib, ↓y_i1, ↓y_i1b, ↓y_abs, ↓y_strI, ↓y_slt, ↓y_sls, ↓y_tys, ↓bIn_2, ↓bNotIn_2, ↓bEq_int, ↓bNe_int, wipeD, List.map_cons, List.map_nil, List.set_cons_zero, List.set_cons_succ, Option.some.injEq, exists_and_left, exists_eq_left', exists_eq_left, decide_true, decide_false, Bool.false_eq_true, reduceIte, Bool.not_true, Bool.not_false, List.length_cons, List.length_nil, Nat.reduceAdd, Nat.zero_add, line16, Nat.reduceLeDiff, Int.reduceEq, Int.reduceLT, Int.reduceLE, Int.reduceNeg, or_true, true_or, or_self, or_false, false_or, true_and, and_true, and_self, List.cons_append, List.nil_append, List.append_nil, forall_const, S_len, S_app, List.length_cons, List.length_nil]
        rw [tP_ei] at q
        exact ⟨by omega, Fg.mk (Sub.putNew hp') q⟩
theorem n_program_text (T : Tx K mg) (n : Nat) (hp : DFn P w K mg base CX0 (3 * n) T.f_part_text T.d_part_text ["part"] (sp_part_text' n)) : DFn P w K mg base CX0 (3 * n + 1) T.f_program_text T.d_program_text ["program"] (sp_program_text' n) := by
  refine dfn_of (N := N_program_text) T.F_program_text sc_program_text (by decide) (fun ds M Q E h => ?_) (fun cdv A outer s H hr hgd => (dss_one (ds_ret (de_bm PySem.F.plainAttrs_str PySem.F.slot_str_join PySem.F.type_str_join mt_join tr_join de_str (da_cons (de_lc (own := [("part", 1)]) rfl sc_program_text.nd (di_seq (de_var 0)) (blkOk_by (N := N_program_text) (sc := defScope s_program_text) (by decide +kernel)) (fun _ _ _ _ _ => (pg_name (i := 1) sc_program_text.nd rfl (by first | exact Or.inl rfl | exact Or.inr rfl))) dgr_name (only_name (by decide)) (fun _ _ _ _ _ => (de_call hp (hr.mono (by omega)) hgd rfl T.g_part_text T.F_part_text.kp T.b_part_text dpass0 (da_cons (de_var 1) da_nil)))) da_nil))))) ?_
  · obtain ⟨_, rfl, _⟩ := h; rfl
  rintro ds M Q E ⟨ps, rfl, hp, hc, hn, q⟩
  rw [st_program_text]
  simp only [↓x_seq, ↓x_next, ↓x_ret, ↓x_retN, ↓x_drop, ↓x_if, ↓x_asg, ↓x_false, ↓x_brk, ↓x_cnt, ↓x_g0, ↓x_v0, ↓x_g1, ↓x_v1, ↓x_g2, ↓x_v2, ↓x_g3, ↓x_v3, ↓x_g4, ↓x_v4, ↓x_g5, ↓x_v5, ↓x_g6, ↓x_v6, ↓x_g7, ↓x_v7, ↓x_g8, ↓x_v8, ↓x_g9, ↓x_v9, ↓x_g10, ↓x_v10, ↓x_g11, ↓x_v11, ↓x_g12, ↓x_v12, ↓x_g13, ↓x_v13, ↓x_g14, ↓x_v14, ↓x_g15, ↓x_v15, ↓x_g16, ↓x_v16, ↓x_g17, ↓x_v17, ↓x_g18, ↓x_v18, ↓x_g19, ↓x_v19, ↓x_gt2, ↓x_gt3, ↓x_gt4, ↓x_gt5, ↓x_gt6, ↓x_gc, ↓x_gn, ↓x_par2, ↓x_p2, ↓x_par3, ↓x_p3, ↓x_C, ↓x_op, ↓x_test, ↓x_chain, ↓x_andT, ↓x_orT, ↓x_notT, ↓x_ifE, ↓x_andV, ↓x_orV, ↓x_notV, ↓x_nil, ↓x_cons, ↓x_star, ↓x_tup, ↓x_lst, ↓x_callB, ↓x_call, ↓x_callK, ↓x_meth, ↓x_make, ↓x_fld, ↓x_fldS, ↓x_bm0, ↓x_bm, ↓x_sl, ↓x_nop, ↓x_prt, ↓x_neg, ↓x_revL, ↓x_lc, ↓x_for, ↓x_diSeq, ↓x_diEnum, ↓x_rng1, ↓y_addi, ↓y_adds, ↓y_addt, ↓y_int, ↓y_intC, ↓y_is, ↓y_isn, ↓y_nnon, ↓y_nbl, ↓y_nint, ↓y_nstr, ↓y_ntup, ↓y_nref, ↓y_t0, ↓y_t1, ↓y_t2, ↓y_t3, ↓y_m2, ↓y_m3, ↓y_len0, ↓y_len1, ↓y_len2, ↓y_len3, ↓y_len, ↓y_lenS, ↓y_itt, ↓y_iss, ↓y_iii, ↓y_iib, ↓y_i1, ↓y_i1b, ↓y_abs, ↓y_strI, ↓y_slt, ↓y_sls, ↓y_tys, ↓bIn_2, ↓bNotIn_2, ↓bEq_int, ↓bNe_int, wipeD, List.map_cons, List.map_nil, List.set_cons_zero, List.set_cons_succ, Option.some.injEq, exists_and_left, exists_eq_left', exists_eq_left, decide_true, decide_false, Bool.false_eq_true, reduceIte, Bool.not_true, Bool.not_false, List.length_cons, List.length_nil, Nat.reduceAdd, Nat.zero_add, line16, Nat.reduceLeDiff, Int.reduceEq, Int.reduceLT, Int.reduceLE, Int.reduceNeg, or_true, true_or, or_self, or_false, false_or, true_and, and_true, and_self, List.cons_append, List.nil_append, List.append_nil, forall_const, l_se]
  have hll := len_cPs ps
  refine lcG_mapA ps pD (fun p => .str (S (tP p))) (pDs_map ps) (fun _ _ _ => trivial) (by omega) (fun p hl M' hs R hR => ?_) fun a ha => ?_
  · simp only [↓x_seq, ↓x_next, ↓x_ret, ↓x_retN, ↓x_drop, ↓x_if, ↓x_asg, ↓x_false, ↓x_brk, ↓x_cnt, ↓x_g0, ↓x_v0, ↓x_g1, ↓x_v1, ↓x_g2, ↓x_v2, ↓x_g3, ↓x_v3, ↓x_g4, ↓x_v4, ↓x_g5, ↓x_v5, ↓x_g6, ↓x_v6, ↓x_g7, ↓x_v7, ↓x_g8, ↓x_v8, ↓x_g9, ↓x_v9, ↓x_g10, ↓x_v10, ↓x_g11, ↓x_v11, ↓x_g12, ↓x_v12, ↓x_g13, ↓x_v13, ↓x_g14, ↓x_v14, ↓x_g15, ↓x_v15, ↓x_g16, ↓x_v16, ↓x_g17, ↓x_v17, ↓x_g18, ↓x_v18, ↓x_g19, ↓x_v19, ↓x_gt2, ↓x_gt3, ↓x_gt4, ↓x_gt5, ↓x_gt6, ↓x_gc, ↓x_gn, ↓x_par2, ↓x_p2, ↓x_par3, ↓x_p3, ↓x_C, ↓x_op, ↓x_test, ↓x_chain, ↓x_andT, ↓x_orT, ↓x_notT, ↓x_ifE, ↓x_andV, ↓x_orV, ↓x_notV, ↓x_nil, ↓x_cons, ↓x_star, ↓x_tup, ↓x_lst, ↓x_callB, ↓x_call, ↓x_callK, ↓x_meth, ↓x_make, ↓x_fld, ↓x_fldS, ↓x_bm0, ↓x_bm, ↓x_sl, ↓x_nop, ↓x_prt, ↓x_neg, ↓x_revL, ↓x_lc, ↓x_for, ↓x_diSeq, ↓x_diEnum, ↓x_rng1, ↓y_addi, ↓y_adds, ↓y_addt, ↓y_int, ↓y_intC, ↓y_is, ↓y_isn, ↓y_nnon, ↓y_nbl, ↓y_nint, ↓y_nstr, ↓y_ntup, ↓y_nref, ↓y_t0, ↓y_t1, ↓y_t2, ↓y_t3, ↓y_m2, ↓y_m3, ↓y_len0, ↓y_len1, ↓y_len2, ↓y_len3, ↓y_len, ↓y_lenS, ↓y_itt, ↓y_iss, ↓y_iii, ↓y_iib, ↓y_i1, ↓y_i1b, ↓y_abs, ↓y_strI, ↓y_slt, ↓y_sls, ↓y_tys, ↓bIn_2, ↓bNotIn_2, ↓bEq_int, ↓bNe_int, wipeD, List.map_cons, List.map_nil, List.set_cons_zero, List.set_cons_succ, Option.some.injEq, exists_and_left, exists_eq_left', exists_eq_left, decide_true, decide_false, Bool.false_eq_true, reduceIte, Bool.not_true, Bool.not_false, List.length_cons, List.length_nil, Nat.reduceAdd, Nat.zero_add, line16, Nat.reduceLeDiff, Int.reduceEq, Int.reduceLT, Int.reduceLE, Int.reduceNeg, or_true, true_or, or_self, or_false, false_or, true_and, and_true, and_self, List.cons_append, List.nil_append, List.append_nil, forall_const, sp_part_text']
    refine ⟨p, rfl, (okPs_iff ps).mp hp p hl, ?_, by omega, hR⟩
    have := le_sum (List.mem_map_of_mem (f := cP) hl)
    rw [← cPs_sum] at this; omega
  · have hsum := tPs_sum hp
    refine ⟨(ps.map tP).map S, by rw [itemsOf_put, List.map_map, List.map_map]; rfl, ?_, ?_⟩
    · rw [S_sum]; simp only [List.length_map, S_len, List.length_cons, List.length_nil]; omega
    · rw [txt_join, ← tPs_jn]
      exact Fg.mk (Sub.putNew ha) q
theorem ok_texts (T : Tx K mg) : ∀ n : Nat, DFn P w K mg base CX0 (3 * n + 1) T.f_program_text T.d_program_text ["program"] (sp_program_text' n)
  | 0 => n_program_text T 0 ⟨fun ds M Q E ⟨p, h1, h2, h3, _⟩ => by have := cP_pos p; omega, fun A outer s H args us vs ds M Q E hr hg he hb hv hR hM ⟨p, h1, h2, h3, _⟩ => by have := cP_pos p; omega⟩
  | n + 1 => n_program_text T (n + 1) (n_part_text T n (n_in_brackets T n (ok_texts T n)))
def sp_program_text : DSp := sp_program_text' 15
theorem ok_program_text (T : Tx K mg) : DFn P w K mg base CX0 46 T.f_program_text T.d_program_text ["program"] sp_program_text := ok_texts T 15
end
end K76
namespace K76
open PySem PySem.Spec PyProof.Rows L2 DL
section
variable {P : Program} {w : World} {K : PySem.W.Frag} {mg : Str → Option Value} {base : Heap}
theorem cPs_mem {p : Part} {ps : List Part} (h : p ∈ ps) : cP p ≤ cPs ps := by
  have := le_sum (List.mem_map_of_mem (f := cP) h)
  rwa [← cPs_sum] at this
theorem cPss_mem {l : List Part} {lots : List (List Part)} (hl : l ∈ lots) : cPs l ≤ cPss lots := by
  induction lots with
  | nil => cases hl
  | cons y ys ih =>
    rcases List.mem_cons.mp hl with e | h
    · subst e; simp [cPss]
    · have := ih h; simp [cPss]; omega
def txD (p : Part) : D := .str (S (tP p))
theorem n__law_text (T : Tx K mg) (n : Nat) (hp : DFn P w K mg base CX0 n T.f__law_text T.d__law_text ["program"] (fun ds M Q E => 0 < n ∧ sp_program_text' (n - 1) ds M Q E)) : DFn P w K mg base CX0 (n + 1) T.f__law_text T.d__law_text ["program"] (sp_program_text' n) := by
  refine dfn_of (N := N__law_text) T.F__law_text sc__law_text (by decide) (fun ds M Q E h => ?_) (fun cdv A outer s H hr hgd => (dss_cons (ds_set (i := 1) sc__law_text.nd rfl (Or.inl rfl) (de_lst da_nil)) (dss_cons (ds_for PassesOwn.never rfl (di_seq (de_var 0)) (dg_name (i := 2) sc__law_text.nd rfl (Or.inl rfl)) (dss_one (ds_if (dt_cmp (op_eqD hr.units) tr_eq (de_ix (hu_of hr) (de_var 2) de_int) de_str (nomark _)) (dss_one (ds_expr (de_bm PySem.F.plainAttrs_list PySem.F.slot_list_append PySem.F.type_list_append mt_append tr_append (de_var 1) (da_cons (de_bin op_add4 tr_add (de_bin op_add4 tr_add de_str (de_callTy call_str_int tr_strI rfl T.n_str bt_str (da_cons (de_ix (hu_of hr) (de_var 2) de_int) da_nil))) (de_if (dt_cmp (op_eqD hr.units) tr_eq (de_ix (hu_of hr) (de_var 2) de_int) (de_tup da_nil) (nomark _)) de_str (de_bin op_add4 tr_add (de_bin op_add4 tr_add de_str (de_call hp (hr.mono (by omega)) hgd rfl T.g__law_text T.F__law_text.kp T.b__law_text dpass0 (da_cons (de_ix (hu_of hr) (de_var 2) de_int) da_nil))) de_str))) da_nil)))) (dss_one (ds_if (dt_cmp (op_eqD hr.units) tr_eq (de_ix (hu_of hr) (de_var 2) de_int) de_str (nomark _)) (dss_one (ds_expr (de_bm PySem.F.plainAttrs_list PySem.F.slot_list_append PySem.F.type_list_append mt_append tr_append (de_var 1) (da_cons (de_bin op_add4 tr_add (de_bin op_add4 tr_add de_str (de_call hp (hr.mono (by omega)) hgd rfl T.g__law_text T.F__law_text.kp T.b__law_text dpass0 (da_cons (de_ix (hu_of hr) (de_var 2) de_int) da_nil))) de_str) da_nil)))) (dss_one (ds_expr (de_bm PySem.F.plainAttrs_list PySem.F.slot_list_append PySem.F.type_list_append mt_append tr_append (de_var 1) (da_cons (de_bin op_add4 tr_add de_str (de_bm PySem.F.plainAttrs_str PySem.F.slot_str_join PySem.F.type_str_join mt_join tr_join de_str (da_cons (de_lc (own := [("own", 3)]) rfl sc__law_text.nd (di_seq (de_ix (hu_of hr) (de_var 2) de_int)) (blkOk_by (N := N__law_text) (sc := defScope s__law_text) (by decide +kernel)) (fun _ _ _ _ _ => (pg_name (i := 3) sc__law_text.nd rfl (by first | exact Or.inl rfl | exact Or.inr rfl))) dgr_name (only_name (by decide)) (fun _ _ _ _ _ => (de_bin op_add4 tr_add (de_bin op_add4 tr_add de_str (de_call hp (hr.mono (by omega)) hgd rfl T.g__law_text T.F__law_text.kp T.b__law_text dpass0 (da_cons (de_var 3) da_nil))) de_str))) da_nil))) da_nil))))))))) (dss_one (ds_ret (de_bm PySem.F.plainAttrs_str PySem.F.slot_str_join PySem.F.type_str_join mt_join tr_join de_str (da_cons (de_var 1) da_nil))))))) ?_
  · obtain ⟨_, rfl, _⟩ := h; rfl
  rintro ds M Q E ⟨ps, rfl, hp, hc, hn, q⟩
  rw [st__law_text]
  simp only [↓x_seq, ↓x_next, ↓x_ret, ↓x_retN, ↓x_drop, ↓x_if, ↓x_asg, ↓x_false, ↓x_brk, ↓x_cnt, ↓x_g0, ↓x_v0, ↓x_g1, ↓x_v1, ↓x_g2, ↓x_v2, ↓x_g3, ↓x_v3, ↓x_g4, ↓x_v4, ↓x_g5, ↓x_v5, ↓x_g6, ↓x_v6, ↓x_g7, ↓x_v7, ↓x_g8, ↓x_v8, ↓x_g9, ↓x_v9, ↓x_g10, ↓x_v10, ↓x_g11, ↓x_v11, ↓x_g12, ↓x_v12, ↓x_g13, ↓x_v13, ↓x_g14, ↓x_v14, ↓x_g15, ↓x_v15, ↓x_g16, ↓x_v16, ↓x_g17, ↓x_v17, ↓x_g18, ↓x_v18, ↓x_g19, ↓x_v19, ↓x_gt2, ↓x_gt3, ↓x_gt4, ↓x_gt5, ↓x_gt6, ↓x_gc, ↓x_gn, ↓x_par2, ↓x_p2, ↓x_par3, ↓x_p3, ↓x_C, ↓x_op, ↓x_test, ↓x_chain, ↓x_andT, ↓x_orT, ↓x_notT, ↓x_ifE, ↓x_andV, ↓x_orV, ↓x_notV, ↓x_nil, ↓x_cons, ↓x_star, ↓x_tup, ↓x_lst, ↓x_callB, ↓x_call, ↓x_callK, ↓x_meth, ↓x_make, ↓x_fld, ↓x_fldS, ↓x_bm0, ↓x_bm, ↓x_sl, ↓x_nop, ↓x_prt, ↓x_neg, ↓x_revL, ↓x_lc, ↓x_for, ↓x_diSeq, ↓x_diEnum, ↓x_rng1, ↓y_addi, ↓y_adds, ↓y_addt, ↓y_int, ↓y_intC, ↓y_is, ↓y_isn, ↓y_nnon, ↓y_nbl, ↓y_nint, ↓y_nstr, ↓y_ntup, ↓y_nref, ↓y_t0, ↓y_t1, ↓y_t2, ↓y_t3, ↓y_m2, ↓y_m3, ↓y_len0, ↓y_len1, ↓y_len2, ↓y_len3, ↓y_len, ↓y_lenS, ↓y_itt, ↓y_iss, ↓y_iii, ↓y_iib, ↓y_i1, ↓y_i1b, ↓y_abs, ↓y_strI, ↓y_slt, ↓y_sls, ↓y_tys, ↓bIn_2, ↓bNotIn_2, ↓bEq_int, ↓bNe_int, wipeD, List.map_cons, List.map_nil, List.set_cons_zero, List.set_cons_succ, Option.some.injEq, exists_and_left, exists_eq_left', exists_eq_left, decide_true, decide_false, Bool.false_eq_true, reduceIte, Bool.not_true, Bool.not_false, List.length_cons, List.length_nil, Nat.reduceAdd, Nat.zero_add, line16, Nat.reduceLeDiff, Int.reduceEq, Int.reduceLT, Int.reduceLE, Int.reduceNeg, or_true, true_or, or_self, or_false, false_or, true_and, and_true, and_self, List.cons_append, List.nil_append, List.append_nil, forall_const, l_se]
  intro a ha
  have hll := len_cPs ps
  have hokm := (okPs_iff ps).mp hp
  refine forG_A ps pD (pDs_map ps) (fun i σ M' => ∃ u v, σ = [some (.tup (pDs ps)), some (.ref a), u, v] ∧ Sub M M' ∧ M' a = some (.lst ((ps.take i).map txD))) ⟨none, none, rfl, Sub.putNew ha, put_same⟩ (fun _ _ _ _ => trivial) ?_ ?_
  · rintro i p σ M' hpi ⟨u, v, rfl, hS, hM⟩
    have hmem := List.mem_of_getElem? hpi
    have hpo := hokm p hmem
    have hcp := cPs_mem hmem
    have hlen := tP_len p hpo
    have hil : i < ps.length := (List.getElem?_eq_some_iff.mp hpi).1
    have fin : ∀ (M2 : Mp) (u2 v2 : Option D), Sub M' M2 → M2 a = some (.lst ((ps.take i).map txD)) → dTy "list" (.ref a) M2 ∧ True := fun M2 _ _ _ h => ⟨by simp [dTy, h], trivial⟩
    have nxt : ∀ (M2 : Mp) (u2 v2 : Option D), Sub M M2 → M2 a = some (.lst ((ps.take i).map txD)) → ∃ u v, [some (.tup (pDs ps)), some (.ref a), u2, v2] = [some (.tup (pDs ps)), some (.ref a), u, v] ∧ Sub M (DL.put M2 a (.lst ((ps.take i).map txD ++ [txD p]))) ∧ DL.put M2 a (.lst ((ps.take i).map txD ++ [txD p])) a = some (.lst ((ps.take (i + 1)).map txD)) := fun M2 u2 v2 h1 h2 =>
      ⟨u2, v2, rfl, h1.set ha, by rw [put_same, List.take_succ, hpi]; simp⟩
    cases p with
    | inn r own =>
      have h' : r < 6 ∧ okPs own = true := by simpa [okP] using hpo
      have hc' : cPs own + 1 ≤ n := by simp [cP] at hcp; omega
      have hz : (r : Int).natAbs.log2 < 1920 := by
        have : r = 0 ∨ r = 1 ∨ r = 2 ∨ r = 3 ∨ r = 4 ∨ r = 5 := by omega
        rcases this with rfl | rfl | rfl | rfl | rfl | rfl <;> decide +kernel
      rw [show pD (.inn r own) = .tup [.str "in", .int (r : Int), .tup (pDs own)] by rw [pD]]
      simp only [↓bEq_str so_in so_in, ↓bEq_pnil (show cPs own ≤ 20 by omega), ↓y_app hM, ↓y_tyl hM, ↓x_seq, ↓x_next, ↓x_ret, ↓x_retN, ↓x_drop, ↓x_if, ↓x_asg, ↓x_false, ↓x_brk, ↓x_cnt, ↓x_g0, ↓x_v0, ↓x_g1, ↓x_v1, ↓x_g2, ↓x_v2, ↓x_g3, ↓x_v3, ↓x_g4, ↓x_v4, ↓x_g5, ↓x_v5, ↓x_g6, ↓x_v6, ↓x_g7, ↓x_v7, ↓x_g8, ↓x_v8, ↓x_g9, ↓x_v9, ↓x_g10, ↓x_v10, ↓x_g11, ↓x_v11, ↓x_g12, ↓x_v12, ↓x_g13, ↓x_v13, ↓x_g14, ↓x_v14, ↓x_g15, ↓x_v15, ↓x_g16, ↓x_v16, ↓x_g17, ↓x_v17, ↓x_g18, ↓x_v18, ↓x_g19, ↓x_v19, ↓x_gt2, ↓x_gt3, ↓x_gt4, ↓x_gt5, ↓x_gt6, ↓x_gc, ↓x_gn, ↓x_par2, ↓x_p2, ↓x_par3, ↓x_p3, ↓x_C, ↓x_op, ↓x_test, ↓x_chain, ↓x_andT, ↓x_orT, ↓x_notT, ↓x_ifE, ↓x_andV, ↓x_orV, ↓x_notV, ↓x_nil, ↓x_cons, ↓x_star, ↓x_tup, ↓x_lst, ↓x_callB, ↓x_call, ↓x_callK, ↓x_meth, ↓x_make, ↓x_fld, ↓x_fldS, ↓x_bm0, ↓x_bm, ↓x_sl, ↓x_nop, ↓x_prt, ↓x_neg, ↓x_revL, ↓x_lc, ↓x_for, ↓x_diSeq, ↓x_diEnum, ↓x_rng1, ↓y_addi, ↓y_adds, ↓y_addt, ↓y_int, ↓y_intC, ↓y_is, ↓y_isn, ↓y_nnon, ↓y_nbl, ↓y_nint, ↓y_nstr, ↓y_ntup, ↓y_nref, ↓y_t0, ↓y_t1, ↓y_t2, ↓y_t3, ↓y_m2, ↓y_m3, ↓y_len0, ↓y_len1, ↓y_len2, ↓y_len3, ↓y_len, ↓y_lenS, ↓y_itt, ↓y_iss, ↓y_iii, ↓y_iib, ↓y_i1, ↓y_i1b, ↓y_abs, ↓y_strI, ↓y_slt, ↓y_sls, ↓y_tys, ↓bIn_2, ↓bNotIn_2, ↓bEq_int, ↓bNe_int, wipeD, List.map_cons, List.map_nil, List.set_cons_zero, List.set_cons_succ, Option.some.injEq, exists_and_left, exists_eq_left', exists_eq_left, decide_true, decide_false, Bool.false_eq_true, reduceIte, Bool.not_true, Bool.not_false, List.length_cons, List.length_nil, Nat.reduceAdd, Nat.zero_add, line16, Nat.reduceLeDiff, Int.reduceEq, Int.reduceLT, Int.reduceLE, Int.reduceNeg, or_true, true_or, or_self, or_false, false_or, true_and, and_true, and_self, List.cons_append, List.nil_append, List.append_nil, forall_const, l_in, l_no, dig h'.1, S_len, S_app]
      refine ⟨hz, ?_⟩
      cases own with
      | nil =>
        simp only [List.isEmpty_nil, ↓x_seq, ↓x_next, ↓x_ret, ↓x_retN, ↓x_drop, ↓x_if, ↓x_asg, ↓x_false, ↓x_brk, ↓x_cnt, ↓x_g0, ↓x_v0, ↓x_g1, ↓x_v1, ↓x_g2, ↓x_v2, ↓x_g3, ↓x_v3, ↓x_g4, ↓x_v4, ↓x_g5, ↓x_v5, ↓x_g6, ↓x_v6, ↓x_g7, ↓x_v7, ↓x_g8, ↓x_v8, ↓x_g9, ↓x_v9, ↓x_g10, ↓x_v10, ↓x_g11, ↓x_v11, ↓x_g12, ↓x_v12, ↓x_g13, ↓x_v13, ↓x_g14, ↓x_v14, ↓x_g15, ↓x_v15, ↓x_g16, ↓x_v16, ↓x_g17, ↓x_v17, ↓x_g18, ↓x_v18, ↓x_g19, ↓x_v19, ↓x_gt2, ↓x_gt3, ↓x_gt4, ↓x_gt5, ↓x_gt6, ↓x_gc, ↓x_gn, ↓x_par2, ↓x_p2, ↓x_par3, ↓x_p3, ↓x_C, ↓x_op, ↓x_test, ↓x_chain, ↓x_andT, ↓x_orT, ↓x_notT, ↓x_ifE, ↓x_andV, ↓x_orV, ↓x_notV, ↓x_nil, ↓x_cons, ↓x_star, ↓x_tup, ↓x_lst, ↓x_callB, ↓x_call, ↓x_callK, ↓x_meth, ↓x_make, ↓x_fld, ↓x_fldS, ↓x_bm0, ↓x_bm, ↓x_sl, ↓x_nop, ↓x_prt, ↓x_neg, ↓x_revL, ↓x_lc, ↓x_for, ↓x_diSeq, ↓x_diEnum, ↓x_rng1, ↓y_addi, ↓y_adds, ↓y_addt, ↓y_int, ↓y_intC, ↓y_is, ↓y_isn, ↓y_nnon, ↓y_nbl, ↓y_nint, ↓y_nstr, ↓y_ntup, ↓y_nref, ↓y_t0, ↓y_t1, ↓y_t2, ↓y_t3, ↓y_m2, ↓y_m3, ↓y_len0, ↓y_len1, ↓y_len2, ↓y_len3, ↓y_len, ↓y_lenS, ↓y_itt, ↓y_iss, ↓y_iii, ↓y_iib, ↓y_i1, ↓y_i1b, ↓y_abs, ↓y_strI, ↓y_slt, ↓y_sls, ↓y_tys, ↓bIn_2, ↓bNotIn_2, ↓bEq_int, ↓bNe_int, wipeD, List.map_cons, List.map_nil, List.set_cons_zero, List.set_cons_succ, Option.some.injEq, exists_and_left, exists_eq_left', exists_eq_left, decide_true, decide_false, Bool.false_eq_true, reduceIte, Bool.not_true, Bool.not_false, List.length_cons, List.length_nil, Nat.reduceAdd, Nat.zero_add, line16, Nat.reduceLeDiff, Int.reduceEq, Int.reduceLT, Int.reduceLE, Int.reduceNeg, or_true, true_or, or_self, or_false, false_or, true_and, and_true, and_self, List.cons_append, List.nil_append, List.append_nil, forall_const, S_len, S_app, txD, tP_in0, List.length_append, List.length_map, List.length_take]
        refine ⟨by omega, ?_⟩
        simp only [txD, tP_in0, List.cons_append, List.nil_append, List.append_assoc] at nxt ⊢
        exact nxt _ _ _ hS hM
      | cons x xs =>
        have hl2 := tPs_len (x :: xs) h'.2
        simp only [List.isEmpty_cons, ↓y_app hM, ↓x_seq, ↓x_next, ↓x_ret, ↓x_retN, ↓x_drop, ↓x_if, ↓x_asg, ↓x_false, ↓x_brk, ↓x_cnt, ↓x_g0, ↓x_v0, ↓x_g1, ↓x_v1, ↓x_g2, ↓x_v2, ↓x_g3, ↓x_v3, ↓x_g4, ↓x_v4, ↓x_g5, ↓x_v5, ↓x_g6, ↓x_v6, ↓x_g7, ↓x_v7, ↓x_g8, ↓x_v8, ↓x_g9, ↓x_v9, ↓x_g10, ↓x_v10, ↓x_g11, ↓x_v11, ↓x_g12, ↓x_v12, ↓x_g13, ↓x_v13, ↓x_g14, ↓x_v14, ↓x_g15, ↓x_v15, ↓x_g16, ↓x_v16, ↓x_g17, ↓x_v17, ↓x_g18, ↓x_v18, ↓x_g19, ↓x_v19, ↓x_gt2, ↓x_gt3, ↓x_gt4, ↓x_gt5, ↓x_gt6, ↓x_gc, ↓x_gn, ↓x_par2, ↓x_p2, ↓x_par3, ↓x_p3, ↓x_C, ↓x_op, ↓x_test, ↓x_chain, ↓x_andT, ↓x_orT, ↓x_notT, ↓x_ifE, ↓x_andV, ↓x_orV, ↓x_notV, ↓x_nil, ↓x_cons, ↓x_star, ↓x_tup, ↓x_lst, ↓x_callB, ↓x_call, ↓x_callK, ↓x_meth, ↓x_make, ↓x_fld, ↓x_fldS, ↓x_bm0, ↓x_bm, ↓x_sl, ↓x_nop, ↓x_prt, ↓x_neg, ↓x_revL, ↓x_lc, ↓x_for, ↓x_diSeq, ↓x_diEnum, ↓x_rng1, ↓y_addi, ↓y_adds, ↓y_addt, ↓y_int, ↓y_intC, ↓y_is, ↓y_isn, ↓y_nnon, ↓y_nbl, ↓y_nint, ↓y_nstr, ↓y_ntup, ↓y_nref, ↓y_t0, ↓y_t1, ↓y_t2, ↓y_t3, ↓y_m2, ↓y_m3, ↓y_len0, ↓y_len1, ↓y_len2, ↓y_len3, ↓y_len, ↓y_lenS, ↓y_itt, ↓y_iss, ↓y_iii, ↓y_iib, ↓y_i1, ↓y_i1b, ↓y_abs, ↓y_strI, ↓y_slt, ↓y_sls, ↓y_tys, ↓bIn_2, ↓bNotIn_2, ↓bEq_int, ↓bNe_int, wipeD, List.map_cons, List.map_nil, List.set_cons_zero, List.set_cons_succ, Option.some.injEq, exists_and_left, exists_eq_left', exists_eq_left, decide_true, decide_false, Bool.false_eq_true, reduceIte, Bool.not_true, Bool.not_false, List.length_cons, List.length_nil, Nat.reduceAdd, Nat.zero_add, line16, Nat.reduceLeDiff, Int.reduceEq, Int.reduceLT, Int.reduceLE, Int.reduceNeg, or_true, true_or, or_self, or_false, false_or, true_and, and_true, and_self, List.cons_append, List.nil_append, List.append_nil, forall_const, sp_program_text', l_spo, l_cl, S_len, S_app, List.length_append, List.length_cons, List.length_nil, List.length_map, List.length_take]
        refine ⟨by omega, x :: xs, rfl, h'.2, by omega, by omega, ?_⟩
        refine ⟨by omega, by omega, by omega, by omega, ?_⟩
        simp only [txD, tP_in1 r (show x :: xs ≠ [] by simp), List.cons_append, List.nil_append, List.append_assoc] at nxt ⊢
        exact nxt _ _ _ hS hM
    | again own =>
      have h' : okPs own = true := by simp [okP] at hpo; exact hpo.2
      have hc' : cPs own + 1 ≤ n := by simp [cP] at hcp; omega
      have hl2 := tPs_len own h'
      rw [show pD (.again own) = .tup [.str "again", .tup (pDs own)] by rw [pD]]
      simp only [↓bEq_str so_again so_in, ↓bEq_str so_again so_again, ne_ai, ↓y_app hM, ↓y_tyl hM, ↓x_seq, ↓x_next, ↓x_ret, ↓x_retN, ↓x_drop, ↓x_if, ↓x_asg, ↓x_false, ↓x_brk, ↓x_cnt, ↓x_g0, ↓x_v0, ↓x_g1, ↓x_v1, ↓x_g2, ↓x_v2, ↓x_g3, ↓x_v3, ↓x_g4, ↓x_v4, ↓x_g5, ↓x_v5, ↓x_g6, ↓x_v6, ↓x_g7, ↓x_v7, ↓x_g8, ↓x_v8, ↓x_g9, ↓x_v9, ↓x_g10, ↓x_v10, ↓x_g11, ↓x_v11, ↓x_g12, ↓x_v12, ↓x_g13, ↓x_v13, ↓x_g14, ↓x_v14, ↓x_g15, ↓x_v15, ↓x_g16, ↓x_v16, ↓x_g17, ↓x_v17, ↓x_g18, ↓x_v18, ↓x_g19, ↓x_v19, ↓x_gt2, ↓x_gt3, ↓x_gt4, ↓x_gt5, ↓x_gt6, ↓x_gc, ↓x_gn, ↓x_par2, ↓x_p2, ↓x_par3, ↓x_p3, ↓x_C, ↓x_op, ↓x_test, ↓x_chain, ↓x_andT, ↓x_orT, ↓x_notT, ↓x_ifE, ↓x_andV, ↓x_orV, ↓x_notV, ↓x_nil, ↓x_cons, ↓x_star, ↓x_tup, ↓x_lst, ↓x_callB, ↓x_call, ↓x_callK, ↓x_meth, ↓x_make, ↓x_fld, ↓x_fldS, ↓x_bm0, ↓x_bm, ↓x_sl, ↓x_nop, ↓x_prt, ↓x_neg, ↓x_revL, ↓x_lc, ↓x_for, ↓x_diSeq, ↓x_diEnum, ↓x_rng1, ↓y_addi, ↓y_adds, ↓y_addt, ↓y_int, ↓y_intC, ↓y_is, ↓y_isn, ↓y_nnon, ↓y_nbl, ↓y_nint, ↓y_nstr, ↓y_ntup, ↓y_nref, ↓y_t0, ↓y_t1, ↓y_t2, ↓y_t3, ↓y_m2, ↓y_m3, ↓y_len0, ↓y_len1, ↓y_len2, ↓y_len3, ↓y_len, ↓y_lenS, ↓y_itt, ↓y_iss, ↓y_iii, ↓y_iib, ↓y_i1, ↓y_i1b, ↓y_abs, ↓y_strI, ↓y_slt, ↓y_sls, ↓y_tys, ↓bIn_2, ↓bNotIn_2, ↓bEq_int, ↓bNe_int, wipeD, List.map_cons, List.map_nil, List.set_cons_zero, List.set_cons_succ, Option.some.injEq, exists_and_left, exists_eq_left', exists_eq_left, decide_true, decide_false, Bool.false_eq_true, reduceIte, Bool.not_true, Bool.not_false, List.length_cons, List.length_nil, Nat.reduceAdd, Nat.zero_add, line16, Nat.reduceLeDiff, Int.reduceEq, Int.reduceLT, Int.reduceLE, Int.reduceNeg, or_true, true_or, or_self, or_false, false_or, true_and, and_true, and_self, List.cons_append, List.nil_append, List.append_nil, forall_const, sp_program_text', l_ago, l_cl, S_len, S_app, List.length_append, List.length_cons, List.length_nil, List.length_map, List.length_take]
      refine ⟨by omega, own, rfl, h', by omega, by omega, ?_⟩
      refine ⟨by omega, by omega, by omega, ?_⟩
      simp only [txD, tP_ag, List.cons_append, List.nil_append, List.append_assoc] at nxt ⊢
      exact nxt _ _ _ hS hM
    | either lots =>
      have h' : lots.length ≤ 4 ∧ okPss lots = true := by simp [okP] at hpo; exact ⟨hpo.1.2, hpo.2⟩
      have hc' : cPss lots + 1 ≤ n := by simp [cP] at hcp; omega
      rw [show pD (.either lots) = .tup [.str "either", .tup (pDss lots)] by rw [pD]]
      simp only [↓bEq_str so_either so_in, ↓bEq_str so_either so_again, ne_ei, ne_ea, ↓y_tyl hM, ↓x_seq, ↓x_next, ↓x_ret, ↓x_retN, ↓x_drop, ↓x_if, ↓x_asg, ↓x_false, ↓x_brk, ↓x_cnt, ↓x_g0, ↓x_v0, ↓x_g1, ↓x_v1, ↓x_g2, ↓x_v2, ↓x_g3, ↓x_v3, ↓x_g4, ↓x_v4, ↓x_g5, ↓x_v5, ↓x_g6, ↓x_v6, ↓x_g7, ↓x_v7, ↓x_g8, ↓x_v8, ↓x_g9, ↓x_v9, ↓x_g10, ↓x_v10, ↓x_g11, ↓x_v11, ↓x_g12, ↓x_v12, ↓x_g13, ↓x_v13, ↓x_g14, ↓x_v14, ↓x_g15, ↓x_v15, ↓x_g16, ↓x_v16, ↓x_g17, ↓x_v17, ↓x_g18, ↓x_v18, ↓x_g19, ↓x_v19, ↓x_gt2, ↓x_gt3, ↓x_gt4, ↓x_gt5, ↓x_gt6, ↓x_gc, ↓x_gn, ↓x_par2, ↓x_p2, ↓x_par3, ↓x_p3, ↓x_C, ↓x_op, ↓x_test, ↓x_chain, ↓x_andT, ↓x_orT, ↓x_notT, ↓x_ifE, ↓x_andV, ↓x_orV, ↓x_notV, ↓x_nil, ↓x_cons, ↓x_star, ↓x_tup, ↓x_lst, ↓x_callB, ↓x_call, ↓x_callK, ↓x_meth, ↓x_make, ↓x_fld, ↓x_fldS, ↓x_bm0, ↓x_bm, ↓x_sl, ↓x_nop, ↓x_prt, ↓x_neg, ↓x_revL, ↓x_lc, ↓x_for, ↓x_diSeq, ↓x_diEnum, ↓x_rng1, ↓y_addi, ↓y_adds, ↓y_addt, ↓y_int, ↓y_intC, ↓y_is, ↓y_isn, ↓y_nnon, ↓y_nbl, ↓y_nint, ↓y_nstr, ↓y_ntup, ↓y_nref, ↓y_t0, ↓y_t1, ↓y_t2, ↓y_t3, ↓y_m2, ↓y_m3, ↓y_len0, ↓y_len1, ↓y_len2, ↓y_len3, ↓y_len, ↓y_lenS, ↓y_itt, ↓y_iss, ↓y_iii, ↓y_iib, ↓y_i1, ↓y_i1b, ↓y_abs, ↓y_strI, ↓y_slt, ↓y_sls, ↓y_tys, ↓bIn_2, ↓bNotIn_2, ↓bEq_int, ↓bNe_int, wipeD, List.map_cons, List.map_nil, List.set_cons_zero, List.set_cons_succ, Option.some.injEq, exists_and_left, exists_eq_left', exists_eq_left, decide_true, decide_false, Bool.false_eq_true, reduceIte, Bool.not_true, Bool.not_false, List.length_cons, List.length_nil, Nat.reduceAdd, Nat.zero_add, line16, Nat.reduceLeDiff, Int.reduceEq, Int.reduceLT, Int.reduceLE, Int.reduceNeg, or_true, true_or, or_self, or_false, false_or, true_and, and_true, and_self, List.cons_append, List.nil_append, List.append_nil, forall_const, l_ei, l_or, l_op, l_cl]
      refine lcG_mapA lots (fun l => .tup (pDs l)) (fun l => .str (S (tB l))) (pDss_map lots) (fun _ _ _ => trivial) (by omega) (fun l hl M'' hs R hR => ?_) fun c hc2 => ?_
      · have hlo := (okPss_iff lots).mp h'.2 l hl
        have hl2 := tPs_len l hlo
        have hcm := cPss_mem hl
        simp only [↓x_seq, ↓x_next, ↓x_ret, ↓x_retN, ↓x_drop, ↓x_if, ↓x_asg, ↓x_false, ↓x_brk, ↓x_cnt, ↓x_g0, ↓x_v0, ↓x_g1, ↓x_v1, ↓x_g2, ↓x_v2, ↓x_g3, ↓x_v3, ↓x_g4, ↓x_v4, ↓x_g5, ↓x_v5, ↓x_g6, ↓x_v6, ↓x_g7, ↓x_v7, ↓x_g8, ↓x_v8, ↓x_g9, ↓x_v9, ↓x_g10, ↓x_v10, ↓x_g11, ↓x_v11, ↓x_g12, ↓x_v12, ↓x_g13, ↓x_v13, ↓x_g14, ↓x_v14, ↓x_g15, ↓x_v15, ↓x_g16, ↓x_v16, ↓x_g17, ↓x_v17, ↓x_g18, ↓x_v18, ↓x_g19, ↓x_v19, ↓x_gt2, ↓x_gt3, ↓x_gt4, ↓x_gt5, ↓x_gt6, ↓x_gc, ↓x_gn, ↓x_par2, ↓x_p2, ↓x_par3, ↓x_p3, ↓x_C, ↓x_op, ↓x_test, ↓x_chain, ↓x_andT, ↓x_orT, ↓x_notT, ↓x_ifE, ↓x_andV, ↓x_orV, ↓x_notV, ↓x_nil, ↓x_cons, ↓x_star, ↓x_tup, ↓x_lst, ↓x_callB, ↓x_call, ↓x_callK, ↓x_meth, ↓x_make, ↓x_fld, ↓x_fldS, ↓x_bm0, ↓x_bm, ↓x_sl, ↓x_nop, ↓x_prt, ↓x_neg, ↓x_revL, ↓x_lc, ↓x_for, ↓x_diSeq, ↓x_diEnum, ↓x_rng1, ↓y_addi, ↓y_adds, ↓y_addt, ↓y_int, ↓y_intC, ↓y_is, ↓y_isn, ↓y_nnon, ↓y_nbl, ↓y_nint, ↓y_nstr, ↓y_ntup, ↓y_nref, ↓y_t0, ↓y_t1, ↓y_t2, ↓y_t3, ↓y_m2, ↓y_m3, ↓y_len0, ↓y_len1, ↓y_len2, ↓y_len3, ↓y_len, ↓y_lenS, ↓y_itt, ↓y_iss, ↓y_iii, ↓y_iib, ↓y_i1, ↓y_i1b, ↓y_abs, ↓y_strI, ↓y_slt, ↓y_sls, ↓y_tys, ↓bIn_2, ↓bNotIn_2, ↓bEq_int, ↓bNe_int, wipeD, List.map_cons, List.map_nil, List.set_cons_zero, List.set_cons_succ, Option.some.injEq, exists_and_left, exists_eq_left', exists_eq_left, decide_true, decide_false, Bool.false_eq_true, reduceIte, Bool.not_true, Bool.not_false, List.length_cons, List.length_nil, Nat.reduceAdd, Nat.zero_add, line16, Nat.reduceLeDiff, Int.reduceEq, Int.reduceLT, Int.reduceLE, Int.reduceNeg, or_true, true_or, or_self, or_false, false_or, true_and, and_true, and_self, List.cons_append, List.nil_append, List.append_nil, forall_const, sp_program_text', S_len, S_app, List.length_append, List.length_cons, List.length_nil]
        refine ⟨by omega, l, rfl, hlo, by omega, by omega, by omega, by omega, ?_⟩
        simpa [tB] using hR
      · have hsum := tLs_sum h'.2
        have hl3 := tLs_len lots h'.2
        have hca : a ≠ c := ne_of hM hc2
        have hM2 : DL.put M' c (.lst (lots.map fun l => .str (S (tB l)))) a = some (.lst ((ps.take i).map txD)) := (put_ne hca).trans hM
        refine ⟨(lots.map tB).map S, by rw [itemsOf_put, List.map_map, List.map_map]; rfl, ?_, ?_⟩
        · rw [S_sum]; simp only [List.length_map, S_len, List.length_cons, List.length_nil]; omega
        · simp only [txt_join, ← tLs_jn, ↓y_app hM2, ↓x_seq, ↓x_next, ↓x_ret, ↓x_retN, ↓x_drop, ↓x_if, ↓x_asg, ↓x_false, ↓x_brk, ↓x_cnt, ↓x_g0, ↓x_v0, ↓x_g1, ↓x_v1, ↓x_g2, ↓x_v2, ↓x_g3, ↓x_v3, ↓x_g4, ↓x_v4, ↓x_g5, ↓x_v5, ↓x_g6, ↓x_v6, ↓x_g7, ↓x_v7, ↓x_g8, ↓x_v8, ↓x_g9, ↓x_v9, ↓x_g10, ↓x_v10, ↓x_g11, ↓x_v11, ↓x_g12, ↓x_v12, ↓x_g13, ↓x_v13, ↓x_g14, ↓x_v14, ↓x_g15, ↓x_v15, ↓x_g16, ↓x_v16, ↓x_g17, ↓x_v17, ↓x_g18, ↓x_v18, ↓x_g19, ↓x_v19, ↓x_gt2, ↓x_gt3, ↓x_gt4, ↓x_gt5, ↓x_gt6, ↓x_gc, ↓x_gn, ↓x_par2, ↓x_p2, ↓x_par3, ↓x_p3, ↓x_C, ↓x_op, ↓x_test, ↓x_chain, ↓x_andT, ↓x_orT, ↓x_notT, ↓x_ifE, ↓x_andV, ↓x_orV, ↓x_notV, ↓x_nil, ↓x_cons, ↓x_star, ↓x_tup, ↓x_lst, ↓x_callB, ↓x_call, ↓x_callK, ↓x_meth, ↓x_make, ↓x_fld, ↓x_fldS, ↓x_bm0, ↓x_bm, ↓x_sl, ↓x_nop, ↓x_prt, ↓x_neg, ↓x_revL, ↓x_lc, ↓x_for, ↓x_diSeq, ↓x_diEnum, ↓x_rng1, ↓y_addi, ↓y_adds, ↓y_addt, ↓y_int, ↓y_intC, ↓y_is, ↓y_isn, ↓y_nnon, ↓y_nbl, ↓y_nint, ↓y_nstr, ↓y_ntup, ↓y_nref, ↓y_t0, ↓y_t1, ↓y_t2, ↓y_t3, ↓y_m2, ↓y_m3, ↓y_len0, ↓y_len1, ↓y_len2, ↓y_len3, ↓y_len, ↓y_lenS, ↓y_itt, ↓y_iss, ↓y_iii, ↓y_iib, ↓y_i1, ↓y_i1b, ↓y_abs, ↓y_strI, ↓y_slt, ↓y_sls, ↓y_tys, ↓bIn_2, ↓bNotIn_2, ↓bEq_int, ↓bNe_int, wipeD, List.map_cons, List.map_nil, List.set_cons_zero, List.set_cons_succ, Option.some.injEq, exists_and_left, exists_eq_left', exists_eq_left, decide_true, decide_false, Bool.false_eq_true, reduceIte, Bool.not_true, Bool.not_false, List.length_cons, List.length_nil, Nat.reduceAdd, Nat.zero_add, line16, Nat.reduceLeDiff, Int.reduceEq, Int.reduceLT, Int.reduceLE, Int.reduceNeg, or_true, true_or, or_self, or_false, false_or, true_and, and_true, and_self, List.cons_append, List.nil_append, List.append_nil, forall_const, S_len, S_app, List.length_cons, List.length_nil, List.length_map, List.length_take]
          refine ⟨by omega, by omega, ?_⟩
          simp only [txD, tP_ei, List.cons_append, List.nil_append, List.append_assoc] at nxt hM2 ⊢
          exact nxt _ _ _ (hS.new hc2) hM2
  · rintro σ M' ⟨u, v, rfl, hS, hM⟩
    rw [List.take_length] at hM
    have hsum := tPs_sum hp
    have hr := List.map_congr_left (f := txD) (g := D.str ∘ S ∘ tP) (l := ps) fun _ _ => rfl
    simp only [↓x_seq, ↓x_next, ↓x_ret, ↓x_retN, ↓x_drop, ↓x_if, ↓x_asg, ↓x_false, ↓x_brk, ↓x_cnt, ↓x_g0, ↓x_v0, ↓x_g1, ↓x_v1, ↓x_g2, ↓x_v2, ↓x_g3, ↓x_v3, ↓x_g4, ↓x_v4, ↓x_g5, ↓x_v5, ↓x_g6, ↓x_v6, ↓x_g7, ↓x_v7, ↓x_g8, ↓x_v8, ↓x_g9, ↓x_v9, ↓x_g10, ↓x_v10, ↓x_g11, ↓x_v11, ↓x_g12, ↓x_v12, ↓x_g13, ↓x_v13, ↓x_g14, ↓x_v14, ↓x_g15, ↓x_v15, ↓x_g16, ↓x_v16, ↓x_g17, ↓x_v17, ↓x_g18, ↓x_v18, ↓x_g19, ↓x_v19, ↓x_gt2, ↓x_gt3, ↓x_gt4, ↓x_gt5, ↓x_gt6, ↓x_gc, ↓x_gn, ↓x_par2, ↓x_p2, ↓x_par3, ↓x_p3, ↓x_C, ↓x_op, ↓x_test, ↓x_chain, ↓x_andT, ↓x_orT, ↓x_notT, ↓x_ifE, ↓x_andV, ↓x_orV, ↓x_notV, ↓x_nil, ↓x_cons, ↓x_star, ↓x_tup, ↓x_lst, ↓x_callB, ↓x_call, ↓x_callK, ↓x_meth, ↓x_make, ↓x_fld, ↓x_fldS, ↓x_bm0, ↓x_bm, ↓x_sl, ↓x_nop, ↓x_prt, ↓x_neg, ↓x_revL, ↓x_lc, ↓x_for, ↓x_diSeq, ↓x_diEnum, ↓x_rng1, ↓y_addi, ↓y_adds, ↓y_addt, ↓y_int, ↓y_intC, ↓y_is, ↓y_isn, ↓y_nnon, ↓y_nbl, ↓y_nint, ↓y_nstr, ↓y_ntup, ↓y_nref, ↓y_t0, ↓y_t1, ↓y_t2, ↓y_t3, ↓y_m2, ↓y_m3, ↓y_len0, ↓y_len1, ↓y_len2, ↓y_len3, ↓y_len, ↓y_lenS, ↓y_itt, ↓y_iss, ↓y_iii, ↓y_iib, ↓y_i1, ↓y_i1b, ↓y_abs, ↓y_strI, ↓y_slt, ↓y_sls, ↓y_tys, ↓bIn_2, ↓bNotIn_2, ↓bEq_int, ↓bNe_int, wipeD, List.map_cons, List.map_nil, List.set_cons_zero, List.set_cons_succ, Option.some.injEq, exists_and_left, exists_eq_left', exists_eq_left, decide_true, decide_false, Bool.false_eq_true, reduceIte, Bool.not_true, Bool.not_false, List.length_cons, List.length_nil, Nat.reduceAdd, Nat.zero_add, line16, Nat.reduceLeDiff, Int.reduceEq, Int.reduceLT, Int.reduceLE, Int.reduceNeg, or_true, true_or, or_self, or_false, false_or, true_and, and_true, and_self, List.cons_append, List.nil_append, List.append_nil, forall_const]
    refine ⟨(ps.map tP).map S, ?_, ?_, ?_⟩
    · show (match M' a with | some (.lst l) => some l | _ => none) = _
      rw [hM, List.map_map, List.map_map]; rfl
    · rw [S_sum]; simp only [List.length_map, S_len, List.length_cons, List.length_nil]; omega
    · rw [txt_join, ← tPs_jn]
      exact Fg.mk hS q
theorem ok_law_text (T : Tx K mg) : ∀ n : Nat, DFn P w K mg base CX0 (n + 1) T.f__law_text T.d__law_text ["program"] (sp_program_text' n)
  | 0 => n__law_text T 0 ⟨fun ds M Q E h => absurd h.1 (by decide), fun A outer s H args us vs ds M Q E hr hg he hb hv hR hM h => absurd h.1 (by decide)⟩
  | n + 1 => n__law_text T (n + 1) ((ok_law_text T n).imp fun ds M Q E h => h.2)
def sp__law_text : DSp := sp_program_text' 15
theorem ok__law_text (T : Tx K mg) : DFn P w K mg base CX0 16 T.f__law_text T.d__law_text ["program"] sp__law_text := ok_law_text T 15
end
end K76
namespace K76
open PySem PySem.Spec PyProof.Rows L2 DL
section
variable {P : Program} {w : World} {K : PySem.W.Frag} {mg : Str → Option Value} {base : Heap}
/-- the reader, its text and its place -/
def RS (C : Addr) (t : List Nat) (pl : Nat) : MO := .ins C [("text", .str (S t)), ("place", .int ((pl : Nat) : Int))]
section
variable {C a : Addr} {t : List Nat} {pl : Nat} {M : Mp} {Q : D → Prop} {Z : Prop}
theorem r_text (h : M a = some (RS C t pl)) : (∃ fs d, M a = some (.ins C fs) ∧ fs.lookup ("text" : Str) = some d ∧ Q d) = Q (.str (S t)) := by
  rw [h]
  exact propext ⟨fun ⟨fs, d, e, l, q⟩ => by cases e; cases l; exact q, fun q => ⟨_, _, rfl, rfl, q⟩⟩
theorem r_place (h : M a = some (RS C t pl)) : (∃ fs d, M a = some (.ins C fs) ∧ fs.lookup ("place" : Str) = some d ∧ Q d) = Q (.int ((pl : Nat) : Int)) := by
  rw [h]
  exact propext ⟨fun ⟨fs, d, e, l, q⟩ => by cases e; cases l; exact q, fun q => ⟨_, _, rfl, rfl, q⟩⟩
theorem r_setp {N : List (Str × D) → Prop} (h : M a = some (RS C t pl)) : (∃ fs, M a = some (.ins C fs) ∧ fs.length < 1000 ∧ N fs) = N [("text", .str (S t)), ("place", .int ((pl : Nat) : Int))] := by
  rw [h]
  exact propext ⟨fun ⟨fs, e, _, q⟩ => by cases e; exact q, fun q => ⟨_, rfl, by simp, q⟩⟩
theorem r_put {x y v : D} : putFD ("place" : Str) v [(("text" : Str), x), (("place" : Str), y)] = [(("text" : Str), x), (("place" : Str), v)] := rfl
theorem r_place' (h : M a = some (RS C t pl)) : (∃ fs, M a = some (.ins C fs) ∧ ∃ d, fs.lookup ("place" : Str) = some d ∧ Q d) = Q (.int ((pl : Nat) : Int)) := by
  rw [← r_place (Q := Q) h]; simp only [exists_and_left]
theorem r_m {m : Str} (h : M a = some (RS C t pl)) (h1 : (m == ("text" : Str)) = false) (h2 : (m == ("place" : Str)) = false) : (∃ fs, M a = some (.ins C fs) ∧ fs.lookup m = none ∧ Z) = Z := by
  rw [h]
  exact propext ⟨fun ⟨fs, e, _, q⟩ => q, fun q => ⟨_, rfl, by simp [List.lookup, h1, h2], q⟩⟩
theorem r_takes (h : M a = some (RS C t pl)) : (∃ fs, M a = some (.ins C fs) ∧ fs.lookup ("takes" : Str) = none ∧ Z) = Z := r_m h (by decide +kernel) (by decide +kernel)
theorem r_need (h : M a = some (RS C t pl)) : (∃ fs, M a = some (.ins C fs) ∧ fs.lookup ("need" : Str) = none ∧ Z) = Z := r_m h (by decide +kernel) (by decide +kernel)
theorem r_brk (h : M a = some (RS C t pl)) : (∃ fs, M a = some (.ins C fs) ∧ fs.lookup ("bracketed" : Str) = none ∧ Z) = Z := r_m h (by decide +kernel) (by decide +kernel)
theorem r_parts (h : M a = some (RS C t pl)) : (∃ fs, M a = some (.ins C fs) ∧ fs.lookup ("parts" : Str) = none ∧ Z) = Z := r_m h (by decide +kernel) (by decide +kernel)
theorem r_one (h : M a = some (RS C t pl)) : (∃ fs, M a = some (.ins C fs) ∧ fs.lookup ("one_part" : Str) = none ∧ Z) = Z := r_m h (by decide +kernel) (by decide +kernel)
theorem r_room (h : M a = some (RS C t pl)) : (∃ fs, M a = some (.ins C fs) ∧ fs.lookup ("room" : Str) = none ∧ Z) = Z := r_m h (by decide +kernel) (by decide +kernel)
end
def sp_takes (C : Addr) : DSp := fun ds M Q E => ∃ (a : Addr) (pre X sg : List Nat), ds = [.ref a, .str (S sg)] ∧ sg.length ≤ 1000 ∧ pre.length + X.length ≤ 100000 ∧ M a = some (RS C (pre ++ X) pre.length) ∧
  if sg.isPrefixOf X = true then Q (.bl true) (put M a (RS C (pre ++ X) (pre.length + sg.length))) else Q (.bl false) M
theorem ok_ProgramReader_takes (T : Tx K mg) : DFn P w K mg base CX0 1 T.f_ProgramReader_takes T.d_ProgramReader_takes ["self", "sign"] (sp_takes T.C_ProgramReader) := by
  refine dfn_of (N := N_ProgramReader_takes) T.F_ProgramReader_takes sc_ProgramReader_takes (by decide) (fun ds M Q E h => ?_) (fun cdv A outer s H hr hgd => (dss_cons (ds_if (dt_not (dt_val (de_bm PySem.F.plainAttrs_str PySem.F.slot_str_startswith PySem.F.type_str_startswith mt_startswith3 tr_starts (de_fld T.cl_ProgramReader T.a_text (de_var 0)) (da_cons (de_var 1) (da_cons (de_fld T.cl_ProgramReader T.a_place (de_var 0)) da_nil))))) (dss_one (ds_ret de_bl)) dss_nil) (dss_cons (ds_fld T.cl_ProgramReader T.a_place (de_var 0) (de_bin op_add4 tr_add (de_fld T.cl_ProgramReader T.a_place (de_var 0)) (de_callB call_len tr_len rfl T.n_len bt_len (da_cons (de_var 1) da_nil)))) (dss_one (ds_ret de_bl))))) ?_
  · obtain ⟨_, _, _, _, rfl, _⟩ := h; rfl
  rintro ds M Q E ⟨a, pre, X, sg, rfl, hl, hb, hM, q⟩
  rw [st_ProgramReader_takes]
  simp only [↓x_seq, ↓x_next, ↓x_ret, ↓x_retN, ↓x_drop, ↓x_if, ↓x_asg, ↓x_false, ↓x_brk, ↓x_cnt, ↓x_g0, ↓x_v0, ↓x_g1, ↓x_v1, ↓x_g2, ↓x_v2, ↓x_g3, ↓x_v3, ↓x_g4, ↓x_v4, ↓x_g5, ↓x_v5, ↓x_g6, ↓x_v6, ↓x_g7, ↓x_v7, ↓x_g8, ↓x_v8, ↓x_g9, ↓x_v9, ↓x_g10, ↓x_v10, ↓x_g11, ↓x_v11, ↓x_g12, ↓x_v12, ↓x_g13, ↓x_v13, ↓x_g14, ↓x_v14, ↓x_g15, ↓x_v15, ↓x_g16, ↓x_v16, ↓x_g17, ↓x_v17, ↓x_g18, ↓x_v18, ↓x_g19, ↓x_v19, ↓x_gt2, ↓x_gt3, ↓x_gt4, ↓x_gt5, ↓x_gt6, ↓x_gc, ↓x_gn, ↓x_par2, ↓x_p2, ↓x_par3, ↓x_p3, ↓x_C, ↓x_op, ↓x_test, ↓x_chain, ↓x_andT, ↓x_orT, ↓x_notT, ↓x_ifE, ↓x_andV, ↓x_orV, ↓x_notV, ↓x_nil, ↓x_cons, ↓x_star, ↓x_tup, ↓x_lst, ↓x_callB, ↓x_call, ↓x_callK, ↓x_meth, ↓x_make, ↓x_fld, ↓x_fldS, ↓x_bm0, ↓x_bm, ↓x_sl, ↓x_nop, ↓x_prt, ↓x_neg, ↓x_revL, ↓x_lc, ↓x_for, ↓x_diSeq, ↓x_diEnum, ↓x_rng1, ↓y_addi, ↓y_adds, ↓y_addt, ↓y_int, ↓y_intC, ↓y_is, ↓y_isn, ↓y_nnon, ↓y_nbl, ↓y_nint, ↓y_nstr, ↓y_ntup, ↓y_nref, ↓y_t0, ↓y_t1, ↓y_t2, ↓y_t3, ↓y_m2, ↓y_m3, ↓y_len0, ↓y_len1, ↓y_len2, ↓y_len3, ↓y_len, ↓y_lenS, ↓y_itt, ↓y_iss, ↓y_iii, ↓y_iib, ↓y_i1, ↓y_i1b, ↓y_abs, ↓y_strI, ↓y_slt, ↓y_sls, ↓y_tys, ↓bIn_2, ↓bNotIn_2, ↓bEq_int, ↓bNe_int, wipeD, List.map_cons, List.map_nil, List.set_cons_zero, List.set_cons_succ, Option.some.injEq, exists_and_left, exists_eq_left', exists_eq_left, decide_true, decide_false, Bool.false_eq_true, reduceIte, Bool.not_true, Bool.not_false, List.length_cons, List.length_nil, Nat.reduceAdd, Nat.zero_add, line16, Nat.reduceLeDiff, Int.reduceEq, Int.reduceLT, Int.reduceLE, Int.reduceNeg, or_true, true_or, or_self, or_false, false_or, true_and, and_true, and_self, List.cons_append, List.nil_append, List.append_nil, forall_const, ↓r_text hM, ↓r_place hM, ↓r_place' hM, ↓r_setp hM, r_put, bStarts, sw_pre]
  cases hp : sg.isPrefixOf X with
  | true =>
    rw [hp, if_pos rfl] at q
    simp only [↓x_seq, ↓x_next, ↓x_ret, ↓x_retN, ↓x_drop, ↓x_if, ↓x_asg, ↓x_false, ↓x_brk, ↓x_cnt, ↓x_g0, ↓x_v0, ↓x_g1, ↓x_v1, ↓x_g2, ↓x_v2, ↓x_g3, ↓x_v3, ↓x_g4, ↓x_v4, ↓x_g5, ↓x_v5, ↓x_g6, ↓x_v6, ↓x_g7, ↓x_v7, ↓x_g8, ↓x_v8, ↓x_g9, ↓x_v9, ↓x_g10, ↓x_v10, ↓x_g11, ↓x_v11, ↓x_g12, ↓x_v12, ↓x_g13, ↓x_v13, ↓x_g14, ↓x_v14, ↓x_g15, ↓x_v15, ↓x_g16, ↓x_v16, ↓x_g17, ↓x_v17, ↓x_g18, ↓x_v18, ↓x_g19, ↓x_v19, ↓x_gt2, ↓x_gt3, ↓x_gt4, ↓x_gt5, ↓x_gt6, ↓x_gc, ↓x_gn, ↓x_par2, ↓x_p2, ↓x_par3, ↓x_p3, ↓x_C, ↓x_op, ↓x_test, ↓x_chain, ↓x_andT, ↓x_orT, ↓x_notT, ↓x_ifE, ↓x_andV, ↓x_orV, ↓x_notV, ↓x_nil, ↓x_cons, ↓x_star, ↓x_tup, ↓x_lst, ↓x_callB, ↓x_call, ↓x_callK, ↓x_meth, ↓x_make, ↓x_fld, ↓x_fldS, ↓x_bm0, ↓x_bm, ↓x_sl, ↓x_nop, ↓x_prt, ↓x_neg, ↓x_revL, ↓x_lc, ↓x_for, ↓x_diSeq, ↓x_diEnum, ↓x_rng1, ↓y_addi, ↓y_adds, ↓y_addt, ↓y_int, ↓y_intC, ↓y_is, ↓y_isn, ↓y_nnon, ↓y_nbl, ↓y_nint, ↓y_nstr, ↓y_ntup, ↓y_nref, ↓y_t0, ↓y_t1, ↓y_t2, ↓y_t3, ↓y_m2, ↓y_m3, ↓y_len0, ↓y_len1, ↓y_len2, ↓y_len3, ↓y_len, ↓y_lenS, ↓y_itt, ↓y_iss, ↓y_iii, ↓y_iib, ↓y_i1, ↓y_i1b, ↓y_abs, ↓y_strI, ↓y_slt, ↓y_sls, ↓y_tys, ↓bIn_2, ↓bNotIn_2, ↓bEq_int, ↓bNe_int, wipeD, List.map_cons, List.map_nil, List.set_cons_zero, List.set_cons_succ, Option.some.injEq, exists_and_left, exists_eq_left', exists_eq_left, decide_true, decide_false, Bool.false_eq_true, reduceIte, Bool.not_true, Bool.not_false, List.length_cons, List.length_nil, Nat.reduceAdd, Nat.zero_add, line16, Nat.reduceLeDiff, Int.reduceEq, Int.reduceLT, Int.reduceLE, Int.reduceNeg, or_true, true_or, or_self, or_false, false_or, true_and, and_true, and_self, List.cons_append, List.nil_append, List.append_nil, forall_const, ↓r_place hM, ↓r_place' hM, ↓r_setp hM, r_put, S_len]
    refine ⟨by omega, ?_⟩
    exact Fg.now (by simpa [RS] using q)
  | false =>
    rw [hp, if_neg (by decide)] at q
    simp only [↓x_seq, ↓x_next, ↓x_ret, ↓x_retN, ↓x_drop, ↓x_if, ↓x_asg, ↓x_false, ↓x_brk, ↓x_cnt, ↓x_g0, ↓x_v0, ↓x_g1, ↓x_v1, ↓x_g2, ↓x_v2, ↓x_g3, ↓x_v3, ↓x_g4, ↓x_v4, ↓x_g5, ↓x_v5, ↓x_g6, ↓x_v6, ↓x_g7, ↓x_v7, ↓x_g8, ↓x_v8, ↓x_g9, ↓x_v9, ↓x_g10, ↓x_v10, ↓x_g11, ↓x_v11, ↓x_g12, ↓x_v12, ↓x_g13, ↓x_v13, ↓x_g14, ↓x_v14, ↓x_g15, ↓x_v15, ↓x_g16, ↓x_v16, ↓x_g17, ↓x_v17, ↓x_g18, ↓x_v18, ↓x_g19, ↓x_v19, ↓x_gt2, ↓x_gt3, ↓x_gt4, ↓x_gt5, ↓x_gt6, ↓x_gc, ↓x_gn, ↓x_par2, ↓x_p2, ↓x_par3, ↓x_p3, ↓x_C, ↓x_op, ↓x_test, ↓x_chain, ↓x_andT, ↓x_orT, ↓x_notT, ↓x_ifE, ↓x_andV, ↓x_orV, ↓x_notV, ↓x_nil, ↓x_cons, ↓x_star, ↓x_tup, ↓x_lst, ↓x_callB, ↓x_call, ↓x_callK, ↓x_meth, ↓x_make, ↓x_fld, ↓x_fldS, ↓x_bm0, ↓x_bm, ↓x_sl, ↓x_nop, ↓x_prt, ↓x_neg, ↓x_revL, ↓x_lc, ↓x_for, ↓x_diSeq, ↓x_diEnum, ↓x_rng1, ↓y_addi, ↓y_adds, ↓y_addt, ↓y_int, ↓y_intC, ↓y_is, ↓y_isn, ↓y_nnon, ↓y_nbl, ↓y_nint, ↓y_nstr, ↓y_ntup, ↓y_nref, ↓y_t0, ↓y_t1, ↓y_t2, ↓y_t3, ↓y_m2, ↓y_m3, ↓y_len0, ↓y_len1, ↓y_len2, ↓y_len3, ↓y_len, ↓y_lenS, ↓y_itt, ↓y_iss, ↓y_iii, ↓y_iib, ↓y_i1, ↓y_i1b, ↓y_abs, ↓y_strI, ↓y_slt, ↓y_sls, ↓y_tys, ↓bIn_2, ↓bNotIn_2, ↓bEq_int, ↓bNe_int, wipeD, List.map_cons, List.map_nil, List.set_cons_zero, List.set_cons_succ, Option.some.injEq, exists_and_left, exists_eq_left', exists_eq_left, decide_true, decide_false, Bool.false_eq_true, reduceIte, Bool.not_true, Bool.not_false, List.length_cons, List.length_nil, Nat.reduceAdd, Nat.zero_add, line16, Nat.reduceLeDiff, Int.reduceEq, Int.reduceLT, Int.reduceLE, Int.reduceNeg, or_true, true_or, or_self, or_false, false_or, true_and, and_true, and_self, List.cons_append, List.nil_append, List.append_nil, forall_const]
    exact Fg.now q
def sp_need (C : Addr) : DSp := fun ds M Q E => ∃ (a : Addr) (pre X sg : List Nat), ds = [.ref a, .str (S sg)] ∧ sg.length ≤ 1000 ∧ pre.length + X.length ≤ 100000 ∧ M a = some (RS C (pre ++ X) pre.length) ∧ sg.isPrefixOf X = true ∧ Q .non (put M a (RS C (pre ++ X) (pre.length + sg.length)))
theorem ok_ProgramReader_need (T : Tx K mg) : DFn P w K mg base CX0 2 T.f_ProgramReader_need T.d_ProgramReader_need ["self", "sign"] (sp_need T.C_ProgramReader) := by
  refine dfn_of (N := N_ProgramReader_need) T.F_ProgramReader_need sc_ProgramReader_need (by decide) (fun ds M Q E h => ?_) (fun cdv A outer s H hr hgd => (dss_one (ds_if (dt_not (dt_val (de_meth (de_var 0) T.cl_ProgramReader T.m_ProgramReader_takes (ok_ProgramReader_takes T) (hr.mono (by omega)) hgd T.b_ProgramReader_takes dpass0 (da_cons (de_var 1) da_nil)))) (dss_one ds_never) dss_nil))) ?_
  · obtain ⟨_, _, _, _, rfl, _⟩ := h; rfl
  rintro ds M Q E ⟨a, pre, X, sg, rfl, hl, hb, hM, hp, q⟩
  rw [st_ProgramReader_need]
  simp only [↓x_seq, ↓x_next, ↓x_ret, ↓x_retN, ↓x_drop, ↓x_if, ↓x_asg, ↓x_false, ↓x_brk, ↓x_cnt, ↓x_g0, ↓x_v0, ↓x_g1, ↓x_v1, ↓x_g2, ↓x_v2, ↓x_g3, ↓x_v3, ↓x_g4, ↓x_v4, ↓x_g5, ↓x_v5, ↓x_g6, ↓x_v6, ↓x_g7, ↓x_v7, ↓x_g8, ↓x_v8, ↓x_g9, ↓x_v9, ↓x_g10, ↓x_v10, ↓x_g11, ↓x_v11, ↓x_g12, ↓x_v12, ↓x_g13, ↓x_v13, ↓x_g14, ↓x_v14, ↓x_g15, ↓x_v15, ↓x_g16, ↓x_v16, ↓x_g17, ↓x_v17, ↓x_g18, ↓x_v18, ↓x_g19, ↓x_v19, ↓x_gt2, ↓x_gt3, ↓x_gt4, ↓x_gt5, ↓x_gt6, ↓x_gc, ↓x_gn, ↓x_par2, ↓x_p2, ↓x_par3, ↓x_p3, ↓x_C, ↓x_op, ↓x_test, ↓x_chain, ↓x_andT, ↓x_orT, ↓x_notT, ↓x_ifE, ↓x_andV, ↓x_orV, ↓x_notV, ↓x_nil, ↓x_cons, ↓x_star, ↓x_tup, ↓x_lst, ↓x_callB, ↓x_call, ↓x_callK, ↓x_meth, ↓x_make, ↓x_fld, ↓x_fldS, ↓x_bm0, ↓x_bm, ↓x_sl, ↓x_nop, ↓x_prt, ↓x_neg, ↓x_revL, ↓x_lc, ↓x_for, ↓x_diSeq, ↓x_diEnum, ↓x_rng1, ↓y_addi, ↓y_adds, ↓y_addt, ↓y_int, ↓y_intC, ↓y_is, ↓y_isn, ↓y_nnon, ↓y_nbl, ↓y_nint, ↓y_nstr, ↓y_ntup, ↓y_nref, ↓y_t0, ↓y_t1, ↓y_t2, ↓y_t3, ↓y_m2, ↓y_m3, ↓y_len0, ↓y_len1, ↓y_len2, ↓y_len3, ↓y_len, ↓y_lenS, ↓y_itt, ↓y_iss, ↓y_iii, ↓y_iib, ↓y_i1, ↓y_i1b, ↓y_abs, ↓y_strI, ↓y_slt, ↓y_sls, ↓y_tys, ↓bIn_2, ↓bNotIn_2, ↓bEq_int, ↓bNe_int, wipeD, List.map_cons, List.map_nil, List.set_cons_zero, List.set_cons_succ, Option.some.injEq, exists_and_left, exists_eq_left', exists_eq_left, decide_true, decide_false, Bool.false_eq_true, reduceIte, Bool.not_true, Bool.not_false, List.length_cons, List.length_nil, Nat.reduceAdd, Nat.zero_add, line16, Nat.reduceLeDiff, Int.reduceEq, Int.reduceLT, Int.reduceLE, Int.reduceNeg, or_true, true_or, or_self, or_false, false_or, true_and, and_true, and_self, List.cons_append, List.nil_append, List.append_nil, forall_const, ↓r_takes hM, sp_takes]
  refine ⟨a, pre, X, sg, rfl, hl, hb, hM, ?_⟩
  simp only [hp, ↓x_seq, ↓x_next, ↓x_ret, ↓x_retN, ↓x_drop, ↓x_if, ↓x_asg, ↓x_false, ↓x_brk, ↓x_cnt, ↓x_g0, ↓x_v0, ↓x_g1, ↓x_v1, ↓x_g2, ↓x_v2, ↓x_g3, ↓x_v3, ↓x_g4, ↓x_v4, ↓x_g5, ↓x_v5, ↓x_g6, ↓x_v6, ↓x_g7, ↓x_v7, ↓x_g8, ↓x_v8, ↓x_g9, ↓x_v9, ↓x_g10, ↓x_v10, ↓x_g11, ↓x_v11, ↓x_g12, ↓x_v12, ↓x_g13, ↓x_v13, ↓x_g14, ↓x_v14, ↓x_g15, ↓x_v15, ↓x_g16, ↓x_v16, ↓x_g17, ↓x_v17, ↓x_g18, ↓x_v18, ↓x_g19, ↓x_v19, ↓x_gt2, ↓x_gt3, ↓x_gt4, ↓x_gt5, ↓x_gt6, ↓x_gc, ↓x_gn, ↓x_par2, ↓x_p2, ↓x_par3, ↓x_p3, ↓x_C, ↓x_op, ↓x_test, ↓x_chain, ↓x_andT, ↓x_orT, ↓x_notT, ↓x_ifE, ↓x_andV, ↓x_orV, ↓x_notV, ↓x_nil, ↓x_cons, ↓x_star, ↓x_tup, ↓x_lst, ↓x_callB, ↓x_call, ↓x_callK, ↓x_meth, ↓x_make, ↓x_fld, ↓x_fldS, ↓x_bm0, ↓x_bm, ↓x_sl, ↓x_nop, ↓x_prt, ↓x_neg, ↓x_revL, ↓x_lc, ↓x_for, ↓x_diSeq, ↓x_diEnum, ↓x_rng1, ↓y_addi, ↓y_adds, ↓y_addt, ↓y_int, ↓y_intC, ↓y_is, ↓y_isn, ↓y_nnon, ↓y_nbl, ↓y_nint, ↓y_nstr, ↓y_ntup, ↓y_nref, ↓y_t0, ↓y_t1, ↓y_t2, ↓y_t3, ↓y_m2, ↓y_m3, ↓y_len0, ↓y_len1, ↓y_len2, ↓y_len3, ↓y_len, ↓y_lenS, ↓y_itt, ↓y_iss, ↓y_iii, ↓y_iib, ↓y_i1, ↓y_i1b, ↓y_abs, ↓y_strI, ↓y_slt, ↓y_sls, ↓y_tys, ↓bIn_2, ↓bNotIn_2, ↓bEq_int, ↓bNe_int, wipeD, List.map_cons, List.map_nil, List.set_cons_zero, List.set_cons_succ, Option.some.injEq, exists_and_left, exists_eq_left', exists_eq_left, decide_true, decide_false, Bool.false_eq_true, reduceIte, Bool.not_true, Bool.not_false, List.length_cons, List.length_nil, Nat.reduceAdd, Nat.zero_add, line16, Nat.reduceLeDiff, Int.reduceEq, Int.reduceLT, Int.reduceLE, Int.reduceNeg, or_true, true_or, or_self, or_false, false_or, true_and, and_true, and_self, List.cons_append, List.nil_append, List.append_nil, forall_const]
  exact Fg.now q
def sp_room (C : Addr) : DSp := fun ds M Q E => ∃ (a : Addr) (pre X : List Nat) (r : Nat), ds = [.ref a] ∧ r < 6 ∧ pre.length + X.length ≤ 100000 ∧ M a = some (RS C (pre ++ (48 + r) :: X) pre.length) ∧ Q (.int (r : Nat)) (put M a (RS C (pre ++ (48 + r) :: X) (pre.length + 1)))
theorem ok_ProgramReader_room (T : Tx K mg) : DFn P w K mg base CX0 1 T.f_ProgramReader_room T.d_ProgramReader_room ["self"] (sp_room T.C_ProgramReader) := by
  refine dfn_of (N := N_ProgramReader_room) T.F_ProgramReader_room sc_ProgramReader_room (by decide) (fun ds M Q E h => ?_) (fun cdv A outer s H hr hgd => (dss_cons (ds_set (i := 1) sc_ProgramReader_room.nd rfl (Or.inl rfl) (de_sl (de_fld T.cl_ProgramReader T.a_text (de_var 0)) (do_some (de_fld T.cl_ProgramReader T.a_place (de_var 0))) (do_some (de_bin op_add4 tr_add (de_fld T.cl_ProgramReader T.a_place (de_var 0)) de_int)))) (dss_cons (ds_if (DW.dt (dw_or (dt_cmp (op_eqD hr.units) tr_eq (de_var 1) de_str (nomark _)) (dw_or1 (dt_cmp (op_notIn3 (room65 hr)) tr_notIn (de_var 1) (de_glob (v := (.str "0123456789")) (d := (.str "0123456789")) rfl T.c_FIGURES ⟨_, rfl⟩ (fun _ => rfl)) (by with_unfolding_all rfl))))) (dss_one ds_never) dss_nil) (dss_cons (ds_fld T.cl_ProgramReader T.a_place (de_var 0) (de_bin op_add4 tr_add (de_fld T.cl_ProgramReader T.a_place (de_var 0)) de_int)) (dss_one (ds_ret (de_bm PySem.F.plainAttrs_str PySem.F.slot_str_index PySem.F.type_str_index mt_sindex tr_sindex (de_glob (v := (.str "0123456789")) (d := (.str "0123456789")) rfl T.c_FIGURES ⟨_, rfl⟩ (fun _ => rfl)) (da_cons (de_var 1) da_nil)))))))) ?_
  · obtain ⟨_, _, _, _, rfl, _⟩ := h; rfl
  rintro ds M Q E ⟨a, pre, X, r, rfl, hr, hb, hM, q⟩
  rw [st_ProgramReader_room]
  have h1 : PyData.strOk (S [48 + r]) = true := so_ascii _ fun c hc => by simp at hc; omega
  have h2 : PyData.strOk (S []) = true := so_ascii _ fun c hc => by simp at hc
  have h3 : (S [48 + r] = S []) = False := by simp; intro h; have := S_inj h; simp at this
  simp only [↓x_seq, ↓x_next, ↓x_ret, ↓x_retN, ↓x_drop, ↓x_if, ↓x_asg, ↓x_false, ↓x_brk, ↓x_cnt, ↓x_g0, ↓x_v0, ↓x_g1, ↓x_v1, ↓x_g2, ↓x_v2, ↓x_g3, ↓x_v3, ↓x_g4, ↓x_v4, ↓x_g5, ↓x_v5, ↓x_g6, ↓x_v6, ↓x_g7, ↓x_v7, ↓x_g8, ↓x_v8, ↓x_g9, ↓x_v9, ↓x_g10, ↓x_v10, ↓x_g11, ↓x_v11, ↓x_g12, ↓x_v12, ↓x_g13, ↓x_v13, ↓x_g14, ↓x_v14, ↓x_g15, ↓x_v15, ↓x_g16, ↓x_v16, ↓x_g17, ↓x_v17, ↓x_g18, ↓x_v18, ↓x_g19, ↓x_v19, ↓x_gt2, ↓x_gt3, ↓x_gt4, ↓x_gt5, ↓x_gt6, ↓x_gc, ↓x_gn, ↓x_par2, ↓x_p2, ↓x_par3, ↓x_p3, ↓x_C, ↓x_op, ↓x_test, ↓x_chain, ↓x_andT, ↓x_orT, ↓x_notT, ↓x_ifE, ↓x_andV, ↓x_orV, ↓x_notV, ↓x_nil, ↓x_cons, ↓x_star, ↓x_tup, ↓x_lst, ↓x_callB, ↓x_call, ↓x_callK, ↓x_meth, ↓x_make, ↓x_fld, ↓x_fldS, ↓x_bm0, ↓x_bm, ↓x_sl, ↓x_nop, ↓x_prt, ↓x_neg, ↓x_revL, ↓x_lc, ↓x_for, ↓x_diSeq, ↓x_diEnum, ↓x_rng1, ↓y_addi, ↓y_adds, ↓y_addt, ↓y_int, ↓y_intC, ↓y_is, ↓y_isn, ↓y_nnon, ↓y_nbl, ↓y_nint, ↓y_nstr, ↓y_ntup, ↓y_nref, ↓y_t0, ↓y_t1, ↓y_t2, ↓y_t3, ↓y_m2, ↓y_m3, ↓y_len0, ↓y_len1, ↓y_len2, ↓y_len3, ↓y_len, ↓y_lenS, ↓y_itt, ↓y_iss, ↓y_iii, ↓y_iib, ↓y_i1, ↓y_i1b, ↓y_abs, ↓y_strI, ↓y_slt, ↓y_sls, ↓y_tys, ↓bIn_2, ↓bNotIn_2, ↓bEq_int, ↓bNe_int, wipeD, List.map_cons, List.map_nil, List.set_cons_zero, List.set_cons_succ, Option.some.injEq, exists_and_left, exists_eq_left', exists_eq_left, decide_true, decide_false, Bool.false_eq_true, reduceIte, Bool.not_true, Bool.not_false, List.length_cons, List.length_nil, Nat.reduceAdd, Nat.zero_add, line16, Nat.reduceLeDiff, Int.reduceEq, Int.reduceLT, Int.reduceLE, Int.reduceNeg, or_true, true_or, or_self, or_false, false_or, true_and, and_true, and_self, List.cons_append, List.nil_append, List.append_nil, forall_const, ↓r_text hM, ↓r_place hM, ↓r_place' hM, ↓r_setp hM, r_put, cut_one, l_no, l_fig, ↓bEq_str h1 h2, h3, ↓fig_in hr, S_len, List.length_append]
  refine ⟨by omega, ?_⟩
  exact fig_ix hr (Fg.now (by simpa [RS] using q))
end
end K76
namespace K76
open PySem PySem.Spec PyProof.Rows L2 DL
section
variable {P : Program} {w : World} {K : PySem.W.Frag} {mg : Str → Option Value} {base : Heap}
theorem RS_eq {C : Addr} {t t' : List Nat} {n n' : Nat} (h : t = t') (h2 : n = n') : RS C t n = RS C t' n' := by rw [h, h2]
def sp_br (C : Addr) (n : Nat) : DSp := fun ds M Q E => ∃ (a : Addr) (pre rest : List Nat) (ps : List Part) (rooms : List Nat) (deep : Nat), ds = [.ref a, .int ((deep : Nat) : Int)] ∧ okPs ps = true ∧ ckPs rooms deep ps = true ∧ cPs ps ≤ n ∧ n ≤ 20 ∧ pre.length + (tB ps).length + rest.length ≤ 100000 ∧
  M a = some (RS C (pre ++ (tB ps ++ rest)) pre.length) ∧ Q (.tup (pDs ps)) (put M a (RS C (pre ++ (tB ps ++ rest)) (pre.length + (tB ps).length)))
def sp_pa (C : Addr) (n : Nat) : DSp := fun ds M Q E => ∃ (a : Addr) (pre rest : List Nat) (ps : List Part) (rooms : List Nat) (deep : Nat), ds = [.ref a, .int ((deep : Nat) : Int)] ∧ okPs ps = true ∧ ckPs rooms deep ps = true ∧ cPs ps ≤ n ∧ n ≤ 20 ∧ pre.length + (tPs ps).length + rest.length ≤ 100000 ∧ ps ≠ [] ∧ ge rest ∧
  M a = some (RS C (pre ++ (tPs ps ++ rest)) pre.length) ∧ Q (.tup (pDs ps)) (put M a (RS C (pre ++ (tPs ps ++ rest)) (pre.length + (tPs ps).length)))
def sp_on (C : Addr) (n : Nat) : DSp := fun ds M Q E => ∃ (a : Addr) (pre rest : List Nat) (p : Part) (rooms : List Nat) (deep : Nat), ds = [.ref a, .int ((deep : Nat) : Int)] ∧ okP p = true ∧ ckP rooms deep p = true ∧ cP p ≤ n ∧ n ≤ 20 ∧ pre.length + (tP p).length + rest.length ≤ 100000 ∧ gd rest ∧
  M a = some (RS C (pre ++ (tP p ++ rest)) pre.length) ∧ Q (pD p) (put M a (RS C (pre ++ (tP p ++ rest)) (pre.length + (tP p).length)))
theorem bNe_nn {M : Mp} {Q : D → Mp → Prop} : bNe (.tup []) (.tup []) M Q = Q (.bl false) M := by
  have := @bNe_pnil [] M Q (by simp [cPs])
  simpa [pDs] using this
theorem n_bracketed (T : Tx K mg) (n : Nat) (hp : DFn P w K mg base CX0 (3 * n + 3) T.f_ProgramReader_parts T.d_ProgramReader_parts ["self", "deep"] (sp_pa T.C_ProgramReader n)) : DFn P w K mg base CX0 (3 * n + 3 + 1) T.f_ProgramReader_bracketed T.d_ProgramReader_bracketed ["self", "deep"] (sp_br T.C_ProgramReader n) := by
  refine dfn_of (N := N_ProgramReader_bracketed) T.F_ProgramReader_bracketed sc_ProgramReader_bracketed (by decide) (fun ds M Q E h => ?_) (fun cdv A outer s H hr hgd => (dss_cons (ds_expr (de_meth (de_var 0) T.cl_ProgramReader T.m_ProgramReader_need (ok_ProgramReader_need T) (hr.mono (by omega)) hgd T.b_ProgramReader_need dpass0 (da_cons de_str da_nil))) (dss_cons (ds_set (i := 2) sc_ProgramReader_bracketed.nd rfl (Or.inl rfl) (de_if (dt_val (de_meth (de_var 0) T.cl_ProgramReader T.m_ProgramReader_takes (ok_ProgramReader_takes T) (hr.mono (by omega)) hgd T.b_ProgramReader_takes dpass0 (da_cons de_str da_nil))) (de_tup da_nil) (de_meth (de_var 0) T.cl_ProgramReader T.m_ProgramReader_parts hp (hr.mono (by omega)) hgd T.b_ProgramReader_parts dpass0 (da_cons (de_var 1) da_nil)))) (dss_cons (ds_if (dt_cmp (op_neD hr.units) tr_ne (de_var 2) (de_tup da_nil) (nomark _)) (dss_one (ds_expr (de_meth (de_var 0) T.cl_ProgramReader T.m_ProgramReader_need (ok_ProgramReader_need T) (hr.mono (by omega)) hgd T.b_ProgramReader_need dpass0 (da_cons de_str da_nil)))) dss_nil) (dss_one (ds_ret (de_var 2))))))) ?_
  · obtain ⟨_, _, _, _, _, _, rfl, _⟩ := h; rfl
  rintro ds M Q E ⟨a, pre, rest, ps, rooms, deep, rfl, hok, hck, hc, hn, hb, hM, q⟩
  rw [st_ProgramReader_bracketed]
  have hbl : (tB ps).length = (tPs ps).length + 2 := by simp [tB]
  simp only [↓x_seq, ↓x_next, ↓x_ret, ↓x_retN, ↓x_drop, ↓x_if, ↓x_asg, ↓x_false, ↓x_brk, ↓x_cnt, ↓x_g0, ↓x_v0, ↓x_g1, ↓x_v1, ↓x_g2, ↓x_v2, ↓x_g3, ↓x_v3, ↓x_g4, ↓x_v4, ↓x_g5, ↓x_v5, ↓x_g6, ↓x_v6, ↓x_g7, ↓x_v7, ↓x_g8, ↓x_v8, ↓x_g9, ↓x_v9, ↓x_g10, ↓x_v10, ↓x_g11, ↓x_v11, ↓x_g12, ↓x_v12, ↓x_g13, ↓x_v13, ↓x_g14, ↓x_v14, ↓x_g15, ↓x_v15, ↓x_g16, ↓x_v16, ↓x_g17, ↓x_v17, ↓x_g18, ↓x_v18, ↓x_g19, ↓x_v19, ↓x_gt2, ↓x_gt3, ↓x_gt4, ↓x_gt5, ↓x_gt6, ↓x_gc, ↓x_gn, ↓x_par2, ↓x_p2, ↓x_par3, ↓x_p3, ↓x_C, ↓x_op, ↓x_test, ↓x_chain, ↓x_andT, ↓x_orT, ↓x_notT, ↓x_ifE, ↓x_andV, ↓x_orV, ↓x_notV, ↓x_nil, ↓x_cons, ↓x_star, ↓x_tup, ↓x_lst, ↓x_callB, ↓x_call, ↓x_callK, ↓x_meth, ↓x_make, ↓x_fld, ↓x_fldS, ↓x_bm0, ↓x_bm, ↓x_sl, ↓x_nop, ↓x_prt, ↓x_neg, ↓x_revL, ↓x_lc, ↓x_for, ↓x_diSeq, ↓x_diEnum, ↓x_rng1, ↓y_addi, ↓y_adds, ↓y_addt, ↓y_int, ↓y_intC, ↓y_is, ↓y_isn, ↓y_nnon, ↓y_nbl, ↓y_nint, ↓y_nstr, ↓y_ntup, ↓y_nref, ↓y_t0, ↓y_t1, ↓y_t2, ↓y_t3, ↓y_m2, ↓y_m3, ↓y_len0, ↓y_len1, ↓y_len2, ↓y_len3, ↓y_len, ↓y_lenS, ↓y_itt, ↓y_iss, ↓y_iii, ↓y_iib, ↓y_i1, ↓y_i1b, ↓y_abs, ↓y_strI, ↓y_slt, ↓y_sls, ↓y_tys, ↓bIn_2, ↓bNotIn_2, ↓bEq_int, ↓bNe_int, wipeD, List.map_cons, List.map_nil, List.set_cons_zero, List.set_cons_succ, Option.some.injEq, exists_and_left, exists_eq_left', exists_eq_left, decide_true, decide_false, Bool.false_eq_true, reduceIte, Bool.not_true, Bool.not_false, List.length_cons, List.length_nil, Nat.reduceAdd, Nat.zero_add, line16, Nat.reduceLeDiff, Int.reduceEq, Int.reduceLT, Int.reduceLE, Int.reduceNeg, or_true, true_or, or_self, or_false, false_or, true_and, and_true, and_self, List.cons_append, List.nil_append, List.append_nil, forall_const, ↓r_need hM, sp_need, l_op]
  refine ⟨a, pre, tB ps ++ rest, [40], rfl, by simp, by simp only [List.length_append]; omega, hM, by simp [tB, List.isPrefixOf], ?_⟩
  simp only [List.length_cons, List.length_nil, Nat.zero_add]
  have hM1 : put M a (RS T.C_ProgramReader (pre ++ (tB ps ++ rest)) (pre.length + 1)) a = some (RS T.C_ProgramReader ((pre ++ [40]) ++ (tPs ps ++ 41 :: rest)) (pre ++ [40]).length) := by
    rw [put_same]; exact congrArg some (RS_eq (by simp [tB]) (by simp))
  simp only [↓x_seq, ↓x_next, ↓x_ret, ↓x_retN, ↓x_drop, ↓x_if, ↓x_asg, ↓x_false, ↓x_brk, ↓x_cnt, ↓x_g0, ↓x_v0, ↓x_g1, ↓x_v1, ↓x_g2, ↓x_v2, ↓x_g3, ↓x_v3, ↓x_g4, ↓x_v4, ↓x_g5, ↓x_v5, ↓x_g6, ↓x_v6, ↓x_g7, ↓x_v7, ↓x_g8, ↓x_v8, ↓x_g9, ↓x_v9, ↓x_g10, ↓x_v10, ↓x_g11, ↓x_v11, ↓x_g12, ↓x_v12, ↓x_g13, ↓x_v13, ↓x_g14, ↓x_v14, ↓x_g15, ↓x_v15, ↓x_g16, ↓x_v16, ↓x_g17, ↓x_v17, ↓x_g18, ↓x_v18, ↓x_g19, ↓x_v19, ↓x_gt2, ↓x_gt3, ↓x_gt4, ↓x_gt5, ↓x_gt6, ↓x_gc, ↓x_gn, ↓x_par2, ↓x_p2, ↓x_par3, ↓x_p3, ↓x_C, ↓x_op, ↓x_test, ↓x_chain, ↓x_andT, ↓x_orT, ↓x_notT, ↓x_ifE, ↓x_andV, ↓x_orV, ↓x_notV, ↓x_nil, ↓x_cons, ↓x_star, ↓x_tup, ↓x_lst, ↓x_callB, ↓x_call, ↓x_callK, ↓x_meth, ↓x_make, ↓x_fld, ↓x_fldS, ↓x_bm0, ↓x_bm, ↓x_sl, ↓x_nop, ↓x_prt, ↓x_neg, ↓x_revL, ↓x_lc, ↓x_for, ↓x_diSeq, ↓x_diEnum, ↓x_rng1, ↓y_addi, ↓y_adds, ↓y_addt, ↓y_int, ↓y_intC, ↓y_is, ↓y_isn, ↓y_nnon, ↓y_nbl, ↓y_nint, ↓y_nstr, ↓y_ntup, ↓y_nref, ↓y_t0, ↓y_t1, ↓y_t2, ↓y_t3, ↓y_m2, ↓y_m3, ↓y_len0, ↓y_len1, ↓y_len2, ↓y_len3, ↓y_len, ↓y_lenS, ↓y_itt, ↓y_iss, ↓y_iii, ↓y_iib, ↓y_i1, ↓y_i1b, ↓y_abs, ↓y_strI, ↓y_slt, ↓y_sls, ↓y_tys, ↓bIn_2, ↓bNotIn_2, ↓bEq_int, ↓bNe_int, wipeD, List.map_cons, List.map_nil, List.set_cons_zero, List.set_cons_succ, Option.some.injEq, exists_and_left, exists_eq_left', exists_eq_left, decide_true, decide_false, Bool.false_eq_true, reduceIte, Bool.not_true, Bool.not_false, List.length_cons, List.length_nil, Nat.reduceAdd, Nat.zero_add, line16, Nat.reduceLeDiff, Int.reduceEq, Int.reduceLT, Int.reduceLE, Int.reduceNeg, or_true, true_or, or_self, or_false, false_or, true_and, and_true, and_self, List.cons_append, List.nil_append, List.append_nil, forall_const, ↓r_takes hM1, sp_takes, l_cl]
  refine ⟨a, pre ++ [40], tPs ps ++ 41 :: rest, [41], rfl, by simp, by simp only [List.length_append, List.length_cons, List.length_nil]; omega, hM1, ?_⟩
  cases ps with
  | nil =>
    simp only [tPs, List.nil_append, show List.isPrefixOf [41] (41 :: rest) = true by simp [List.isPrefixOf], ↓x_seq, ↓x_next, ↓x_ret, ↓x_retN, ↓x_drop, ↓x_if, ↓x_asg, ↓x_false, ↓x_brk, ↓x_cnt, ↓x_g0, ↓x_v0, ↓x_g1, ↓x_v1, ↓x_g2, ↓x_v2, ↓x_g3, ↓x_v3, ↓x_g4, ↓x_v4, ↓x_g5, ↓x_v5, ↓x_g6, ↓x_v6, ↓x_g7, ↓x_v7, ↓x_g8, ↓x_v8, ↓x_g9, ↓x_v9, ↓x_g10, ↓x_v10, ↓x_g11, ↓x_v11, ↓x_g12, ↓x_v12, ↓x_g13, ↓x_v13, ↓x_g14, ↓x_v14, ↓x_g15, ↓x_v15, ↓x_g16, ↓x_v16, ↓x_g17, ↓x_v17, ↓x_g18, ↓x_v18, ↓x_g19, ↓x_v19, ↓x_gt2, ↓x_gt3, ↓x_gt4, ↓x_gt5, ↓x_gt6, ↓x_gc, ↓x_gn, ↓x_par2, ↓x_p2, ↓x_par3, ↓x_p3, ↓x_C, ↓x_op, ↓x_test, ↓x_chain, ↓x_andT, ↓x_orT, ↓x_notT, ↓x_ifE, ↓x_andV, ↓x_orV, ↓x_notV, ↓x_nil, ↓x_cons, ↓x_star, ↓x_tup, ↓x_lst, ↓x_callB, ↓x_call, ↓x_callK, ↓x_meth, ↓x_make, ↓x_fld, ↓x_fldS, ↓x_bm0, ↓x_bm, ↓x_sl, ↓x_nop, ↓x_prt, ↓x_neg, ↓x_revL, ↓x_lc, ↓x_for, ↓x_diSeq, ↓x_diEnum, ↓x_rng1, ↓y_addi, ↓y_adds, ↓y_addt, ↓y_int, ↓y_intC, ↓y_is, ↓y_isn, ↓y_nnon, ↓y_nbl, ↓y_nint, ↓y_nstr, ↓y_ntup, ↓y_nref, ↓y_t0, ↓y_t1, ↓y_t2, ↓y_t3, ↓y_m2, ↓y_m3, ↓y_len0, ↓y_len1, ↓y_len2, ↓y_len3, ↓y_len, ↓y_lenS, ↓y_itt, ↓y_iss, ↓y_iii, ↓y_iib, ↓y_i1, ↓y_i1b, ↓y_abs, ↓y_strI, ↓y_slt, ↓y_sls, ↓y_tys, ↓bIn_2, ↓bNotIn_2, ↓bEq_int, ↓bNe_int, wipeD, List.map_cons, List.map_nil, List.set_cons_zero, List.set_cons_succ, Option.some.injEq, exists_and_left, exists_eq_left', exists_eq_left, decide_true, decide_false, Bool.false_eq_true, reduceIte, Bool.not_true, Bool.not_false, List.length_cons, List.length_nil, Nat.reduceAdd, Nat.zero_add, line16, Nat.reduceLeDiff, Int.reduceEq, Int.reduceLT, Int.reduceLE, Int.reduceNeg, or_true, true_or, or_self, or_false, false_or, true_and, and_true, and_self, List.cons_append, List.nil_append, List.append_nil, forall_const]
    simp only [bNe_nn, ↓x_seq, ↓x_next, ↓x_ret, ↓x_retN, ↓x_drop, ↓x_if, ↓x_asg, ↓x_false, ↓x_brk, ↓x_cnt, ↓x_g0, ↓x_v0, ↓x_g1, ↓x_v1, ↓x_g2, ↓x_v2, ↓x_g3, ↓x_v3, ↓x_g4, ↓x_v4, ↓x_g5, ↓x_v5, ↓x_g6, ↓x_v6, ↓x_g7, ↓x_v7, ↓x_g8, ↓x_v8, ↓x_g9, ↓x_v9, ↓x_g10, ↓x_v10, ↓x_g11, ↓x_v11, ↓x_g12, ↓x_v12, ↓x_g13, ↓x_v13, ↓x_g14, ↓x_v14, ↓x_g15, ↓x_v15, ↓x_g16, ↓x_v16, ↓x_g17, ↓x_v17, ↓x_g18, ↓x_v18, ↓x_g19, ↓x_v19, ↓x_gt2, ↓x_gt3, ↓x_gt4, ↓x_gt5, ↓x_gt6, ↓x_gc, ↓x_gn, ↓x_par2, ↓x_p2, ↓x_par3, ↓x_p3, ↓x_C, ↓x_op, ↓x_test, ↓x_chain, ↓x_andT, ↓x_orT, ↓x_notT, ↓x_ifE, ↓x_andV, ↓x_orV, ↓x_notV, ↓x_nil, ↓x_cons, ↓x_star, ↓x_tup, ↓x_lst, ↓x_callB, ↓x_call, ↓x_callK, ↓x_meth, ↓x_make, ↓x_fld, ↓x_fldS, ↓x_bm0, ↓x_bm, ↓x_sl, ↓x_nop, ↓x_prt, ↓x_neg, ↓x_revL, ↓x_lc, ↓x_for, ↓x_diSeq, ↓x_diEnum, ↓x_rng1, ↓y_addi, ↓y_adds, ↓y_addt, ↓y_int, ↓y_intC, ↓y_is, ↓y_isn, ↓y_nnon, ↓y_nbl, ↓y_nint, ↓y_nstr, ↓y_ntup, ↓y_nref, ↓y_t0, ↓y_t1, ↓y_t2, ↓y_t3, ↓y_m2, ↓y_m3, ↓y_len0, ↓y_len1, ↓y_len2, ↓y_len3, ↓y_len, ↓y_lenS, ↓y_itt, ↓y_iss, ↓y_iii, ↓y_iib, ↓y_i1, ↓y_i1b, ↓y_abs, ↓y_strI, ↓y_slt, ↓y_sls, ↓y_tys, ↓bIn_2, ↓bNotIn_2, ↓bEq_int, ↓bNe_int, wipeD, List.map_cons, List.map_nil, List.set_cons_zero, List.set_cons_succ, Option.some.injEq, exists_and_left, exists_eq_left', exists_eq_left, decide_true, decide_false, Bool.false_eq_true, reduceIte, Bool.not_true, Bool.not_false, List.length_cons, List.length_nil, Nat.reduceAdd, Nat.zero_add, line16, Nat.reduceLeDiff, Int.reduceEq, Int.reduceLT, Int.reduceLE, Int.reduceNeg, or_true, true_or, or_self, or_false, false_or, true_and, and_true, and_self, List.cons_append, List.nil_append, List.append_nil, forall_const]
    rw [put_put, RS_eq (t' := pre ++ (tB [] ++ rest)) (n' := pre.length + (tB []).length) (by simp [tB, tPs]) (by simp [tB, tPs])]
    simpa [pDs] using Fg.now q
  | cons p ps =>
    simp only [pf_cl_no, ↓x_seq, ↓x_next, ↓x_ret, ↓x_retN, ↓x_drop, ↓x_if, ↓x_asg, ↓x_false, ↓x_brk, ↓x_cnt, ↓x_g0, ↓x_v0, ↓x_g1, ↓x_v1, ↓x_g2, ↓x_v2, ↓x_g3, ↓x_v3, ↓x_g4, ↓x_v4, ↓x_g5, ↓x_v5, ↓x_g6, ↓x_v6, ↓x_g7, ↓x_v7, ↓x_g8, ↓x_v8, ↓x_g9, ↓x_v9, ↓x_g10, ↓x_v10, ↓x_g11, ↓x_v11, ↓x_g12, ↓x_v12, ↓x_g13, ↓x_v13, ↓x_g14, ↓x_v14, ↓x_g15, ↓x_v15, ↓x_g16, ↓x_v16, ↓x_g17, ↓x_v17, ↓x_g18, ↓x_v18, ↓x_g19, ↓x_v19, ↓x_gt2, ↓x_gt3, ↓x_gt4, ↓x_gt5, ↓x_gt6, ↓x_gc, ↓x_gn, ↓x_par2, ↓x_p2, ↓x_par3, ↓x_p3, ↓x_C, ↓x_op, ↓x_test, ↓x_chain, ↓x_andT, ↓x_orT, ↓x_notT, ↓x_ifE, ↓x_andV, ↓x_orV, ↓x_notV, ↓x_nil, ↓x_cons, ↓x_star, ↓x_tup, ↓x_lst, ↓x_callB, ↓x_call, ↓x_callK, ↓x_meth, ↓x_make, ↓x_fld, ↓x_fldS, ↓x_bm0, ↓x_bm, ↓x_sl, ↓x_nop, ↓x_prt, ↓x_neg, ↓x_revL, ↓x_lc, ↓x_for, ↓x_diSeq, ↓x_diEnum, ↓x_rng1, ↓y_addi, ↓y_adds, ↓y_addt, ↓y_int, ↓y_intC, ↓y_is, ↓y_isn, ↓y_nnon, ↓y_nbl, ↓y_nint, ↓y_nstr, ↓y_ntup, ↓y_nref, ↓y_t0, ↓y_t1, ↓y_t2, ↓y_t3, ↓y_m2, ↓y_m3, ↓y_len0, ↓y_len1, ↓y_len2, ↓y_len3, ↓y_len, ↓y_lenS, ↓y_itt, ↓y_iss, ↓y_iii, ↓y_iib, ↓y_i1, ↓y_i1b, ↓y_abs, ↓y_strI, ↓y_slt, ↓y_sls, ↓y_tys, ↓bIn_2, ↓bNotIn_2, ↓bEq_int, ↓bNe_int, wipeD, List.map_cons, List.map_nil, List.set_cons_zero, List.set_cons_succ, Option.some.injEq, exists_and_left, exists_eq_left', exists_eq_left, decide_true, decide_false, Bool.false_eq_true, reduceIte, Bool.not_true, Bool.not_false, List.length_cons, List.length_nil, Nat.reduceAdd, Nat.zero_add, line16, Nat.reduceLeDiff, Int.reduceEq, Int.reduceLT, Int.reduceLE, Int.reduceNeg, or_true, true_or, or_self, or_false, false_or, true_and, and_true, and_self, List.cons_append, List.nil_append, List.append_nil, forall_const, ↓r_parts hM1, sp_pa]
    refine ⟨a, pre ++ [40], 41 :: rest, p :: ps, rooms, deep, rfl, hok, hck, hc, hn, by simp only [List.length_append, List.length_cons, List.length_nil]; omega, by simp, ge_close _, hM1, ?_⟩
    simp only [put_put, ↓x_seq, ↓x_next, ↓x_ret, ↓x_retN, ↓x_drop, ↓x_if, ↓x_asg, ↓x_false, ↓x_brk, ↓x_cnt, ↓x_g0, ↓x_v0, ↓x_g1, ↓x_v1, ↓x_g2, ↓x_v2, ↓x_g3, ↓x_v3, ↓x_g4, ↓x_v4, ↓x_g5, ↓x_v5, ↓x_g6, ↓x_v6, ↓x_g7, ↓x_v7, ↓x_g8, ↓x_v8, ↓x_g9, ↓x_v9, ↓x_g10, ↓x_v10, ↓x_g11, ↓x_v11, ↓x_g12, ↓x_v12, ↓x_g13, ↓x_v13, ↓x_g14, ↓x_v14, ↓x_g15, ↓x_v15, ↓x_g16, ↓x_v16, ↓x_g17, ↓x_v17, ↓x_g18, ↓x_v18, ↓x_g19, ↓x_v19, ↓x_gt2, ↓x_gt3, ↓x_gt4, ↓x_gt5, ↓x_gt6, ↓x_gc, ↓x_gn, ↓x_par2, ↓x_p2, ↓x_par3, ↓x_p3, ↓x_C, ↓x_op, ↓x_test, ↓x_chain, ↓x_andT, ↓x_orT, ↓x_notT, ↓x_ifE, ↓x_andV, ↓x_orV, ↓x_notV, ↓x_nil, ↓x_cons, ↓x_star, ↓x_tup, ↓x_lst, ↓x_callB, ↓x_call, ↓x_callK, ↓x_meth, ↓x_make, ↓x_fld, ↓x_fldS, ↓x_bm0, ↓x_bm, ↓x_sl, ↓x_nop, ↓x_prt, ↓x_neg, ↓x_revL, ↓x_lc, ↓x_for, ↓x_diSeq, ↓x_diEnum, ↓x_rng1, ↓y_addi, ↓y_adds, ↓y_addt, ↓y_int, ↓y_intC, ↓y_is, ↓y_isn, ↓y_nnon, ↓y_nbl, ↓y_nint, ↓y_nstr, ↓y_ntup, ↓y_nref, ↓y_t0, ↓y_t1, ↓y_t2, ↓y_t3, ↓y_m2, ↓y_m3, ↓y_len0, ↓y_len1, ↓y_len2, ↓y_len3, ↓y_len, ↓y_lenS, ↓y_itt, ↓y_iss, ↓y_iii, ↓y_iib, ↓y_i1, ↓y_i1b, ↓y_abs, ↓y_strI, ↓y_slt, ↓y_sls, ↓y_tys, ↓bIn_2, ↓bNotIn_2, ↓bEq_int, ↓bNe_int, wipeD, List.map_cons, List.map_nil, List.set_cons_zero, List.set_cons_succ, Option.some.injEq, exists_and_left, exists_eq_left', exists_eq_left, decide_true, decide_false, Bool.false_eq_true, reduceIte, Bool.not_true, Bool.not_false, List.length_cons, List.length_nil, Nat.reduceAdd, Nat.zero_add, line16, Nat.reduceLeDiff, Int.reduceEq, Int.reduceLT, Int.reduceLE, Int.reduceNeg, or_true, true_or, or_self, or_false, false_or, true_and, and_true, and_self, List.cons_append, List.nil_append, List.append_nil, forall_const, ↓bNe_pnil (show cPs (p :: ps) ≤ 20 by omega), List.isEmpty_cons]
    have hM2 : put M a (RS T.C_ProgramReader ((pre ++ [40]) ++ (tPs (p :: ps) ++ 41 :: rest)) ((pre ++ [40]).length + (tPs (p :: ps)).length)) a = some (RS T.C_ProgramReader ((pre ++ 40 :: tPs (p :: ps)) ++ (41 :: rest)) (pre ++ 40 :: tPs (p :: ps)).length) := by
      rw [put_same]; exact congrArg some (RS_eq (by simp) (by simp; omega))
    simp only [List.append_assoc, List.cons_append, List.nil_append] at hM2 ⊢
    simp only [↓x_seq, ↓x_next, ↓x_ret, ↓x_retN, ↓x_drop, ↓x_if, ↓x_asg, ↓x_false, ↓x_brk, ↓x_cnt, ↓x_g0, ↓x_v0, ↓x_g1, ↓x_v1, ↓x_g2, ↓x_v2, ↓x_g3, ↓x_v3, ↓x_g4, ↓x_v4, ↓x_g5, ↓x_v5, ↓x_g6, ↓x_v6, ↓x_g7, ↓x_v7, ↓x_g8, ↓x_v8, ↓x_g9, ↓x_v9, ↓x_g10, ↓x_v10, ↓x_g11, ↓x_v11, ↓x_g12, ↓x_v12, ↓x_g13, ↓x_v13, ↓x_g14, ↓x_v14, ↓x_g15, ↓x_v15, ↓x_g16, ↓x_v16, ↓x_g17, ↓x_v17, ↓x_g18, ↓x_v18, ↓x_g19, ↓x_v19, ↓x_gt2, ↓x_gt3, ↓x_gt4, ↓x_gt5, ↓x_gt6, ↓x_gc, ↓x_gn, ↓x_par2, ↓x_p2, ↓x_par3, ↓x_p3, ↓x_C, ↓x_op, ↓x_test, ↓x_chain, ↓x_andT, ↓x_orT, ↓x_notT, ↓x_ifE, ↓x_andV, ↓x_orV, ↓x_notV, ↓x_nil, ↓x_cons, ↓x_star, ↓x_tup, ↓x_lst, ↓x_callB, ↓x_call, ↓x_callK, ↓x_meth, ↓x_make, ↓x_fld, ↓x_fldS, ↓x_bm0, ↓x_bm, ↓x_sl, ↓x_nop, ↓x_prt, ↓x_neg, ↓x_revL, ↓x_lc, ↓x_for, ↓x_diSeq, ↓x_diEnum, ↓x_rng1, ↓y_addi, ↓y_adds, ↓y_addt, ↓y_int, ↓y_intC, ↓y_is, ↓y_isn, ↓y_nnon, ↓y_nbl, ↓y_nint, ↓y_nstr, ↓y_ntup, ↓y_nref, ↓y_t0, ↓y_t1, ↓y_t2, ↓y_t3, ↓y_m2, ↓y_m3, ↓y_len0, ↓y_len1, ↓y_len2, ↓y_len3, ↓y_len, ↓y_lenS, ↓y_itt, ↓y_iss, ↓y_iii, ↓y_iib, ↓y_i1, ↓y_i1b, ↓y_abs, ↓y_strI, ↓y_slt, ↓y_sls, ↓y_tys, ↓bIn_2, ↓bNotIn_2, ↓bEq_int, ↓bNe_int, wipeD, List.map_cons, List.map_nil, List.set_cons_zero, List.set_cons_succ, Option.some.injEq, exists_and_left, exists_eq_left', exists_eq_left, decide_true, decide_false, Bool.false_eq_true, reduceIte, Bool.not_true, Bool.not_false, List.length_cons, List.length_nil, Nat.reduceAdd, Nat.zero_add, line16, Nat.reduceLeDiff, Int.reduceEq, Int.reduceLT, Int.reduceLE, Int.reduceNeg, or_true, true_or, or_self, or_false, false_or, true_and, and_true, and_self, List.cons_append, List.nil_append, List.append_nil, forall_const, ↓r_need hM2, sp_need]
    refine ⟨a, pre ++ 40 :: tPs (p :: ps), 41 :: rest, [41], rfl, by simp, by simp only [List.length_append, List.length_cons]; omega, ?_, by simp [List.isPrefixOf], ?_⟩
    · rw [put_same]; exact congrArg some (RS_eq (by simp) (by simp; omega))
    · simp only [↓x_seq, ↓x_next, ↓x_ret, ↓x_retN, ↓x_drop, ↓x_if, ↓x_asg, ↓x_false, ↓x_brk, ↓x_cnt, ↓x_g0, ↓x_v0, ↓x_g1, ↓x_v1, ↓x_g2, ↓x_v2, ↓x_g3, ↓x_v3, ↓x_g4, ↓x_v4, ↓x_g5, ↓x_v5, ↓x_g6, ↓x_v6, ↓x_g7, ↓x_v7, ↓x_g8, ↓x_v8, ↓x_g9, ↓x_v9, ↓x_g10, ↓x_v10, ↓x_g11, ↓x_v11, ↓x_g12, ↓x_v12, ↓x_g13, ↓x_v13, ↓x_g14, ↓x_v14, ↓x_g15, ↓x_v15, ↓x_g16, ↓x_v16, ↓x_g17, ↓x_v17, ↓x_g18, ↓x_v18, ↓x_g19, ↓x_v19, ↓x_gt2, ↓x_gt3, ↓x_gt4, ↓x_gt5, ↓x_gt6, ↓x_gc, ↓x_gn, ↓x_par2, ↓x_p2, ↓x_par3, ↓x_p3, ↓x_C, ↓x_op, ↓x_test, ↓x_chain, ↓x_andT, ↓x_orT, ↓x_notT, ↓x_ifE, ↓x_andV, ↓x_orV, ↓x_notV, ↓x_nil, ↓x_cons, ↓x_star, ↓x_tup, ↓x_lst, ↓x_callB, ↓x_call, ↓x_callK, ↓x_meth, ↓x_make, ↓x_fld, ↓x_fldS, ↓x_bm0, ↓x_bm, ↓x_sl, ↓x_nop, ↓x_prt, ↓x_neg, ↓x_revL, ↓x_lc, ↓x_for, ↓x_diSeq, ↓x_diEnum, ↓x_rng1, ↓y_addi, ↓y_adds, ↓y_addt, ↓y_int, ↓y_intC, ↓y_is, ↓y_isn, ↓y_nnon, ↓y_nbl, ↓y_nint, ↓y_nstr, ↓y_ntup, ↓y_nref, ↓y_t0, ↓y_t1, ↓y_t2, ↓y_t3, ↓y_m2, ↓y_m3, ↓y_len0, ↓y_len1, ↓y_len2, ↓y_len3, ↓y_len, ↓y_lenS, ↓y_itt, ↓y_iss, ↓y_iii, ↓y_iib, ↓y_i1, ↓y_i1b, ↓y_abs, ↓y_strI, ↓y_slt, ↓y_sls, ↓y_tys, ↓bIn_2, ↓bNotIn_2, ↓bEq_int, ↓bNe_int, wipeD, List.map_cons, List.map_nil, List.set_cons_zero, List.set_cons_succ, Option.some.injEq, exists_and_left, exists_eq_left', exists_eq_left, decide_true, decide_false, Bool.false_eq_true, reduceIte, Bool.not_true, Bool.not_false, List.length_cons, List.length_nil, Nat.reduceAdd, Nat.zero_add, line16, Nat.reduceLeDiff, Int.reduceEq, Int.reduceLT, Int.reduceLE, Int.reduceNeg, or_true, true_or, or_self, or_false, false_or, true_and, and_true, and_self, List.cons_append, List.nil_append, List.append_nil, forall_const, put_put]
      rw [RS_eq (t' := pre ++ (tB (p :: ps) ++ rest)) (n' := pre.length + (tB (p :: ps)).length) (by simp [tB]) (by simp [tB]; omega)]
      exact Fg.now q
end
end K76
namespace K76
open PySem PySem.Spec PyProof.Rows L2 DL
/-- all but a stays -/
def SubX (a : Addr) (M M' : Mp) : Prop := ∀ b o, b ≠ a → M b = some o → M' b = some o
theorem SubX.refl {a : Addr} {M : Mp} : SubX a M M := fun _ _ _ h => h
theorem SubX.fin {a : Addr} {M M' : Mp} {o : MO} (s : SubX a M M') (h : M' a = some o) : Sub (put M a o) M' := fun b o' e => by
  by_cases z : b = a
  · subst z; rw [put_same] at e; cases e; exact h
  · rw [put_ne z] at e; exact s b o' z e
theorem SubX.put {a : Addr} {M M' : Mp} {o : MO} (s : SubX a M M') : SubX a M (put M' a o) := fun b o' z e => (put_ne z).trans (s b o' z e)
theorem SubX.new {a c : Addr} {M M' : Mp} {o : MO} (s : SubX a M M') (h : M c = none) : SubX a M (DL.put M' c o) := fun b o' z e => by
  have : b ≠ c := fun z2 => by rw [z2, h] at e; cases e
  exact (put_ne this).trans (s b o' z e)
theorem tR_app (a b : List Part) : tR (a ++ b) = tR a ++ tR b := by simp [tR]
theorem tRL_app (a b : List (List Part)) : tRL (a ++ b) = tRL a ++ tRL b := by simp [tRL]
theorem tPs_app {a : List Part} (h : a ≠ []) (b : List Part) : tPs (a ++ b) = tPs a ++ tR b := by
  cases a with
  | nil => exact absurd rfl h
  | cons p ps => rw [List.cons_append, tPs_tR, tPs_tR, tR_app, List.append_assoc]
theorem tLs_app {a : List (List Part)} (h : a ≠ []) (b : List (List Part)) : tLs (a ++ b) = tLs a ++ tRL b := by
  cases a with
  | nil => exact absurd rfl h
  | cons p ps => rw [List.cons_append, tLs_tRL, tLs_tRL, tRL_app, List.append_assoc]
def paI (C a c : Addr) (deep : Nat) (M : Mp) (pre rest : List Nat) (ps : List Part) : Nat → Sg → Mp → Prop := fun m σ M' => ∃ (dn rm : List Part), ps = dn ++ rm ∧ dn ≠ [] ∧ σ = [some (.ref a), some (.int ((deep : Nat) : Int)), some (.ref c)] ∧ SubX a M M' ∧ M' a = some (RS C ((pre ++ tPs dn) ++ (tR rm ++ rest)) (pre ++ tPs dn).length) ∧ M' c = some (.lst (dn.map pD)) ∧ m = rm.length
section
variable {P : Program} {w : World} {K : PySem.W.Frag} {mg : Str → Option Value} {base : Heap}
theorem n_parts (T : Tx K mg) (n : Nat) (hp : DFn P w K mg base CX0 (3 * n + 2) T.f_ProgramReader_one_part T.d_ProgramReader_one_part ["self", "deep"] (sp_on T.C_ProgramReader n)) : DFn P w K mg base CX0 (3 * n + 2 + 1) T.f_ProgramReader_parts T.d_ProgramReader_parts ["self", "deep"] (sp_pa T.C_ProgramReader n) := by
  refine dfn_of (N := N_ProgramReader_parts) T.F_ProgramReader_parts sc_ProgramReader_parts (by decide) (fun ds M Q E h => ?_) (fun cdv A outer s H hr hgd => (dss_cons (ds_set (i := 2) sc_ProgramReader_parts.nd rfl (Or.inl rfl) (de_lst (da_cons (de_meth (de_var 0) T.cl_ProgramReader T.m_ProgramReader_one_part hp (hr.mono (by omega)) hgd T.b_ProgramReader_one_part dpass0 (da_cons (de_var 1) da_nil)) da_nil))) (dss_cons (ds_while PassesOwn.never (dt_val (de_meth (de_var 0) T.cl_ProgramReader T.m_ProgramReader_takes (ok_ProgramReader_takes T) (hr.mono (by omega)) hgd T.b_ProgramReader_takes dpass0 (da_cons de_str da_nil))) (dss_one (ds_expr (de_bm PySem.F.plainAttrs_list PySem.F.slot_list_append PySem.F.type_list_append mt_append tr_append (de_var 2) (da_cons (de_meth (de_var 0) T.cl_ProgramReader T.m_ProgramReader_one_part hp (hr.mono (by omega)) hgd T.b_ProgramReader_one_part dpass0 (da_cons (de_var 1) da_nil)) da_nil))))) (dss_one (ds_ret (de_callTy call_tuple_of tr_tuple rfl T.n_tuple bt_tuple (da_cons (de_var 2) da_nil))))))) ?_
  · obtain ⟨_, _, _, _, _, _, rfl, _⟩ := h; rfl
  rintro ds M Q E ⟨a, pre, rest, ps, rooms, deep, rfl, hok, hck, hc, hn, hb, hne, hge, hM, q⟩
  rw [st_ProgramReader_parts]
  have hokm := (okPs_iff ps).mp hok
  have hckm := (ckPs_iff rooms deep ps).mp hck
  have hll := len_cPs ps
  cases ps with
  | nil => exact absurd rfl hne
  | cons p0 ps0 =>
    have ht0 := tPs_tR p0 ps0
    have hlen0 : (tPs (p0 :: ps0)).length = (tP p0).length + (tR ps0).length := by rw [ht0, List.length_append]
    have hM1 : M a = some (RS T.C_ProgramReader (pre ++ (tP p0 ++ (tR ps0 ++ rest))) pre.length) := by rw [hM]; exact congrArg some (RS_eq (by rw [ht0]; simp) rfl)
    simp only [↓x_seq, ↓x_next, ↓x_ret, ↓x_retN, ↓x_drop, ↓x_if, ↓x_asg, ↓x_false, ↓x_brk, ↓x_cnt, ↓x_g0, ↓x_v0, ↓x_g1, ↓x_v1, ↓x_g2, ↓x_v2, ↓x_g3, ↓x_v3, ↓x_g4, ↓x_v4, ↓x_g5, ↓x_v5, ↓x_g6, ↓x_v6, ↓x_g7, ↓x_v7, ↓x_g8, ↓x_v8, ↓x_g9, ↓x_v9, ↓x_g10, ↓x_v10, ↓x_g11, ↓x_v11, ↓x_g12, ↓x_v12, ↓x_g13, ↓x_v13, ↓x_g14, ↓x_v14, ↓x_g15, ↓x_v15, ↓x_g16, ↓x_v16, ↓x_g17, ↓x_v17, ↓x_g18, ↓x_v18, ↓x_g19, ↓x_v19, ↓x_gt2, ↓x_gt3, ↓x_gt4, ↓x_gt5, ↓x_gt6, ↓x_gc, ↓x_gn, ↓x_par2, ↓x_p2, ↓x_par3, ↓x_p3, ↓x_C, ↓x_op, ↓x_test, ↓x_chain, ↓x_andT, ↓x_orT, ↓x_notT, ↓x_ifE, ↓x_andV, ↓x_orV, ↓x_notV, ↓x_nil, ↓x_cons, ↓x_star, ↓x_tup, ↓x_lst, ↓x_callB, ↓x_call, ↓x_callK, ↓x_meth, ↓x_make, ↓x_fld, ↓x_fldS, ↓x_bm0, ↓x_bm, ↓x_sl, ↓x_nop, ↓x_prt, ↓x_neg, ↓x_revL, ↓x_lc, ↓x_for, ↓x_diSeq, ↓x_diEnum, ↓x_rng1, ↓y_addi, ↓y_adds, ↓y_addt, ↓y_int, ↓y_intC, ↓y_is, ↓y_isn, ↓y_nnon, ↓y_nbl, ↓y_nint, ↓y_nstr, ↓y_ntup, ↓y_nref, ↓y_t0, ↓y_t1, ↓y_t2, ↓y_t3, ↓y_m2, ↓y_m3, ↓y_len0, ↓y_len1, ↓y_len2, ↓y_len3, ↓y_len, ↓y_lenS, ↓y_itt, ↓y_iss, ↓y_iii, ↓y_iib, ↓y_i1, ↓y_i1b, ↓y_abs, ↓y_strI, ↓y_slt, ↓y_sls, ↓y_tys, ↓bIn_2, ↓bNotIn_2, ↓bEq_int, ↓bNe_int, wipeD, List.map_cons, List.map_nil, List.set_cons_zero, List.set_cons_succ, Option.some.injEq, exists_and_left, exists_eq_left', exists_eq_left, decide_true, decide_false, Bool.false_eq_true, reduceIte, Bool.not_true, Bool.not_false, List.length_cons, List.length_nil, Nat.reduceAdd, Nat.zero_add, line16, Nat.reduceLeDiff, Int.reduceEq, Int.reduceLT, Int.reduceLE, Int.reduceNeg, or_true, true_or, or_self, or_false, false_or, true_and, and_true, and_self, List.cons_append, List.nil_append, List.append_nil, forall_const, ↓r_one hM, sp_on]
    refine ⟨a, pre, tR ps0 ++ rest, p0, rooms, deep, rfl, hokm _ List.mem_cons_self, hckm _ List.mem_cons_self, Nat.le_trans (cPs_mem List.mem_cons_self) hc, hn, by simp only [List.length_append]; omega, tR_gd ps0 hge, hM1, ?_⟩
    intro c hc0
    have hca : a ≠ c := ne_of put_same hc0
    have hMc : M c = none := by rwa [put_ne (Ne.symm hca)] at hc0
    refine ⟨paI T.C_ProgramReader a c deep M pre rest (p0 :: ps0), ?_, ?_⟩
    · refine ⟨_, [p0], ps0, rfl, by simp, rfl, ((SubX.refl.put).new hMc), ?_, put_same, rfl⟩
      rw [put_ne hca, put_same]
      exact congrArg some (RS_eq (by simp [tPs]) (by simp [tPs]))
    · rintro m σ M' ⟨dn, rm, hps, hdn, rfl, hS, hMa, hMc', rfl⟩
      have hsp : tPs (p0 :: ps0) = tPs dn ++ tR rm := by rw [hps]; exact tPs_app hdn rm
      have hln : (tPs (p0 :: ps0)).length = (tPs dn).length + (tR rm).length := by rw [hsp, List.length_append]
      simp only [↓x_seq, ↓x_next, ↓x_ret, ↓x_retN, ↓x_drop, ↓x_if, ↓x_asg, ↓x_false, ↓x_brk, ↓x_cnt, ↓x_g0, ↓x_v0, ↓x_g1, ↓x_v1, ↓x_g2, ↓x_v2, ↓x_g3, ↓x_v3, ↓x_g4, ↓x_v4, ↓x_g5, ↓x_v5, ↓x_g6, ↓x_v6, ↓x_g7, ↓x_v7, ↓x_g8, ↓x_v8, ↓x_g9, ↓x_v9, ↓x_g10, ↓x_v10, ↓x_g11, ↓x_v11, ↓x_g12, ↓x_v12, ↓x_g13, ↓x_v13, ↓x_g14, ↓x_v14, ↓x_g15, ↓x_v15, ↓x_g16, ↓x_v16, ↓x_g17, ↓x_v17, ↓x_g18, ↓x_v18, ↓x_g19, ↓x_v19, ↓x_gt2, ↓x_gt3, ↓x_gt4, ↓x_gt5, ↓x_gt6, ↓x_gc, ↓x_gn, ↓x_par2, ↓x_p2, ↓x_par3, ↓x_p3, ↓x_C, ↓x_op, ↓x_test, ↓x_chain, ↓x_andT, ↓x_orT, ↓x_notT, ↓x_ifE, ↓x_andV, ↓x_orV, ↓x_notV, ↓x_nil, ↓x_cons, ↓x_star, ↓x_tup, ↓x_lst, ↓x_callB, ↓x_call, ↓x_callK, ↓x_meth, ↓x_make, ↓x_fld, ↓x_fldS, ↓x_bm0, ↓x_bm, ↓x_sl, ↓x_nop, ↓x_prt, ↓x_neg, ↓x_revL, ↓x_lc, ↓x_for, ↓x_diSeq, ↓x_diEnum, ↓x_rng1, ↓y_addi, ↓y_adds, ↓y_addt, ↓y_int, ↓y_intC, ↓y_is, ↓y_isn, ↓y_nnon, ↓y_nbl, ↓y_nint, ↓y_nstr, ↓y_ntup, ↓y_nref, ↓y_t0, ↓y_t1, ↓y_t2, ↓y_t3, ↓y_m2, ↓y_m3, ↓y_len0, ↓y_len1, ↓y_len2, ↓y_len3, ↓y_len, ↓y_lenS, ↓y_itt, ↓y_iss, ↓y_iii, ↓y_iib, ↓y_i1, ↓y_i1b, ↓y_abs, ↓y_strI, ↓y_slt, ↓y_sls, ↓y_tys, ↓bIn_2, ↓bNotIn_2, ↓bEq_int, ↓bNe_int, wipeD, List.map_cons, List.map_nil, List.set_cons_zero, List.set_cons_succ, Option.some.injEq, exists_and_left, exists_eq_left', exists_eq_left, decide_true, decide_false, Bool.false_eq_true, reduceIte, Bool.not_true, Bool.not_false, List.length_cons, List.length_nil, Nat.reduceAdd, Nat.zero_add, line16, Nat.reduceLeDiff, Int.reduceEq, Int.reduceLT, Int.reduceLE, Int.reduceNeg, or_true, true_or, or_self, or_false, false_or, true_and, and_true, and_self, List.cons_append, List.nil_append, List.append_nil, forall_const, ↓r_takes hMa, sp_takes, l_se]
      refine ⟨a, pre ++ tPs dn, tR rm ++ rest, [59, 32], rfl, by simp, by simp only [List.length_append]; omega, hMa, ?_⟩
      cases rm with
      | nil =>
        simp only [tR, List.map_nil, List.flatten_nil, List.nil_append, pf_semi_no hge, ↓x_seq, ↓x_next, ↓x_ret, ↓x_retN, ↓x_drop, ↓x_if, ↓x_asg, ↓x_false, ↓x_brk, ↓x_cnt, ↓x_g0, ↓x_v0, ↓x_g1, ↓x_v1, ↓x_g2, ↓x_v2, ↓x_g3, ↓x_v3, ↓x_g4, ↓x_v4, ↓x_g5, ↓x_v5, ↓x_g6, ↓x_v6, ↓x_g7, ↓x_v7, ↓x_g8, ↓x_v8, ↓x_g9, ↓x_v9, ↓x_g10, ↓x_v10, ↓x_g11, ↓x_v11, ↓x_g12, ↓x_v12, ↓x_g13, ↓x_v13, ↓x_g14, ↓x_v14, ↓x_g15, ↓x_v15, ↓x_g16, ↓x_v16, ↓x_g17, ↓x_v17, ↓x_g18, ↓x_v18, ↓x_g19, ↓x_v19, ↓x_gt2, ↓x_gt3, ↓x_gt4, ↓x_gt5, ↓x_gt6, ↓x_gc, ↓x_gn, ↓x_par2, ↓x_p2, ↓x_par3, ↓x_p3, ↓x_C, ↓x_op, ↓x_test, ↓x_chain, ↓x_andT, ↓x_orT, ↓x_notT, ↓x_ifE, ↓x_andV, ↓x_orV, ↓x_notV, ↓x_nil, ↓x_cons, ↓x_star, ↓x_tup, ↓x_lst, ↓x_callB, ↓x_call, ↓x_callK, ↓x_meth, ↓x_make, ↓x_fld, ↓x_fldS, ↓x_bm0, ↓x_bm, ↓x_sl, ↓x_nop, ↓x_prt, ↓x_neg, ↓x_revL, ↓x_lc, ↓x_for, ↓x_diSeq, ↓x_diEnum, ↓x_rng1, ↓y_addi, ↓y_adds, ↓y_addt, ↓y_int, ↓y_intC, ↓y_is, ↓y_isn, ↓y_nnon, ↓y_nbl, ↓y_nint, ↓y_nstr, ↓y_ntup, ↓y_nref, ↓y_t0, ↓y_t1, ↓y_t2, ↓y_t3, ↓y_m2, ↓y_m3, ↓y_len0, ↓y_len1, ↓y_len2, ↓y_len3, ↓y_len, ↓y_lenS, ↓y_itt, ↓y_iss, ↓y_iii, ↓y_iib, ↓y_i1, ↓y_i1b, ↓y_abs, ↓y_strI, ↓y_slt, ↓y_sls, ↓y_tys, ↓bIn_2, ↓bNotIn_2, ↓bEq_int, ↓bNe_int, wipeD, List.map_cons, List.map_nil, List.set_cons_zero, List.set_cons_succ, Option.some.injEq, exists_and_left, exists_eq_left', exists_eq_left, decide_true, decide_false, Bool.false_eq_true, reduceIte, Bool.not_true, Bool.not_false, List.length_cons, List.length_nil, Nat.reduceAdd, Nat.zero_add, line16, Nat.reduceLeDiff, Int.reduceEq, Int.reduceLT, Int.reduceLE, Int.reduceNeg, or_true, true_or, or_self, or_false, false_or, true_and, and_true, and_self, List.cons_append, List.nil_append, List.append_nil, forall_const]
        rw [List.append_nil] at hps
        have hpd : dn.map pD = pDs (p0 :: ps0) := by rw [hps, pDs_map]
        refine ⟨pDs (p0 :: ps0), ?_, ?_⟩
        · show (match M' c with | some (.lst l) => some l | _ => none) = _
          rw [hMc', hpd]
        · refine Fg.mk (hS.fin (o := RS T.C_ProgramReader (pre ++ (tPs (p0 :: ps0) ++ rest)) (pre.length + (tPs (p0 :: ps0)).length)) ?_) q
          rw [hMa, ← hps]; exact congrArg some (RS_eq (by simp [tR]) (by simp))
      | cons p rm =>
        have hmem : p ∈ p0 :: ps0 := by rw [hps]; simp
        have e1 : tR (p :: rm) = [59, 32] ++ (tP p ++ tR rm) := by simp [tR]
        have hl1 : (tR (p :: rm)).length = 2 + ((tP p).length + (tR rm).length) := by rw [e1]; simp; omega
        have hpf : List.isPrefixOf [59, 32] (tR (p :: rm) ++ rest) = true := by rw [e1]; simp [List.isPrefixOf]
        simp only [hpf, ↓x_seq, ↓x_next, ↓x_ret, ↓x_retN, ↓x_drop, ↓x_if, ↓x_asg, ↓x_false, ↓x_brk, ↓x_cnt, ↓x_g0, ↓x_v0, ↓x_g1, ↓x_v1, ↓x_g2, ↓x_v2, ↓x_g3, ↓x_v3, ↓x_g4, ↓x_v4, ↓x_g5, ↓x_v5, ↓x_g6, ↓x_v6, ↓x_g7, ↓x_v7, ↓x_g8, ↓x_v8, ↓x_g9, ↓x_v9, ↓x_g10, ↓x_v10, ↓x_g11, ↓x_v11, ↓x_g12, ↓x_v12, ↓x_g13, ↓x_v13, ↓x_g14, ↓x_v14, ↓x_g15, ↓x_v15, ↓x_g16, ↓x_v16, ↓x_g17, ↓x_v17, ↓x_g18, ↓x_v18, ↓x_g19, ↓x_v19, ↓x_gt2, ↓x_gt3, ↓x_gt4, ↓x_gt5, ↓x_gt6, ↓x_gc, ↓x_gn, ↓x_par2, ↓x_p2, ↓x_par3, ↓x_p3, ↓x_C, ↓x_op, ↓x_test, ↓x_chain, ↓x_andT, ↓x_orT, ↓x_notT, ↓x_ifE, ↓x_andV, ↓x_orV, ↓x_notV, ↓x_nil, ↓x_cons, ↓x_star, ↓x_tup, ↓x_lst, ↓x_callB, ↓x_call, ↓x_callK, ↓x_meth, ↓x_make, ↓x_fld, ↓x_fldS, ↓x_bm0, ↓x_bm, ↓x_sl, ↓x_nop, ↓x_prt, ↓x_neg, ↓x_revL, ↓x_lc, ↓x_for, ↓x_diSeq, ↓x_diEnum, ↓x_rng1, ↓y_addi, ↓y_adds, ↓y_addt, ↓y_int, ↓y_intC, ↓y_is, ↓y_isn, ↓y_nnon, ↓y_nbl, ↓y_nint, ↓y_nstr, ↓y_ntup, ↓y_nref, ↓y_t0, ↓y_t1, ↓y_t2, ↓y_t3, ↓y_m2, ↓y_m3, ↓y_len0, ↓y_len1, ↓y_len2, ↓y_len3, ↓y_len, ↓y_lenS, ↓y_itt, ↓y_iss, ↓y_iii, ↓y_iib, ↓y_i1, ↓y_i1b, ↓y_abs, ↓y_strI, ↓y_slt, ↓y_sls, ↓y_tys, ↓bIn_2, ↓bNotIn_2, ↓bEq_int, ↓bNe_int, wipeD, List.map_cons, List.map_nil, List.set_cons_zero, List.set_cons_succ, Option.some.injEq, exists_and_left, exists_eq_left', exists_eq_left, decide_true, decide_false, Bool.false_eq_true, reduceIte, Bool.not_true, Bool.not_false, List.length_cons, List.length_nil, Nat.reduceAdd, Nat.zero_add, line16, Nat.reduceLeDiff, Int.reduceEq, Int.reduceLT, Int.reduceLE, Int.reduceNeg, or_true, true_or, or_self, or_false, false_or, true_and, and_true, and_self, List.cons_append, List.nil_append, List.append_nil, forall_const]
        have hM2 : put M' a (RS T.C_ProgramReader ((pre ++ tPs dn) ++ (tR (p :: rm) ++ rest)) ((pre ++ tPs dn).length + 2)) a = some (RS T.C_ProgramReader ((pre ++ tPs dn ++ [59, 32]) ++ (tP p ++ (tR rm ++ rest))) (pre ++ tPs dn ++ [59, 32]).length) := by
          rw [put_same]; exact congrArg some (RS_eq (by rw [e1]; simp) (by simp; omega))
        have hM3 : put M' a (RS T.C_ProgramReader ((pre ++ tPs dn) ++ (tR (p :: rm) ++ rest)) ((pre ++ tPs dn).length + 2)) c = some (.lst (dn.map pD)) := (put_ne (Ne.symm hca)).trans hMc'
        simp only [↓x_seq, ↓x_next, ↓x_ret, ↓x_retN, ↓x_drop, ↓x_if, ↓x_asg, ↓x_false, ↓x_brk, ↓x_cnt, ↓x_g0, ↓x_v0, ↓x_g1, ↓x_v1, ↓x_g2, ↓x_v2, ↓x_g3, ↓x_v3, ↓x_g4, ↓x_v4, ↓x_g5, ↓x_v5, ↓x_g6, ↓x_v6, ↓x_g7, ↓x_v7, ↓x_g8, ↓x_v8, ↓x_g9, ↓x_v9, ↓x_g10, ↓x_v10, ↓x_g11, ↓x_v11, ↓x_g12, ↓x_v12, ↓x_g13, ↓x_v13, ↓x_g14, ↓x_v14, ↓x_g15, ↓x_v15, ↓x_g16, ↓x_v16, ↓x_g17, ↓x_v17, ↓x_g18, ↓x_v18, ↓x_g19, ↓x_v19, ↓x_gt2, ↓x_gt3, ↓x_gt4, ↓x_gt5, ↓x_gt6, ↓x_gc, ↓x_gn, ↓x_par2, ↓x_p2, ↓x_par3, ↓x_p3, ↓x_C, ↓x_op, ↓x_test, ↓x_chain, ↓x_andT, ↓x_orT, ↓x_notT, ↓x_ifE, ↓x_andV, ↓x_orV, ↓x_notV, ↓x_nil, ↓x_cons, ↓x_star, ↓x_tup, ↓x_lst, ↓x_callB, ↓x_call, ↓x_callK, ↓x_meth, ↓x_make, ↓x_fld, ↓x_fldS, ↓x_bm0, ↓x_bm, ↓x_sl, ↓x_nop, ↓x_prt, ↓x_neg, ↓x_revL, ↓x_lc, ↓x_for, ↓x_diSeq, ↓x_diEnum, ↓x_rng1, ↓y_addi, ↓y_adds, ↓y_addt, ↓y_int, ↓y_intC, ↓y_is, ↓y_isn, ↓y_nnon, ↓y_nbl, ↓y_nint, ↓y_nstr, ↓y_ntup, ↓y_nref, ↓y_t0, ↓y_t1, ↓y_t2, ↓y_t3, ↓y_m2, ↓y_m3, ↓y_len0, ↓y_len1, ↓y_len2, ↓y_len3, ↓y_len, ↓y_lenS, ↓y_itt, ↓y_iss, ↓y_iii, ↓y_iib, ↓y_i1, ↓y_i1b, ↓y_abs, ↓y_strI, ↓y_slt, ↓y_sls, ↓y_tys, ↓bIn_2, ↓bNotIn_2, ↓bEq_int, ↓bNe_int, wipeD, List.map_cons, List.map_nil, List.set_cons_zero, List.set_cons_succ, Option.some.injEq, exists_and_left, exists_eq_left', exists_eq_left, decide_true, decide_false, Bool.false_eq_true, reduceIte, Bool.not_true, Bool.not_false, List.length_cons, List.length_nil, Nat.reduceAdd, Nat.zero_add, line16, Nat.reduceLeDiff, Int.reduceEq, Int.reduceLT, Int.reduceLE, Int.reduceNeg, or_true, true_or, or_self, or_false, false_or, true_and, and_true, and_self, List.cons_append, List.nil_append, List.append_nil, forall_const, ↓r_one hM2, sp_on, ↓y_tyl hM3]
        refine ⟨a, pre ++ tPs dn ++ [59, 32], tR rm ++ rest, p, rooms, deep, rfl, hokm _ hmem, hckm _ hmem, Nat.le_trans (cPs_mem hmem) hc, hn, by simp only [List.length_append, List.length_cons, List.length_nil]; omega, tR_gd rm hge, hM2, ?_⟩
        have hdl : dn.length ≤ 20 := by
          have := congrArg List.length hps
          rw [List.length_append] at this; omega
        refine ⟨dn.map pD, (put_ne (Ne.symm hca)).trans hM3, by rw [List.length_map, line16]; omega, rm.length, by simp, dn ++ [p], rm, by rw [hps]; simp, by simp, rfl, ((hS.put).put).new hMc, ?_, ?_, rfl⟩
        · rw [put_ne hca, put_same]
          have e2 : tPs (dn ++ [p]) = tPs dn ++ ([59, 32] ++ tP p) := by rw [tPs_app hdn]; simp [tR]
          exact congrArg some (RS_eq (by rw [e2]; simp) (by rw [e2]; simp; omega))
        · rw [put_same]; simp
def eiI (C a c : Addr) (deep : Nat) (M : Mp) (pre rest : List Nat) (ls : List (List Part)) (u : Option D) : Nat → Sg → Mp → Prop := fun m σ M' => ∃ (dn rm : List (List Part)), ls = dn ++ rm ∧ dn ≠ [] ∧ σ = [some (.ref a), some (.int ((deep : Nat) : Int)), u, some (.ref c)] ∧ SubX a M M' ∧ M' a = some (RS C ((pre ++ tLs dn) ++ (tRL rm ++ rest)) (pre ++ tLs dn).length) ∧ M' c = some (.lst (dn.map fun l => .tup (pDs l))) ∧ m = rm.length
theorem n_one_part (T : Tx K mg) (n : Nat) (hp : DFn P w K mg base CX0 (3 * n + 4) T.f_ProgramReader_bracketed T.d_ProgramReader_bracketed ["self", "deep"] (sp_br T.C_ProgramReader n)) : DFn P w K mg base CX0 (3 * n + 4 + 1) T.f_ProgramReader_one_part T.d_ProgramReader_one_part ["self", "deep"] (sp_on T.C_ProgramReader (n + 1)) := by
  refine dfn_of (N := N_ProgramReader_one_part) T.F_ProgramReader_one_part sc_ProgramReader_one_part (by decide) (fun ds M Q E h => ?_) (fun cdv A outer s H hr hgd => (dss_cons (ds_if (dt_cmp op_gt tr_intB (de_var 1) (de_glob (v := (.int 5)) (d := (.int 5)) rfl T.c_MAX_DEEP ⟨_, rfl⟩ (fun _ => rfl)) (nomark _)) (dss_one ds_never) dss_nil) (dss_cons (ds_if (dt_val (de_meth (de_var 0) T.cl_ProgramReader T.m_ProgramReader_takes (ok_ProgramReader_takes T) (hr.mono (by omega)) hgd T.b_ProgramReader_takes dpass0 (da_cons de_str da_nil))) (dss_cons (ds_set (i := 2) sc_ProgramReader_one_part.nd rfl (Or.inl rfl) (de_meth0 (de_var 0) T.cl_ProgramReader T.m_ProgramReader_room (ok_ProgramReader_room T) (hr.mono (by omega)) hgd T.b_ProgramReader_room dpass0)) (dss_one (ds_ret (de_tup (da_cons de_str (da_cons (de_var 2) (da_cons (de_if (dt_val (de_meth (de_var 0) T.cl_ProgramReader T.m_ProgramReader_takes (ok_ProgramReader_takes T) (hr.mono (by omega)) hgd T.b_ProgramReader_takes dpass0 (da_cons de_str da_nil))) (de_meth (de_var 0) T.cl_ProgramReader T.m_ProgramReader_bracketed hp (hr.mono (by omega)) hgd T.b_ProgramReader_bracketed dpass0 (da_cons (de_bin op_add4 tr_add (de_var 1) de_int) da_nil)) (de_tup da_nil)) da_nil))))))) dss_nil) (dss_cons (ds_if (dt_val (de_meth (de_var 0) T.cl_ProgramReader T.m_ProgramReader_takes (ok_ProgramReader_takes T) (hr.mono (by omega)) hgd T.b_ProgramReader_takes dpass0 (da_cons de_str da_nil))) (dss_one (ds_ret (de_tup (da_cons de_str (da_cons (de_meth (de_var 0) T.cl_ProgramReader T.m_ProgramReader_bracketed hp (hr.mono (by omega)) hgd T.b_ProgramReader_bracketed dpass0 (da_cons (de_bin op_add4 tr_add (de_var 1) de_int) da_nil)) da_nil))))) dss_nil) (dss_cons (ds_expr (de_meth (de_var 0) T.cl_ProgramReader T.m_ProgramReader_need (ok_ProgramReader_need T) (hr.mono (by omega)) hgd T.b_ProgramReader_need dpass0 (da_cons de_str da_nil))) (dss_cons (ds_set (i := 3) sc_ProgramReader_one_part.nd rfl (Or.inl rfl) (de_lst (da_cons (de_meth (de_var 0) T.cl_ProgramReader T.m_ProgramReader_bracketed hp (hr.mono (by omega)) hgd T.b_ProgramReader_bracketed dpass0 (da_cons (de_bin op_add4 tr_add (de_var 1) de_int) da_nil)) da_nil))) (dss_cons (ds_while PassesOwn.never (dt_val (de_meth (de_var 0) T.cl_ProgramReader T.m_ProgramReader_takes (ok_ProgramReader_takes T) (hr.mono (by omega)) hgd T.b_ProgramReader_takes dpass0 (da_cons de_str da_nil))) (dss_one (ds_expr (de_bm PySem.F.plainAttrs_list PySem.F.slot_list_append PySem.F.type_list_append mt_append tr_append (de_var 3) (da_cons (de_meth (de_var 0) T.cl_ProgramReader T.m_ProgramReader_bracketed hp (hr.mono (by omega)) hgd T.b_ProgramReader_bracketed dpass0 (da_cons (de_bin op_add4 tr_add (de_var 1) de_int) da_nil)) da_nil))))) (dss_one (ds_ret (de_tup (da_cons de_str (da_cons (de_callTy call_tuple_of tr_tuple rfl T.n_tuple bt_tuple (da_cons (de_var 3) da_nil)) da_nil)))))))))))) ?_
  · obtain ⟨_, _, _, _, _, _, rfl, _⟩ := h; rfl
  rintro ds M Q E ⟨a, pre, rest, p, rooms, deep, rfl, hok, hck, hc, hn, hb, hgd, hM, q⟩
  rw [st_ProgramReader_one_part]
  have hd := ck_deep hck
  have hd' : ¬ ((5 : Int) < (deep : Nat)) := by omega
  simp only [↓x_seq, ↓x_next, ↓x_ret, ↓x_retN, ↓x_drop, ↓x_if, ↓x_asg, ↓x_false, ↓x_brk, ↓x_cnt, ↓x_g0, ↓x_v0, ↓x_g1, ↓x_v1, ↓x_g2, ↓x_v2, ↓x_g3, ↓x_v3, ↓x_g4, ↓x_v4, ↓x_g5, ↓x_v5, ↓x_g6, ↓x_v6, ↓x_g7, ↓x_v7, ↓x_g8, ↓x_v8, ↓x_g9, ↓x_v9, ↓x_g10, ↓x_v10, ↓x_g11, ↓x_v11, ↓x_g12, ↓x_v12, ↓x_g13, ↓x_v13, ↓x_g14, ↓x_v14, ↓x_g15, ↓x_v15, ↓x_g16, ↓x_v16, ↓x_g17, ↓x_v17, ↓x_g18, ↓x_v18, ↓x_g19, ↓x_v19, ↓x_gt2, ↓x_gt3, ↓x_gt4, ↓x_gt5, ↓x_gt6, ↓x_gc, ↓x_gn, ↓x_par2, ↓x_p2, ↓x_par3, ↓x_p3, ↓x_C, ↓x_op, ↓x_test, ↓x_chain, ↓x_andT, ↓x_orT, ↓x_notT, ↓x_ifE, ↓x_andV, ↓x_orV, ↓x_notV, ↓x_nil, ↓x_cons, ↓x_star, ↓x_tup, ↓x_lst, ↓x_callB, ↓x_call, ↓x_callK, ↓x_meth, ↓x_make, ↓x_fld, ↓x_fldS, ↓x_bm0, ↓x_bm, ↓x_sl, ↓x_nop, ↓x_prt, ↓x_neg, ↓x_revL, ↓x_lc, ↓x_for, ↓x_diSeq, ↓x_diEnum, ↓x_rng1, ↓y_addi, ↓y_adds, ↓y_addt, ↓y_int, ↓y_intC, ↓y_is, ↓y_isn, ↓y_nnon, ↓y_nbl, ↓y_nint, ↓y_nstr, ↓y_ntup, ↓y_nref, ↓y_t0, ↓y_t1, ↓y_t2, ↓y_t3, ↓y_m2, ↓y_m3, ↓y_len0, ↓y_len1, ↓y_len2, ↓y_len3, ↓y_len, ↓y_lenS, ↓y_itt, ↓y_iss, ↓y_iii, ↓y_iib, ↓y_i1, ↓y_i1b, ↓y_abs, ↓y_strI, ↓y_slt, ↓y_sls, ↓y_tys, ↓bIn_2, ↓bNotIn_2, ↓bEq_int, ↓bNe_int, wipeD, List.map_cons, List.map_nil, List.set_cons_zero, List.set_cons_succ, Option.some.injEq, exists_and_left, exists_eq_left', exists_eq_left, decide_true, decide_false, Bool.false_eq_true, reduceIte, Bool.not_true, Bool.not_false, List.length_cons, List.length_nil, Nat.reduceAdd, Nat.zero_add, line16, Nat.reduceLeDiff, Int.reduceEq, Int.reduceLT, Int.reduceLE, Int.reduceNeg, or_true, true_or, or_self, or_false, false_or, true_and, and_true, and_self, List.cons_append, List.nil_append, List.append_nil, forall_const, hd', ↓r_takes hM, sp_takes, l_in]
  refine ⟨a, pre, tP p ++ rest, [105, 110, 32], rfl, by simp, by simp only [List.length_append]; omega, hM, ?_⟩
  cases p with
  | inn r own =>
    have h' : r < 6 ∧ okPs own = true := by simpa [okP] using hok
    have hkk : ckPs (rooms ++ [r]) (deep + 1) own = true := by simp [ckP] at hck; exact hck.2
    have hc' : cPs own ≤ n := by simp [cP] at hc; omega
    have hpf : List.isPrefixOf [105, 110, 32] (tP (.inn r own) ++ rest) = true := by cases own <;> simp [tP, List.isPrefixOf]
    have htl : ∃ tl, tP (.inn r own) = 105 :: 110 :: 32 :: (48 + r) :: tl := by cases own <;> simp [tP]
    obtain ⟨tl, htl⟩ := htl
    simp only [hpf, ↓x_seq, ↓x_next, ↓x_ret, ↓x_retN, ↓x_drop, ↓x_if, ↓x_asg, ↓x_false, ↓x_brk, ↓x_cnt, ↓x_g0, ↓x_v0, ↓x_g1, ↓x_v1, ↓x_g2, ↓x_v2, ↓x_g3, ↓x_v3, ↓x_g4, ↓x_v4, ↓x_g5, ↓x_v5, ↓x_g6, ↓x_v6, ↓x_g7, ↓x_v7, ↓x_g8, ↓x_v8, ↓x_g9, ↓x_v9, ↓x_g10, ↓x_v10, ↓x_g11, ↓x_v11, ↓x_g12, ↓x_v12, ↓x_g13, ↓x_v13, ↓x_g14, ↓x_v14, ↓x_g15, ↓x_v15, ↓x_g16, ↓x_v16, ↓x_g17, ↓x_v17, ↓x_g18, ↓x_v18, ↓x_g19, ↓x_v19, ↓x_gt2, ↓x_gt3, ↓x_gt4, ↓x_gt5, ↓x_gt6, ↓x_gc, ↓x_gn, ↓x_par2, ↓x_p2, ↓x_par3, ↓x_p3, ↓x_C, ↓x_op, ↓x_test, ↓x_chain, ↓x_andT, ↓x_orT, ↓x_notT, ↓x_ifE, ↓x_andV, ↓x_orV, ↓x_notV, ↓x_nil, ↓x_cons, ↓x_star, ↓x_tup, ↓x_lst, ↓x_callB, ↓x_call, ↓x_callK, ↓x_meth, ↓x_make, ↓x_fld, ↓x_fldS, ↓x_bm0, ↓x_bm, ↓x_sl, ↓x_nop, ↓x_prt, ↓x_neg, ↓x_revL, ↓x_lc, ↓x_for, ↓x_diSeq, ↓x_diEnum, ↓x_rng1, ↓y_addi, ↓y_adds, ↓y_addt, ↓y_int, ↓y_intC, ↓y_is, ↓y_isn, ↓y_nnon, ↓y_nbl, ↓y_nint, ↓y_nstr, ↓y_ntup, ↓y_nref, ↓y_t0, ↓y_t1, ↓y_t2, ↓y_t3, ↓y_m2, ↓y_m3, ↓y_len0, ↓y_len1, ↓y_len2, ↓y_len3, ↓y_len, ↓y_lenS, ↓y_itt, ↓y_iss, ↓y_iii, ↓y_iib, ↓y_i1, ↓y_i1b, ↓y_abs, ↓y_strI, ↓y_slt, ↓y_sls, ↓y_tys, ↓bIn_2, ↓bNotIn_2, ↓bEq_int, ↓bNe_int, wipeD, List.map_cons, List.map_nil, List.set_cons_zero, List.set_cons_succ, Option.some.injEq, exists_and_left, exists_eq_left', exists_eq_left, decide_true, decide_false, Bool.false_eq_true, reduceIte, Bool.not_true, Bool.not_false, List.length_cons, List.length_nil, Nat.reduceAdd, Nat.zero_add, line16, Nat.reduceLeDiff, Int.reduceEq, Int.reduceLT, Int.reduceLE, Int.reduceNeg, or_true, true_or, or_self, or_false, false_or, true_and, and_true, and_self, List.cons_append, List.nil_append, List.append_nil, forall_const]
    have hM1 : put M a (RS T.C_ProgramReader (pre ++ (tP (.inn r own) ++ rest)) (pre.length + 3)) a = some (RS T.C_ProgramReader ((pre ++ [105, 110, 32]) ++ (48 + r) :: (tl ++ rest)) (pre ++ [105, 110, 32]).length) := by
      rw [put_same]; exact congrArg some (RS_eq (by rw [htl]; simp) (by simp))
    have htll : (tP (.inn r own)).length = 4 + tl.length := by rw [htl]; simp; omega
    simp only [↓x_seq, ↓x_next, ↓x_ret, ↓x_retN, ↓x_drop, ↓x_if, ↓x_asg, ↓x_false, ↓x_brk, ↓x_cnt, ↓x_g0, ↓x_v0, ↓x_g1, ↓x_v1, ↓x_g2, ↓x_v2, ↓x_g3, ↓x_v3, ↓x_g4, ↓x_v4, ↓x_g5, ↓x_v5, ↓x_g6, ↓x_v6, ↓x_g7, ↓x_v7, ↓x_g8, ↓x_v8, ↓x_g9, ↓x_v9, ↓x_g10, ↓x_v10, ↓x_g11, ↓x_v11, ↓x_g12, ↓x_v12, ↓x_g13, ↓x_v13, ↓x_g14, ↓x_v14, ↓x_g15, ↓x_v15, ↓x_g16, ↓x_v16, ↓x_g17, ↓x_v17, ↓x_g18, ↓x_v18, ↓x_g19, ↓x_v19, ↓x_gt2, ↓x_gt3, ↓x_gt4, ↓x_gt5, ↓x_gt6, ↓x_gc, ↓x_gn, ↓x_par2, ↓x_p2, ↓x_par3, ↓x_p3, ↓x_C, ↓x_op, ↓x_test, ↓x_chain, ↓x_andT, ↓x_orT, ↓x_notT, ↓x_ifE, ↓x_andV, ↓x_orV, ↓x_notV, ↓x_nil, ↓x_cons, ↓x_star, ↓x_tup, ↓x_lst, ↓x_callB, ↓x_call, ↓x_callK, ↓x_meth, ↓x_make, ↓x_fld, ↓x_fldS, ↓x_bm0, ↓x_bm, ↓x_sl, ↓x_nop, ↓x_prt, ↓x_neg, ↓x_revL, ↓x_lc, ↓x_for, ↓x_diSeq, ↓x_diEnum, ↓x_rng1, ↓y_addi, ↓y_adds, ↓y_addt, ↓y_int, ↓y_intC, ↓y_is, ↓y_isn, ↓y_nnon, ↓y_nbl, ↓y_nint, ↓y_nstr, ↓y_ntup, ↓y_nref, ↓y_t0, ↓y_t1, ↓y_t2, ↓y_t3, ↓y_m2, ↓y_m3, ↓y_len0, ↓y_len1, ↓y_len2, ↓y_len3, ↓y_len, ↓y_lenS, ↓y_itt, ↓y_iss, ↓y_iii, ↓y_iib, ↓y_i1, ↓y_i1b, ↓y_abs, ↓y_strI, ↓y_slt, ↓y_sls, ↓y_tys, ↓bIn_2, ↓bNotIn_2, ↓bEq_int, ↓bNe_int, wipeD, List.map_cons, List.map_nil, List.set_cons_zero, List.set_cons_succ, Option.some.injEq, exists_and_left, exists_eq_left', exists_eq_left, decide_true, decide_false, Bool.false_eq_true, reduceIte, Bool.not_true, Bool.not_false, List.length_cons, List.length_nil, Nat.reduceAdd, Nat.zero_add, line16, Nat.reduceLeDiff, Int.reduceEq, Int.reduceLT, Int.reduceLE, Int.reduceNeg, or_true, true_or, or_self, or_false, false_or, true_and, and_true, and_self, List.cons_append, List.nil_append, List.append_nil, forall_const, ↓r_room hM1]
    refine ⟨a, pre ++ [105, 110, 32], tl ++ rest, r, rfl, h'.1, by simp only [List.length_append, List.length_cons, List.length_nil]; omega, hM1, ?_⟩
    rw [put_put]
    have hM2 : put M a (RS T.C_ProgramReader ((pre ++ [105, 110, 32]) ++ (48 + r) :: (tl ++ rest)) ((pre ++ [105, 110, 32]).length + 1)) a = some (RS T.C_ProgramReader ((pre ++ [105, 110, 32, 48 + r]) ++ (tl ++ rest)) (pre ++ [105, 110, 32, 48 + r]).length) := by
      rw [put_same]; exact congrArg some (RS_eq (by simp) (by simp))
    simp only [↓x_seq, ↓x_next, ↓x_ret, ↓x_retN, ↓x_drop, ↓x_if, ↓x_asg, ↓x_false, ↓x_brk, ↓x_cnt, ↓x_g0, ↓x_v0, ↓x_g1, ↓x_v1, ↓x_g2, ↓x_v2, ↓x_g3, ↓x_v3, ↓x_g4, ↓x_v4, ↓x_g5, ↓x_v5, ↓x_g6, ↓x_v6, ↓x_g7, ↓x_v7, ↓x_g8, ↓x_v8, ↓x_g9, ↓x_v9, ↓x_g10, ↓x_v10, ↓x_g11, ↓x_v11, ↓x_g12, ↓x_v12, ↓x_g13, ↓x_v13, ↓x_g14, ↓x_v14, ↓x_g15, ↓x_v15, ↓x_g16, ↓x_v16, ↓x_g17, ↓x_v17, ↓x_g18, ↓x_v18, ↓x_g19, ↓x_v19, ↓x_gt2, ↓x_gt3, ↓x_gt4, ↓x_gt5, ↓x_gt6, ↓x_gc, ↓x_gn, ↓x_par2, ↓x_p2, ↓x_par3, ↓x_p3, ↓x_C, ↓x_op, ↓x_test, ↓x_chain, ↓x_andT, ↓x_orT, ↓x_notT, ↓x_ifE, ↓x_andV, ↓x_orV, ↓x_notV, ↓x_nil, ↓x_cons, ↓x_star, ↓x_tup, ↓x_lst, ↓x_callB, ↓x_call, ↓x_callK, ↓x_meth, ↓x_make, ↓x_fld, ↓x_fldS, ↓x_bm0, ↓x_bm, ↓x_sl, ↓x_nop, ↓x_prt, ↓x_neg, ↓x_revL, ↓x_lc, ↓x_for, ↓x_diSeq, ↓x_diEnum, ↓x_rng1, ↓y_addi, ↓y_adds, ↓y_addt, ↓y_int, ↓y_intC, ↓y_is, ↓y_isn, ↓y_nnon, ↓y_nbl, ↓y_nint, ↓y_nstr, ↓y_ntup, ↓y_nref, ↓y_t0, ↓y_t1, ↓y_t2, ↓y_t3, ↓y_m2, ↓y_m3, ↓y_len0, ↓y_len1, ↓y_len2, ↓y_len3, ↓y_len, ↓y_lenS, ↓y_itt, ↓y_iss, ↓y_iii, ↓y_iib, ↓y_i1, ↓y_i1b, ↓y_abs, ↓y_strI, ↓y_slt, ↓y_sls, ↓y_tys, ↓bIn_2, ↓bNotIn_2, ↓bEq_int, ↓bNe_int, wipeD, List.map_cons, List.map_nil, List.set_cons_zero, List.set_cons_succ, Option.some.injEq, exists_and_left, exists_eq_left', exists_eq_left, decide_true, decide_false, Bool.false_eq_true, reduceIte, Bool.not_true, Bool.not_false, List.length_cons, List.length_nil, Nat.reduceAdd, Nat.zero_add, line16, Nat.reduceLeDiff, Int.reduceEq, Int.reduceLT, Int.reduceLE, Int.reduceNeg, or_true, true_or, or_self, or_false, false_or, true_and, and_true, and_self, List.cons_append, List.nil_append, List.append_nil, forall_const, ↓r_takes hM2, sp_takes, l_sp]
    refine ⟨a, pre ++ [105, 110, 32, 48 + r], tl ++ rest, [32], rfl, by simp, by simp only [List.length_append, List.length_cons, List.length_nil]; omega, hM2, ?_⟩
    cases own with
    | nil =>
      have htl0 : tl = [] := by simp [tP] at htl; first | exact htl.symm | exact htl
      subst htl0
      simp only [List.nil_append, pf_sp_no hgd, ↓x_seq, ↓x_next, ↓x_ret, ↓x_retN, ↓x_drop, ↓x_if, ↓x_asg, ↓x_false, ↓x_brk, ↓x_cnt, ↓x_g0, ↓x_v0, ↓x_g1, ↓x_v1, ↓x_g2, ↓x_v2, ↓x_g3, ↓x_v3, ↓x_g4, ↓x_v4, ↓x_g5, ↓x_v5, ↓x_g6, ↓x_v6, ↓x_g7, ↓x_v7, ↓x_g8, ↓x_v8, ↓x_g9, ↓x_v9, ↓x_g10, ↓x_v10, ↓x_g11, ↓x_v11, ↓x_g12, ↓x_v12, ↓x_g13, ↓x_v13, ↓x_g14, ↓x_v14, ↓x_g15, ↓x_v15, ↓x_g16, ↓x_v16, ↓x_g17, ↓x_v17, ↓x_g18, ↓x_v18, ↓x_g19, ↓x_v19, ↓x_gt2, ↓x_gt3, ↓x_gt4, ↓x_gt5, ↓x_gt6, ↓x_gc, ↓x_gn, ↓x_par2, ↓x_p2, ↓x_par3, ↓x_p3, ↓x_C, ↓x_op, ↓x_test, ↓x_chain, ↓x_andT, ↓x_orT, ↓x_notT, ↓x_ifE, ↓x_andV, ↓x_orV, ↓x_notV, ↓x_nil, ↓x_cons, ↓x_star, ↓x_tup, ↓x_lst, ↓x_callB, ↓x_call, ↓x_callK, ↓x_meth, ↓x_make, ↓x_fld, ↓x_fldS, ↓x_bm0, ↓x_bm, ↓x_sl, ↓x_nop, ↓x_prt, ↓x_neg, ↓x_revL, ↓x_lc, ↓x_for, ↓x_diSeq, ↓x_diEnum, ↓x_rng1, ↓y_addi, ↓y_adds, ↓y_addt, ↓y_int, ↓y_intC, ↓y_is, ↓y_isn, ↓y_nnon, ↓y_nbl, ↓y_nint, ↓y_nstr, ↓y_ntup, ↓y_nref, ↓y_t0, ↓y_t1, ↓y_t2, ↓y_t3, ↓y_m2, ↓y_m3, ↓y_len0, ↓y_len1, ↓y_len2, ↓y_len3, ↓y_len, ↓y_lenS, ↓y_itt, ↓y_iss, ↓y_iii, ↓y_iib, ↓y_i1, ↓y_i1b, ↓y_abs, ↓y_strI, ↓y_slt, ↓y_sls, ↓y_tys, ↓bIn_2, ↓bNotIn_2, ↓bEq_int, ↓bNe_int, wipeD, List.map_cons, List.map_nil, List.set_cons_zero, List.set_cons_succ, Option.some.injEq, exists_and_left, exists_eq_left', exists_eq_left, decide_true, decide_false, Bool.false_eq_true, reduceIte, Bool.not_true, Bool.not_false, List.length_cons, List.length_nil, Nat.reduceAdd, Nat.zero_add, line16, Nat.reduceLeDiff, Int.reduceEq, Int.reduceLT, Int.reduceLE, Int.reduceNeg, or_true, true_or, or_self, or_false, false_or, true_and, and_true, and_self, List.cons_append, List.nil_append, List.append_nil, forall_const]
      rw [RS_eq (t' := pre ++ (tP (.inn r []) ++ rest)) (n' := pre.length + (tP (.inn r [])).length) (by simp [tP]) (by simp [tP])]
      simpa [pD, pDs] using Fg.now q
    | cons x xs =>
      have htl1 : tl = 32 :: tB (x :: xs) := by simp [tP] at htl; simp [tB, htl]
      subst htl1
      simp only [show List.isPrefixOf [32] (32 :: tB (x :: xs) ++ rest) = true by simp [List.isPrefixOf], ↓x_seq, ↓x_next, ↓x_ret, ↓x_retN, ↓x_drop, ↓x_if, ↓x_asg, ↓x_false, ↓x_brk, ↓x_cnt, ↓x_g0, ↓x_v0, ↓x_g1, ↓x_v1, ↓x_g2, ↓x_v2, ↓x_g3, ↓x_v3, ↓x_g4, ↓x_v4, ↓x_g5, ↓x_v5, ↓x_g6, ↓x_v6, ↓x_g7, ↓x_v7, ↓x_g8, ↓x_v8, ↓x_g9, ↓x_v9, ↓x_g10, ↓x_v10, ↓x_g11, ↓x_v11, ↓x_g12, ↓x_v12, ↓x_g13, ↓x_v13, ↓x_g14, ↓x_v14, ↓x_g15, ↓x_v15, ↓x_g16, ↓x_v16, ↓x_g17, ↓x_v17, ↓x_g18, ↓x_v18, ↓x_g19, ↓x_v19, ↓x_gt2, ↓x_gt3, ↓x_gt4, ↓x_gt5, ↓x_gt6, ↓x_gc, ↓x_gn, ↓x_par2, ↓x_p2, ↓x_par3, ↓x_p3, ↓x_C, ↓x_op, ↓x_test, ↓x_chain, ↓x_andT, ↓x_orT, ↓x_notT, ↓x_ifE, ↓x_andV, ↓x_orV, ↓x_notV, ↓x_nil, ↓x_cons, ↓x_star, ↓x_tup, ↓x_lst, ↓x_callB, ↓x_call, ↓x_callK, ↓x_meth, ↓x_make, ↓x_fld, ↓x_fldS, ↓x_bm0, ↓x_bm, ↓x_sl, ↓x_nop, ↓x_prt, ↓x_neg, ↓x_revL, ↓x_lc, ↓x_for, ↓x_diSeq, ↓x_diEnum, ↓x_rng1, ↓y_addi, ↓y_adds, ↓y_addt, ↓y_int, ↓y_intC, ↓y_is, ↓y_isn, ↓y_nnon, ↓y_nbl, ↓y_nint, ↓y_nstr, ↓y_ntup, ↓y_nref, ↓y_t0, ↓y_t1, ↓y_t2, ↓y_t3, ↓y_m2, ↓y_m3, ↓y_len0, ↓y_len1, ↓y_len2, ↓y_len3, ↓y_len, ↓y_lenS, ↓y_itt, ↓y_iss, ↓y_iii, ↓y_iib, ↓y_i1, ↓y_i1b, ↓y_abs, ↓y_strI, ↓y_slt, ↓y_sls, ↓y_tys, ↓bIn_2, ↓bNotIn_2, ↓bEq_int, ↓bNe_int, wipeD, List.map_cons, List.map_nil, List.set_cons_zero, List.set_cons_succ, Option.some.injEq, exists_and_left, exists_eq_left', exists_eq_left, decide_true, decide_false, Bool.false_eq_true, reduceIte, Bool.not_true, Bool.not_false, List.length_cons, List.length_nil, Nat.reduceAdd, Nat.zero_add, line16, Nat.reduceLeDiff, Int.reduceEq, Int.reduceLT, Int.reduceLE, Int.reduceNeg, or_true, true_or, or_self, or_false, false_or, true_and, and_true, and_self, List.cons_append, List.nil_append, List.append_nil, forall_const]
      rw [put_put]
      have hM3 : put M a (RS T.C_ProgramReader ((pre ++ [105, 110, 32, 48 + r]) ++ (32 :: (tB (x :: xs) ++ rest))) ((pre ++ [105, 110, 32, 48 + r]).length + 1)) a = some (RS T.C_ProgramReader ((pre ++ [105, 110, 32, 48 + r, 32]) ++ (tB (x :: xs) ++ rest)) (pre ++ [105, 110, 32, 48 + r, 32]).length) := by
        rw [put_same]; exact congrArg some (RS_eq (by simp) (by simp))
      simp only [↓x_seq, ↓x_next, ↓x_ret, ↓x_retN, ↓x_drop, ↓x_if, ↓x_asg, ↓x_false, ↓x_brk, ↓x_cnt, ↓x_g0, ↓x_v0, ↓x_g1, ↓x_v1, ↓x_g2, ↓x_v2, ↓x_g3, ↓x_v3, ↓x_g4, ↓x_v4, ↓x_g5, ↓x_v5, ↓x_g6, ↓x_v6, ↓x_g7, ↓x_v7, ↓x_g8, ↓x_v8, ↓x_g9, ↓x_v9, ↓x_g10, ↓x_v10, ↓x_g11, ↓x_v11, ↓x_g12, ↓x_v12, ↓x_g13, ↓x_v13, ↓x_g14, ↓x_v14, ↓x_g15, ↓x_v15, ↓x_g16, ↓x_v16, ↓x_g17, ↓x_v17, ↓x_g18, ↓x_v18, ↓x_g19, ↓x_v19, ↓x_gt2, ↓x_gt3, ↓x_gt4, ↓x_gt5, ↓x_gt6, ↓x_gc, ↓x_gn, ↓x_par2, ↓x_p2, ↓x_par3, ↓x_p3, ↓x_C, ↓x_op, ↓x_test, ↓x_chain, ↓x_andT, ↓x_orT, ↓x_notT, ↓x_ifE, ↓x_andV, ↓x_orV, ↓x_notV, ↓x_nil, ↓x_cons, ↓x_star, ↓x_tup, ↓x_lst, ↓x_callB, ↓x_call, ↓x_callK, ↓x_meth, ↓x_make, ↓x_fld, ↓x_fldS, ↓x_bm0, ↓x_bm, ↓x_sl, ↓x_nop, ↓x_prt, ↓x_neg, ↓x_revL, ↓x_lc, ↓x_for, ↓x_diSeq, ↓x_diEnum, ↓x_rng1, ↓y_addi, ↓y_adds, ↓y_addt, ↓y_int, ↓y_intC, ↓y_is, ↓y_isn, ↓y_nnon, ↓y_nbl, ↓y_nint, ↓y_nstr, ↓y_ntup, ↓y_nref, ↓y_t0, ↓y_t1, ↓y_t2, ↓y_t3, ↓y_m2, ↓y_m3, ↓y_len0, ↓y_len1, ↓y_len2, ↓y_len3, ↓y_len, ↓y_lenS, ↓y_itt, ↓y_iss, ↓y_iii, ↓y_iib, ↓y_i1, ↓y_i1b, ↓y_abs, ↓y_strI, ↓y_slt, ↓y_sls, ↓y_tys, ↓bIn_2, ↓bNotIn_2, ↓bEq_int, ↓bNe_int, wipeD, List.map_cons, List.map_nil, List.set_cons_zero, List.set_cons_succ, Option.some.injEq, exists_and_left, exists_eq_left', exists_eq_left, decide_true, decide_false, Bool.false_eq_true, reduceIte, Bool.not_true, Bool.not_false, List.length_cons, List.length_nil, Nat.reduceAdd, Nat.zero_add, line16, Nat.reduceLeDiff, Int.reduceEq, Int.reduceLT, Int.reduceLE, Int.reduceNeg, or_true, true_or, or_self, or_false, false_or, true_and, and_true, and_self, List.cons_append, List.nil_append, List.append_nil, forall_const, ↓r_brk hM3, sp_br]
      refine ⟨a, pre ++ [105, 110, 32, 48 + r, 32], rest, x :: xs, rooms ++ [r], deep + 1, rfl, h'.2, hkk, hc', by omega, by simp only [List.length_append, List.length_cons, List.length_nil] at htll ⊢; omega, hM3, ?_⟩
      simp only [↓x_seq, ↓x_next, ↓x_ret, ↓x_retN, ↓x_drop, ↓x_if, ↓x_asg, ↓x_false, ↓x_brk, ↓x_cnt, ↓x_g0, ↓x_v0, ↓x_g1, ↓x_v1, ↓x_g2, ↓x_v2, ↓x_g3, ↓x_v3, ↓x_g4, ↓x_v4, ↓x_g5, ↓x_v5, ↓x_g6, ↓x_v6, ↓x_g7, ↓x_v7, ↓x_g8, ↓x_v8, ↓x_g9, ↓x_v9, ↓x_g10, ↓x_v10, ↓x_g11, ↓x_v11, ↓x_g12, ↓x_v12, ↓x_g13, ↓x_v13, ↓x_g14, ↓x_v14, ↓x_g15, ↓x_v15, ↓x_g16, ↓x_v16, ↓x_g17, ↓x_v17, ↓x_g18, ↓x_v18, ↓x_g19, ↓x_v19, ↓x_gt2, ↓x_gt3, ↓x_gt4, ↓x_gt5, ↓x_gt6, ↓x_gc, ↓x_gn, ↓x_par2, ↓x_p2, ↓x_par3, ↓x_p3, ↓x_C, ↓x_op, ↓x_test, ↓x_chain, ↓x_andT, ↓x_orT, ↓x_notT, ↓x_ifE, ↓x_andV, ↓x_orV, ↓x_notV, ↓x_nil, ↓x_cons, ↓x_star, ↓x_tup, ↓x_lst, ↓x_callB, ↓x_call, ↓x_callK, ↓x_meth, ↓x_make, ↓x_fld, ↓x_fldS, ↓x_bm0, ↓x_bm, ↓x_sl, ↓x_nop, ↓x_prt, ↓x_neg, ↓x_revL, ↓x_lc, ↓x_for, ↓x_diSeq, ↓x_diEnum, ↓x_rng1, ↓y_addi, ↓y_adds, ↓y_addt, ↓y_int, ↓y_intC, ↓y_is, ↓y_isn, ↓y_nnon, ↓y_nbl, ↓y_nint, ↓y_nstr, ↓y_ntup, ↓y_nref, ↓y_t0, ↓y_t1, ↓y_t2, ↓y_t3, ↓y_m2, ↓y_m3, ↓y_len0, ↓y_len1, ↓y_len2, ↓y_len3, ↓y_len, ↓y_lenS, ↓y_itt, ↓y_iss, ↓y_iii, ↓y_iib, ↓y_i1, ↓y_i1b, ↓y_abs, ↓y_strI, ↓y_slt, ↓y_sls, ↓y_tys, ↓bIn_2, ↓bNotIn_2, ↓bEq_int, ↓bNe_int, wipeD, List.map_cons, List.map_nil, List.set_cons_zero, List.set_cons_succ, Option.some.injEq, exists_and_left, exists_eq_left', exists_eq_left, decide_true, decide_false, Bool.false_eq_true, reduceIte, Bool.not_true, Bool.not_false, List.length_cons, List.length_nil, Nat.reduceAdd, Nat.zero_add, line16, Nat.reduceLeDiff, Int.reduceEq, Int.reduceLT, Int.reduceLE, Int.reduceNeg, or_true, true_or, or_self, or_false, false_or, true_and, and_true, and_self, List.cons_append, List.nil_append, List.append_nil, forall_const, put_put]
      rw [RS_eq (t' := pre ++ (tP (.inn r (x :: xs)) ++ rest)) (n' := pre.length + (tP (.inn r (x :: xs))).length) (by rw [htl]; simp) (by rw [htl]; simp; omega)]
      simpa [pD] using Fg.now q
  | again own =>
    have h' : okPs own = true := by simp [okP] at hok; exact hok.2
    have hkk : ckPs rooms (deep + 1) own = true := by simp [ckP] at hck; exact hck.2
    have hc' : cPs own ≤ n := by simp [cP] at hc; omega
    have e1 : tP (.again own) = [97, 103, 97, 105, 110, 32] ++ tB own := by simp [tP, tB]
    have hl1 : (tP (.again own)).length = 6 + (tB own).length := by rw [e1]; simp; omega
    simp only [show List.isPrefixOf [105, 110, 32] (tP (.again own) ++ rest) = false by rw [e1]; simp [List.isPrefixOf], ↓x_seq, ↓x_next, ↓x_ret, ↓x_retN, ↓x_drop, ↓x_if, ↓x_asg, ↓x_false, ↓x_brk, ↓x_cnt, ↓x_g0, ↓x_v0, ↓x_g1, ↓x_v1, ↓x_g2, ↓x_v2, ↓x_g3, ↓x_v3, ↓x_g4, ↓x_v4, ↓x_g5, ↓x_v5, ↓x_g6, ↓x_v6, ↓x_g7, ↓x_v7, ↓x_g8, ↓x_v8, ↓x_g9, ↓x_v9, ↓x_g10, ↓x_v10, ↓x_g11, ↓x_v11, ↓x_g12, ↓x_v12, ↓x_g13, ↓x_v13, ↓x_g14, ↓x_v14, ↓x_g15, ↓x_v15, ↓x_g16, ↓x_v16, ↓x_g17, ↓x_v17, ↓x_g18, ↓x_v18, ↓x_g19, ↓x_v19, ↓x_gt2, ↓x_gt3, ↓x_gt4, ↓x_gt5, ↓x_gt6, ↓x_gc, ↓x_gn, ↓x_par2, ↓x_p2, ↓x_par3, ↓x_p3, ↓x_C, ↓x_op, ↓x_test, ↓x_chain, ↓x_andT, ↓x_orT, ↓x_notT, ↓x_ifE, ↓x_andV, ↓x_orV, ↓x_notV, ↓x_nil, ↓x_cons, ↓x_star, ↓x_tup, ↓x_lst, ↓x_callB, ↓x_call, ↓x_callK, ↓x_meth, ↓x_make, ↓x_fld, ↓x_fldS, ↓x_bm0, ↓x_bm, ↓x_sl, ↓x_nop, ↓x_prt, ↓x_neg, ↓x_revL, ↓x_lc, ↓x_for, ↓x_diSeq, ↓x_diEnum, ↓x_rng1, ↓y_addi, ↓y_adds, ↓y_addt, ↓y_int, ↓y_intC, ↓y_is, ↓y_isn, ↓y_nnon, ↓y_nbl, ↓y_nint, ↓y_nstr, ↓y_ntup, ↓y_nref, ↓y_t0, ↓y_t1, ↓y_t2, ↓y_t3, ↓y_m2, ↓y_m3, ↓y_len0, ↓y_len1, ↓y_len2, ↓y_len3, ↓y_len, ↓y_lenS, ↓y_itt, ↓y_iss, ↓y_iii, ↓y_iib, ↓y_i1, ↓y_i1b, ↓y_abs, ↓y_strI, ↓y_slt, ↓y_sls, ↓y_tys, ↓bIn_2, ↓bNotIn_2, ↓bEq_int, ↓bNe_int, wipeD, List.map_cons, List.map_nil, List.set_cons_zero, List.set_cons_succ, Option.some.injEq, exists_and_left, exists_eq_left', exists_eq_left, decide_true, decide_false, Bool.false_eq_true, reduceIte, Bool.not_true, Bool.not_false, List.length_cons, List.length_nil, Nat.reduceAdd, Nat.zero_add, line16, Nat.reduceLeDiff, Int.reduceEq, Int.reduceLT, Int.reduceLE, Int.reduceNeg, or_true, true_or, or_self, or_false, false_or, true_and, and_true, and_self, List.cons_append, List.nil_append, List.append_nil, forall_const, ↓r_takes hM, sp_takes, l_ag]
    refine ⟨a, pre, tP (.again own) ++ rest, [97, 103, 97, 105, 110, 32], rfl, by simp, by simp only [List.length_append]; omega, hM, ?_⟩
    simp only [show List.isPrefixOf [97, 103, 97, 105, 110, 32] (tP (.again own) ++ rest) = true by rw [e1]; simp [List.isPrefixOf], ↓x_seq, ↓x_next, ↓x_ret, ↓x_retN, ↓x_drop, ↓x_if, ↓x_asg, ↓x_false, ↓x_brk, ↓x_cnt, ↓x_g0, ↓x_v0, ↓x_g1, ↓x_v1, ↓x_g2, ↓x_v2, ↓x_g3, ↓x_v3, ↓x_g4, ↓x_v4, ↓x_g5, ↓x_v5, ↓x_g6, ↓x_v6, ↓x_g7, ↓x_v7, ↓x_g8, ↓x_v8, ↓x_g9, ↓x_v9, ↓x_g10, ↓x_v10, ↓x_g11, ↓x_v11, ↓x_g12, ↓x_v12, ↓x_g13, ↓x_v13, ↓x_g14, ↓x_v14, ↓x_g15, ↓x_v15, ↓x_g16, ↓x_v16, ↓x_g17, ↓x_v17, ↓x_g18, ↓x_v18, ↓x_g19, ↓x_v19, ↓x_gt2, ↓x_gt3, ↓x_gt4, ↓x_gt5, ↓x_gt6, ↓x_gc, ↓x_gn, ↓x_par2, ↓x_p2, ↓x_par3, ↓x_p3, ↓x_C, ↓x_op, ↓x_test, ↓x_chain, ↓x_andT, ↓x_orT, ↓x_notT, ↓x_ifE, ↓x_andV, ↓x_orV, ↓x_notV, ↓x_nil, ↓x_cons, ↓x_star, ↓x_tup, ↓x_lst, ↓x_callB, ↓x_call, ↓x_callK, ↓x_meth, ↓x_make, ↓x_fld, ↓x_fldS, ↓x_bm0, ↓x_bm, ↓x_sl, ↓x_nop, ↓x_prt, ↓x_neg, ↓x_revL, ↓x_lc, ↓x_for, ↓x_diSeq, ↓x_diEnum, ↓x_rng1, ↓y_addi, ↓y_adds, ↓y_addt, ↓y_int, ↓y_intC, ↓y_is, ↓y_isn, ↓y_nnon, ↓y_nbl, ↓y_nint, ↓y_nstr, ↓y_ntup, ↓y_nref, ↓y_t0, ↓y_t1, ↓y_t2, ↓y_t3, ↓y_m2, ↓y_m3, ↓y_len0, ↓y_len1, ↓y_len2, ↓y_len3, ↓y_len, ↓y_lenS, ↓y_itt, ↓y_iss, ↓y_iii, ↓y_iib, ↓y_i1, ↓y_i1b, ↓y_abs, ↓y_strI, ↓y_slt, ↓y_sls, ↓y_tys, ↓bIn_2, ↓bNotIn_2, ↓bEq_int, ↓bNe_int, wipeD, List.map_cons, List.map_nil, List.set_cons_zero, List.set_cons_succ, Option.some.injEq, exists_and_left, exists_eq_left', exists_eq_left, decide_true, decide_false, Bool.false_eq_true, reduceIte, Bool.not_true, Bool.not_false, List.length_cons, List.length_nil, Nat.reduceAdd, Nat.zero_add, line16, Nat.reduceLeDiff, Int.reduceEq, Int.reduceLT, Int.reduceLE, Int.reduceNeg, or_true, true_or, or_self, or_false, false_or, true_and, and_true, and_self, List.cons_append, List.nil_append, List.append_nil, forall_const]
    have hM1 : put M a (RS T.C_ProgramReader (pre ++ (tP (.again own) ++ rest)) (pre.length + 6)) a = some (RS T.C_ProgramReader ((pre ++ [97, 103, 97, 105, 110, 32]) ++ (tB own ++ rest)) (pre ++ [97, 103, 97, 105, 110, 32]).length) := by
      rw [put_same]; exact congrArg some (RS_eq (by rw [e1]; simp) (by simp))
    simp only [↓x_seq, ↓x_next, ↓x_ret, ↓x_retN, ↓x_drop, ↓x_if, ↓x_asg, ↓x_false, ↓x_brk, ↓x_cnt, ↓x_g0, ↓x_v0, ↓x_g1, ↓x_v1, ↓x_g2, ↓x_v2, ↓x_g3, ↓x_v3, ↓x_g4, ↓x_v4, ↓x_g5, ↓x_v5, ↓x_g6, ↓x_v6, ↓x_g7, ↓x_v7, ↓x_g8, ↓x_v8, ↓x_g9, ↓x_v9, ↓x_g10, ↓x_v10, ↓x_g11, ↓x_v11, ↓x_g12, ↓x_v12, ↓x_g13, ↓x_v13, ↓x_g14, ↓x_v14, ↓x_g15, ↓x_v15, ↓x_g16, ↓x_v16, ↓x_g17, ↓x_v17, ↓x_g18, ↓x_v18, ↓x_g19, ↓x_v19, ↓x_gt2, ↓x_gt3, ↓x_gt4, ↓x_gt5, ↓x_gt6, ↓x_gc, ↓x_gn, ↓x_par2, ↓x_p2, ↓x_par3, ↓x_p3, ↓x_C, ↓x_op, ↓x_test, ↓x_chain, ↓x_andT, ↓x_orT, ↓x_notT, ↓x_ifE, ↓x_andV, ↓x_orV, ↓x_notV, ↓x_nil, ↓x_cons, ↓x_star, ↓x_tup, ↓x_lst, ↓x_callB, ↓x_call, ↓x_callK, ↓x_meth, ↓x_make, ↓x_fld, ↓x_fldS, ↓x_bm0, ↓x_bm, ↓x_sl, ↓x_nop, ↓x_prt, ↓x_neg, ↓x_revL, ↓x_lc, ↓x_for, ↓x_diSeq, ↓x_diEnum, ↓x_rng1, ↓y_addi, ↓y_adds, ↓y_addt, ↓y_int, ↓y_intC, ↓y_is, ↓y_isn, ↓y_nnon, ↓y_nbl, ↓y_nint, ↓y_nstr, ↓y_ntup, ↓y_nref, ↓y_t0, ↓y_t1, ↓y_t2, ↓y_t3, ↓y_m2, ↓y_m3, ↓y_len0, ↓y_len1, ↓y_len2, ↓y_len3, ↓y_len, ↓y_lenS, ↓y_itt, ↓y_iss, ↓y_iii, ↓y_iib, ↓y_i1, ↓y_i1b, ↓y_abs, ↓y_strI, ↓y_slt, ↓y_sls, ↓y_tys, ↓bIn_2, ↓bNotIn_2, ↓bEq_int, ↓bNe_int, wipeD, List.map_cons, List.map_nil, List.set_cons_zero, List.set_cons_succ, Option.some.injEq, exists_and_left, exists_eq_left', exists_eq_left, decide_true, decide_false, Bool.false_eq_true, reduceIte, Bool.not_true, Bool.not_false, List.length_cons, List.length_nil, Nat.reduceAdd, Nat.zero_add, line16, Nat.reduceLeDiff, Int.reduceEq, Int.reduceLT, Int.reduceLE, Int.reduceNeg, or_true, true_or, or_self, or_false, false_or, true_and, and_true, and_self, List.cons_append, List.nil_append, List.append_nil, forall_const, ↓r_brk hM1, sp_br]
    refine ⟨a, pre ++ [97, 103, 97, 105, 110, 32], rest, own, rooms, deep + 1, rfl, h', hkk, hc', by omega, by simp only [List.length_append, List.length_cons, List.length_nil]; omega, hM1, ?_⟩
    simp only [↓x_seq, ↓x_next, ↓x_ret, ↓x_retN, ↓x_drop, ↓x_if, ↓x_asg, ↓x_false, ↓x_brk, ↓x_cnt, ↓x_g0, ↓x_v0, ↓x_g1, ↓x_v1, ↓x_g2, ↓x_v2, ↓x_g3, ↓x_v3, ↓x_g4, ↓x_v4, ↓x_g5, ↓x_v5, ↓x_g6, ↓x_v6, ↓x_g7, ↓x_v7, ↓x_g8, ↓x_v8, ↓x_g9, ↓x_v9, ↓x_g10, ↓x_v10, ↓x_g11, ↓x_v11, ↓x_g12, ↓x_v12, ↓x_g13, ↓x_v13, ↓x_g14, ↓x_v14, ↓x_g15, ↓x_v15, ↓x_g16, ↓x_v16, ↓x_g17, ↓x_v17, ↓x_g18, ↓x_v18, ↓x_g19, ↓x_v19, ↓x_gt2, ↓x_gt3, ↓x_gt4, ↓x_gt5, ↓x_gt6, ↓x_gc, ↓x_gn, ↓x_par2, ↓x_p2, ↓x_par3, ↓x_p3, ↓x_C, ↓x_op, ↓x_test, ↓x_chain, ↓x_andT, ↓x_orT, ↓x_notT, ↓x_ifE, ↓x_andV, ↓x_orV, ↓x_notV, ↓x_nil, ↓x_cons, ↓x_star, ↓x_tup, ↓x_lst, ↓x_callB, ↓x_call, ↓x_callK, ↓x_meth, ↓x_make, ↓x_fld, ↓x_fldS, ↓x_bm0, ↓x_bm, ↓x_sl, ↓x_nop, ↓x_prt, ↓x_neg, ↓x_revL, ↓x_lc, ↓x_for, ↓x_diSeq, ↓x_diEnum, ↓x_rng1, ↓y_addi, ↓y_adds, ↓y_addt, ↓y_int, ↓y_intC, ↓y_is, ↓y_isn, ↓y_nnon, ↓y_nbl, ↓y_nint, ↓y_nstr, ↓y_ntup, ↓y_nref, ↓y_t0, ↓y_t1, ↓y_t2, ↓y_t3, ↓y_m2, ↓y_m3, ↓y_len0, ↓y_len1, ↓y_len2, ↓y_len3, ↓y_len, ↓y_lenS, ↓y_itt, ↓y_iss, ↓y_iii, ↓y_iib, ↓y_i1, ↓y_i1b, ↓y_abs, ↓y_strI, ↓y_slt, ↓y_sls, ↓y_tys, ↓bIn_2, ↓bNotIn_2, ↓bEq_int, ↓bNe_int, wipeD, List.map_cons, List.map_nil, List.set_cons_zero, List.set_cons_succ, Option.some.injEq, exists_and_left, exists_eq_left', exists_eq_left, decide_true, decide_false, Bool.false_eq_true, reduceIte, Bool.not_true, Bool.not_false, List.length_cons, List.length_nil, Nat.reduceAdd, Nat.zero_add, line16, Nat.reduceLeDiff, Int.reduceEq, Int.reduceLT, Int.reduceLE, Int.reduceNeg, or_true, true_or, or_self, or_false, false_or, true_and, and_true, and_self, List.cons_append, List.nil_append, List.append_nil, forall_const, put_put]
    rw [RS_eq (t' := pre ++ (tP (.again own) ++ rest)) (n' := pre.length + (tP (.again own)).length) (by rw [e1]; simp) (by rw [e1]; simp; omega)]
    simpa [pD] using Fg.now q
  | either lots =>
    have h' : 2 ≤ lots.length ∧ lots.length ≤ 4 ∧ okPss lots = true := by simp [okP] at hok; exact ⟨hok.1.1, hok.1.2, hok.2⟩
    have hkk : ckPss rooms (deep + 1) lots = true := by simp [ckP] at hck; exact hck.2
    have hc' : cPss lots ≤ n := by simp [cP] at hc; omega
    have hokm := (okPss_iff lots).mp h'.2.2
    have hckm := (ckPss_iff rooms (deep + 1) lots).mp hkk
    have e1 := tP_ei lots
    have hl1 : (tP (.either lots)).length = 7 + (tLs lots).length := by rw [e1]; simp; omega
    simp only [show List.isPrefixOf [105, 110, 32] (tP (.either lots) ++ rest) = false by rw [e1]; simp [List.isPrefixOf], ↓x_seq, ↓x_next, ↓x_ret, ↓x_retN, ↓x_drop, ↓x_if, ↓x_asg, ↓x_false, ↓x_brk, ↓x_cnt, ↓x_g0, ↓x_v0, ↓x_g1, ↓x_v1, ↓x_g2, ↓x_v2, ↓x_g3, ↓x_v3, ↓x_g4, ↓x_v4, ↓x_g5, ↓x_v5, ↓x_g6, ↓x_v6, ↓x_g7, ↓x_v7, ↓x_g8, ↓x_v8, ↓x_g9, ↓x_v9, ↓x_g10, ↓x_v10, ↓x_g11, ↓x_v11, ↓x_g12, ↓x_v12, ↓x_g13, ↓x_v13, ↓x_g14, ↓x_v14, ↓x_g15, ↓x_v15, ↓x_g16, ↓x_v16, ↓x_g17, ↓x_v17, ↓x_g18, ↓x_v18, ↓x_g19, ↓x_v19, ↓x_gt2, ↓x_gt3, ↓x_gt4, ↓x_gt5, ↓x_gt6, ↓x_gc, ↓x_gn, ↓x_par2, ↓x_p2, ↓x_par3, ↓x_p3, ↓x_C, ↓x_op, ↓x_test, ↓x_chain, ↓x_andT, ↓x_orT, ↓x_notT, ↓x_ifE, ↓x_andV, ↓x_orV, ↓x_notV, ↓x_nil, ↓x_cons, ↓x_star, ↓x_tup, ↓x_lst, ↓x_callB, ↓x_call, ↓x_callK, ↓x_meth, ↓x_make, ↓x_fld, ↓x_fldS, ↓x_bm0, ↓x_bm, ↓x_sl, ↓x_nop, ↓x_prt, ↓x_neg, ↓x_revL, ↓x_lc, ↓x_for, ↓x_diSeq, ↓x_diEnum, ↓x_rng1, ↓y_addi, ↓y_adds, ↓y_addt, ↓y_int, ↓y_intC, ↓y_is, ↓y_isn, ↓y_nnon, ↓y_nbl, ↓y_nint, ↓y_nstr, ↓y_ntup, ↓y_nref, ↓y_t0, ↓y_t1, ↓y_t2, ↓y_t3, ↓y_m2, ↓y_m3, ↓y_len0, ↓y_len1, ↓y_len2, ↓y_len3, ↓y_len, ↓y_lenS, ↓y_itt, ↓y_iss, ↓y_iii, ↓y_iib, ↓y_i1, ↓y_i1b, ↓y_abs, ↓y_strI, ↓y_slt, ↓y_sls, ↓y_tys, ↓bIn_2, ↓bNotIn_2, ↓bEq_int, ↓bNe_int, wipeD, List.map_cons, List.map_nil, List.set_cons_zero, List.set_cons_succ, Option.some.injEq, exists_and_left, exists_eq_left', exists_eq_left, decide_true, decide_false, Bool.false_eq_true, reduceIte, Bool.not_true, Bool.not_false, List.length_cons, List.length_nil, Nat.reduceAdd, Nat.zero_add, line16, Nat.reduceLeDiff, Int.reduceEq, Int.reduceLT, Int.reduceLE, Int.reduceNeg, or_true, true_or, or_self, or_false, false_or, true_and, and_true, and_self, List.cons_append, List.nil_append, List.append_nil, forall_const, ↓r_takes hM, sp_takes, l_ag]
    refine ⟨a, pre, tP (.either lots) ++ rest, [97, 103, 97, 105, 110, 32], rfl, by simp, by simp only [List.length_append]; omega, hM, ?_⟩
    simp only [show List.isPrefixOf [97, 103, 97, 105, 110, 32] (tP (.either lots) ++ rest) = false by rw [e1]; simp [List.isPrefixOf], ↓x_seq, ↓x_next, ↓x_ret, ↓x_retN, ↓x_drop, ↓x_if, ↓x_asg, ↓x_false, ↓x_brk, ↓x_cnt, ↓x_g0, ↓x_v0, ↓x_g1, ↓x_v1, ↓x_g2, ↓x_v2, ↓x_g3, ↓x_v3, ↓x_g4, ↓x_v4, ↓x_g5, ↓x_v5, ↓x_g6, ↓x_v6, ↓x_g7, ↓x_v7, ↓x_g8, ↓x_v8, ↓x_g9, ↓x_v9, ↓x_g10, ↓x_v10, ↓x_g11, ↓x_v11, ↓x_g12, ↓x_v12, ↓x_g13, ↓x_v13, ↓x_g14, ↓x_v14, ↓x_g15, ↓x_v15, ↓x_g16, ↓x_v16, ↓x_g17, ↓x_v17, ↓x_g18, ↓x_v18, ↓x_g19, ↓x_v19, ↓x_gt2, ↓x_gt3, ↓x_gt4, ↓x_gt5, ↓x_gt6, ↓x_gc, ↓x_gn, ↓x_par2, ↓x_p2, ↓x_par3, ↓x_p3, ↓x_C, ↓x_op, ↓x_test, ↓x_chain, ↓x_andT, ↓x_orT, ↓x_notT, ↓x_ifE, ↓x_andV, ↓x_orV, ↓x_notV, ↓x_nil, ↓x_cons, ↓x_star, ↓x_tup, ↓x_lst, ↓x_callB, ↓x_call, ↓x_callK, ↓x_meth, ↓x_make, ↓x_fld, ↓x_fldS, ↓x_bm0, ↓x_bm, ↓x_sl, ↓x_nop, ↓x_prt, ↓x_neg, ↓x_revL, ↓x_lc, ↓x_for, ↓x_diSeq, ↓x_diEnum, ↓x_rng1, ↓y_addi, ↓y_adds, ↓y_addt, ↓y_int, ↓y_intC, ↓y_is, ↓y_isn, ↓y_nnon, ↓y_nbl, ↓y_nint, ↓y_nstr, ↓y_ntup, ↓y_nref, ↓y_t0, ↓y_t1, ↓y_t2, ↓y_t3, ↓y_m2, ↓y_m3, ↓y_len0, ↓y_len1, ↓y_len2, ↓y_len3, ↓y_len, ↓y_lenS, ↓y_itt, ↓y_iss, ↓y_iii, ↓y_iib, ↓y_i1, ↓y_i1b, ↓y_abs, ↓y_strI, ↓y_slt, ↓y_sls, ↓y_tys, ↓bIn_2, ↓bNotIn_2, ↓bEq_int, ↓bNe_int, wipeD, List.map_cons, List.map_nil, List.set_cons_zero, List.set_cons_succ, Option.some.injEq, exists_and_left, exists_eq_left', exists_eq_left, decide_true, decide_false, Bool.false_eq_true, reduceIte, Bool.not_true, Bool.not_false, List.length_cons, List.length_nil, Nat.reduceAdd, Nat.zero_add, line16, Nat.reduceLeDiff, Int.reduceEq, Int.reduceLT, Int.reduceLE, Int.reduceNeg, or_true, true_or, or_self, or_false, false_or, true_and, and_true, and_self, List.cons_append, List.nil_append, List.append_nil, forall_const, ↓r_need hM, sp_need, l_ei]
    refine ⟨a, pre, tP (.either lots) ++ rest, [101, 105, 116, 104, 101, 114, 32], rfl, by simp, by simp only [List.length_append]; omega, hM, by rw [e1]; simp [List.isPrefixOf], ?_⟩
    cases lots with
    | nil => simp at h'
    | cons l0 ls0 =>
      have ht0 := tLs_tRL l0 ls0
      have hlen0 : (tLs (l0 :: ls0)).length = (tB l0).length + (tRL ls0).length := by rw [ht0, List.length_append]
      simp only [List.length_cons, List.length_nil, Nat.zero_add, Nat.reduceAdd]
      have hM1 : put M a (RS T.C_ProgramReader (pre ++ (tP (.either (l0 :: ls0)) ++ rest)) (pre.length + 7)) a = some (RS T.C_ProgramReader ((pre ++ [101, 105, 116, 104, 101, 114, 32]) ++ (tB l0 ++ (tRL ls0 ++ rest))) (pre ++ [101, 105, 116, 104, 101, 114, 32]).length) := by
        rw [put_same]; exact congrArg some (RS_eq (by rw [e1, ht0]; simp) (by simp))
      simp only [↓x_seq, ↓x_next, ↓x_ret, ↓x_retN, ↓x_drop, ↓x_if, ↓x_asg, ↓x_false, ↓x_brk, ↓x_cnt, ↓x_g0, ↓x_v0, ↓x_g1, ↓x_v1, ↓x_g2, ↓x_v2, ↓x_g3, ↓x_v3, ↓x_g4, ↓x_v4, ↓x_g5, ↓x_v5, ↓x_g6, ↓x_v6, ↓x_g7, ↓x_v7, ↓x_g8, ↓x_v8, ↓x_g9, ↓x_v9, ↓x_g10, ↓x_v10, ↓x_g11, ↓x_v11, ↓x_g12, ↓x_v12, ↓x_g13, ↓x_v13, ↓x_g14, ↓x_v14, ↓x_g15, ↓x_v15, ↓x_g16, ↓x_v16, ↓x_g17, ↓x_v17, ↓x_g18, ↓x_v18, ↓x_g19, ↓x_v19, ↓x_gt2, ↓x_gt3, ↓x_gt4, ↓x_gt5, ↓x_gt6, ↓x_gc, ↓x_gn, ↓x_par2, ↓x_p2, ↓x_par3, ↓x_p3, ↓x_C, ↓x_op, ↓x_test, ↓x_chain, ↓x_andT, ↓x_orT, ↓x_notT, ↓x_ifE, ↓x_andV, ↓x_orV, ↓x_notV, ↓x_nil, ↓x_cons, ↓x_star, ↓x_tup, ↓x_lst, ↓x_callB, ↓x_call, ↓x_callK, ↓x_meth, ↓x_make, ↓x_fld, ↓x_fldS, ↓x_bm0, ↓x_bm, ↓x_sl, ↓x_nop, ↓x_prt, ↓x_neg, ↓x_revL, ↓x_lc, ↓x_for, ↓x_diSeq, ↓x_diEnum, ↓x_rng1, ↓y_addi, ↓y_adds, ↓y_addt, ↓y_int, ↓y_intC, ↓y_is, ↓y_isn, ↓y_nnon, ↓y_nbl, ↓y_nint, ↓y_nstr, ↓y_ntup, ↓y_nref, ↓y_t0, ↓y_t1, ↓y_t2, ↓y_t3, ↓y_m2, ↓y_m3, ↓y_len0, ↓y_len1, ↓y_len2, ↓y_len3, ↓y_len, ↓y_lenS, ↓y_itt, ↓y_iss, ↓y_iii, ↓y_iib, ↓y_i1, ↓y_i1b, ↓y_abs, ↓y_strI, ↓y_slt, ↓y_sls, ↓y_tys, ↓bIn_2, ↓bNotIn_2, ↓bEq_int, ↓bNe_int, wipeD, List.map_cons, List.map_nil, List.set_cons_zero, List.set_cons_succ, Option.some.injEq, exists_and_left, exists_eq_left', exists_eq_left, decide_true, decide_false, Bool.false_eq_true, reduceIte, Bool.not_true, Bool.not_false, List.length_cons, List.length_nil, Nat.reduceAdd, Nat.zero_add, line16, Nat.reduceLeDiff, Int.reduceEq, Int.reduceLT, Int.reduceLE, Int.reduceNeg, or_true, true_or, or_self, or_false, false_or, true_and, and_true, and_self, List.cons_append, List.nil_append, List.append_nil, forall_const, ↓r_brk hM1, sp_br]
      refine ⟨a, pre ++ [101, 105, 116, 104, 101, 114, 32], tRL ls0 ++ rest, l0, rooms, deep + 1, rfl, hokm _ List.mem_cons_self, hckm _ List.mem_cons_self, Nat.le_trans (cPss_mem List.mem_cons_self) hc', by omega, by simp only [List.length_append, List.length_cons, List.length_nil]; omega, hM1, ?_⟩
      intro c hc0
      have hca : a ≠ c := ne_of put_same hc0
      rw [put_put] at hc0
      have hMc : M c = none := by rwa [put_ne (Ne.symm hca)] at hc0
      refine ⟨eiI T.C_ProgramReader a c deep M (pre ++ [101, 105, 116, 104, 101, 114, 32]) rest (l0 :: ls0) none, ?_, ?_⟩
      · refine ⟨_, [l0], ls0, rfl, by simp, rfl, ((SubX.refl.put).put).new hMc, ?_, put_same, rfl⟩
        rw [put_ne hca, put_same]
        exact congrArg some (RS_eq (by simp [tLs, tB]) (by simp [tLs, tB]; omega))
      · rintro m σ M' ⟨dn, rm, hps, hdn, rfl, hS, hMa, hMc', rfl⟩
        have hsp : tLs (l0 :: ls0) = tLs dn ++ tRL rm := by rw [hps]; exact tLs_app hdn rm
        have hln : (tLs (l0 :: ls0)).length = (tLs dn).length + (tRL rm).length := by rw [hsp, List.length_append]
        simp only [↓x_seq, ↓x_next, ↓x_ret, ↓x_retN, ↓x_drop, ↓x_if, ↓x_asg, ↓x_false, ↓x_brk, ↓x_cnt, ↓x_g0, ↓x_v0, ↓x_g1, ↓x_v1, ↓x_g2, ↓x_v2, ↓x_g3, ↓x_v3, ↓x_g4, ↓x_v4, ↓x_g5, ↓x_v5, ↓x_g6, ↓x_v6, ↓x_g7, ↓x_v7, ↓x_g8, ↓x_v8, ↓x_g9, ↓x_v9, ↓x_g10, ↓x_v10, ↓x_g11, ↓x_v11, ↓x_g12, ↓x_v12, ↓x_g13, ↓x_v13, ↓x_g14, ↓x_v14, ↓x_g15, ↓x_v15, ↓x_g16, ↓x_v16, ↓x_g17, ↓x_v17, ↓x_g18, ↓x_v18, ↓x_g19, ↓x_v19, ↓x_gt2, ↓x_gt3, ↓x_gt4, ↓x_gt5, ↓x_gt6, ↓x_gc, ↓x_gn, ↓x_par2, ↓x_p2, ↓x_par3, ↓x_p3, ↓x_C, ↓x_op, ↓x_test, ↓x_chain, ↓x_andT, ↓x_orT, ↓x_notT, ↓x_ifE, ↓x_andV, ↓x_orV, ↓x_notV, ↓x_nil, ↓x_cons, ↓x_star, ↓x_tup, ↓x_lst, ↓x_callB, ↓x_call, ↓x_callK, ↓x_meth, ↓x_make, ↓x_fld, ↓x_fldS, ↓x_bm0, ↓x_bm, ↓x_sl, ↓x_nop, ↓x_prt, ↓x_neg, ↓x_revL, ↓x_lc, ↓x_for, ↓x_diSeq, ↓x_diEnum, ↓x_rng1, ↓y_addi, ↓y_adds, ↓y_addt, ↓y_int, ↓y_intC, ↓y_is, ↓y_isn, ↓y_nnon, ↓y_nbl, ↓y_nint, ↓y_nstr, ↓y_ntup, ↓y_nref, ↓y_t0, ↓y_t1, ↓y_t2, ↓y_t3, ↓y_m2, ↓y_m3, ↓y_len0, ↓y_len1, ↓y_len2, ↓y_len3, ↓y_len, ↓y_lenS, ↓y_itt, ↓y_iss, ↓y_iii, ↓y_iib, ↓y_i1, ↓y_i1b, ↓y_abs, ↓y_strI, ↓y_slt, ↓y_sls, ↓y_tys, ↓bIn_2, ↓bNotIn_2, ↓bEq_int, ↓bNe_int, wipeD, List.map_cons, List.map_nil, List.set_cons_zero, List.set_cons_succ, Option.some.injEq, exists_and_left, exists_eq_left', exists_eq_left, decide_true, decide_false, Bool.false_eq_true, reduceIte, Bool.not_true, Bool.not_false, List.length_cons, List.length_nil, Nat.reduceAdd, Nat.zero_add, line16, Nat.reduceLeDiff, Int.reduceEq, Int.reduceLT, Int.reduceLE, Int.reduceNeg, or_true, true_or, or_self, or_false, false_or, true_and, and_true, and_self, List.cons_append, List.nil_append, List.append_nil, forall_const, ↓r_takes hMa, sp_takes, l_or]
        refine ⟨a, (pre ++ [101, 105, 116, 104, 101, 114, 32]) ++ tLs dn, tRL rm ++ rest, [32, 111, 114, 32], rfl, by simp, by simp only [List.length_append, List.length_cons, List.length_nil]; omega, hMa, ?_⟩
        cases rm with
        | nil =>
          simp only [tRL, List.map_nil, List.flatten_nil, List.nil_append, pf_or_no hgd, ↓x_seq, ↓x_next, ↓x_ret, ↓x_retN, ↓x_drop, ↓x_if, ↓x_asg, ↓x_false, ↓x_brk, ↓x_cnt, ↓x_g0, ↓x_v0, ↓x_g1, ↓x_v1, ↓x_g2, ↓x_v2, ↓x_g3, ↓x_v3, ↓x_g4, ↓x_v4, ↓x_g5, ↓x_v5, ↓x_g6, ↓x_v6, ↓x_g7, ↓x_v7, ↓x_g8, ↓x_v8, ↓x_g9, ↓x_v9, ↓x_g10, ↓x_v10, ↓x_g11, ↓x_v11, ↓x_g12, ↓x_v12, ↓x_g13, ↓x_v13, ↓x_g14, ↓x_v14, ↓x_g15, ↓x_v15, ↓x_g16, ↓x_v16, ↓x_g17, ↓x_v17, ↓x_g18, ↓x_v18, ↓x_g19, ↓x_v19, ↓x_gt2, ↓x_gt3, ↓x_gt4, ↓x_gt5, ↓x_gt6, ↓x_gc, ↓x_gn, ↓x_par2, ↓x_p2, ↓x_par3, ↓x_p3, ↓x_C, ↓x_op, ↓x_test, ↓x_chain, ↓x_andT, ↓x_orT, ↓x_notT, ↓x_ifE, ↓x_andV, ↓x_orV, ↓x_notV, ↓x_nil, ↓x_cons, ↓x_star, ↓x_tup, ↓x_lst, ↓x_callB, ↓x_call, ↓x_callK, ↓x_meth, ↓x_make, ↓x_fld, ↓x_fldS, ↓x_bm0, ↓x_bm, ↓x_sl, ↓x_nop, ↓x_prt, ↓x_neg, ↓x_revL, ↓x_lc, ↓x_for, ↓x_diSeq, ↓x_diEnum, ↓x_rng1, ↓y_addi, ↓y_adds, ↓y_addt, ↓y_int, ↓y_intC, ↓y_is, ↓y_isn, ↓y_nnon, ↓y_nbl, ↓y_nint, ↓y_nstr, ↓y_ntup, ↓y_nref, ↓y_t0, ↓y_t1, ↓y_t2, ↓y_t3, ↓y_m2, ↓y_m3, ↓y_len0, ↓y_len1, ↓y_len2, ↓y_len3, ↓y_len, ↓y_lenS, ↓y_itt, ↓y_iss, ↓y_iii, ↓y_iib, ↓y_i1, ↓y_i1b, ↓y_abs, ↓y_strI, ↓y_slt, ↓y_sls, ↓y_tys, ↓bIn_2, ↓bNotIn_2, ↓bEq_int, ↓bNe_int, wipeD, List.map_cons, List.map_nil, List.set_cons_zero, List.set_cons_succ, Option.some.injEq, exists_and_left, exists_eq_left', exists_eq_left, decide_true, decide_false, Bool.false_eq_true, reduceIte, Bool.not_true, Bool.not_false, List.length_cons, List.length_nil, Nat.reduceAdd, Nat.zero_add, line16, Nat.reduceLeDiff, Int.reduceEq, Int.reduceLT, Int.reduceLE, Int.reduceNeg, or_true, true_or, or_self, or_false, false_or, true_and, and_true, and_self, List.cons_append, List.nil_append, List.append_nil, forall_const]
          rw [List.append_nil] at hps
          have hpd : dn.map (fun l => D.tup (pDs l)) = pDss (l0 :: ls0) := by rw [hps, pDss_map]
          refine ⟨pDss (l0 :: ls0), ?_, ?_⟩
          · show (match M' c with | some (.lst l) => some l | _ => none) = _
            rw [hMc', hpd]
          · show Fg Q (D.tup [.str "either", .tup (pDss (l0 :: ls0))]) M'
            rw [show D.tup [.str "either", .tup (pDss (l0 :: ls0))] = pD (.either (l0 :: ls0)) by rw [pD]]
            refine Fg.mk (hS.fin (o := RS T.C_ProgramReader (pre ++ (tP (.either (l0 :: ls0)) ++ rest)) (pre.length + (tP (.either (l0 :: ls0))).length)) ?_) q
            rw [hMa, ← hps, e1]; exact congrArg some (RS_eq (by simp [tRL]) (by first | (simp; done) | (simp; omega)))
        | cons l rm =>
          have hmem : l ∈ l0 :: ls0 := by rw [hps]; simp
          have e3 : tRL (l :: rm) = [32, 111, 114, 32] ++ (tB l ++ tRL rm) := by simp [tRL]
          have hl3 : (tRL (l :: rm)).length = 4 + ((tB l).length + (tRL rm).length) := by rw [e3]; simp; omega
          simp only [show List.isPrefixOf [32, 111, 114, 32] (tRL (l :: rm) ++ rest) = true by rw [e3]; simp [List.isPrefixOf], ↓x_seq, ↓x_next, ↓x_ret, ↓x_retN, ↓x_drop, ↓x_if, ↓x_asg, ↓x_false, ↓x_brk, ↓x_cnt, ↓x_g0, ↓x_v0, ↓x_g1, ↓x_v1, ↓x_g2, ↓x_v2, ↓x_g3, ↓x_v3, ↓x_g4, ↓x_v4, ↓x_g5, ↓x_v5, ↓x_g6, ↓x_v6, ↓x_g7, ↓x_v7, ↓x_g8, ↓x_v8, ↓x_g9, ↓x_v9, ↓x_g10, ↓x_v10, ↓x_g11, ↓x_v11, ↓x_g12, ↓x_v12, ↓x_g13, ↓x_v13, ↓x_g14, ↓x_v14, ↓x_g15, ↓x_v15, ↓x_g16, ↓x_v16, ↓x_g17, ↓x_v17, ↓x_g18, ↓x_v18, ↓x_g19, ↓x_v19, ↓x_gt2, ↓x_gt3, ↓x_gt4, ↓x_gt5, ↓x_gt6, ↓x_gc, ↓x_gn, ↓x_par2, ↓x_p2, ↓x_par3, ↓x_p3, ↓x_C, ↓x_op, ↓x_test, ↓x_chain, ↓x_andT, ↓x_orT, ↓x_notT, ↓x_ifE, ↓x_andV, ↓x_orV, ↓x_notV, ↓x_nil, ↓x_cons, ↓x_star, ↓x_tup, ↓x_lst, ↓x_callB, ↓x_call, ↓x_callK, ↓x_meth, ↓x_make, ↓x_fld, ↓x_fldS, ↓x_bm0, ↓x_bm, ↓x_sl, ↓x_nop, ↓x_prt, ↓x_neg, ↓x_revL, ↓x_lc, ↓x_for, ↓x_diSeq, ↓x_diEnum, ↓x_rng1, ↓y_addi, ↓y_adds, ↓y_addt, ↓y_int, ↓y_intC, ↓y_is, ↓y_isn, ↓y_nnon, ↓y_nbl, ↓y_nint, ↓y_nstr, ↓y_ntup, ↓y_nref, ↓y_t0, ↓y_t1, ↓y_t2, ↓y_t3, ↓y_m2, ↓y_m3, ↓y_len0, ↓y_len1, ↓y_len2, ↓y_len3, ↓y_len, ↓y_lenS, ↓y_itt, ↓y_iss, ↓y_iii, ↓y_iib, ↓y_i1, ↓y_i1b, ↓y_abs, ↓y_strI, ↓y_slt, ↓y_sls, ↓y_tys, ↓bIn_2, ↓bNotIn_2, ↓bEq_int, ↓bNe_int, wipeD, List.map_cons, List.map_nil, List.set_cons_zero, List.set_cons_succ, Option.some.injEq, exists_and_left, exists_eq_left', exists_eq_left, decide_true, decide_false, Bool.false_eq_true, reduceIte, Bool.not_true, Bool.not_false, List.length_cons, List.length_nil, Nat.reduceAdd, Nat.zero_add, line16, Nat.reduceLeDiff, Int.reduceEq, Int.reduceLT, Int.reduceLE, Int.reduceNeg, or_true, true_or, or_self, or_false, false_or, true_and, and_true, and_self, List.cons_append, List.nil_append, List.append_nil, forall_const]
          have hM2 : put M' a (RS T.C_ProgramReader ((pre ++ [101, 105, 116, 104, 101, 114, 32] ++ tLs dn) ++ (tRL (l :: rm) ++ rest)) ((pre ++ [101, 105, 116, 104, 101, 114, 32] ++ tLs dn).length + 4)) a = some (RS T.C_ProgramReader ((pre ++ [101, 105, 116, 104, 101, 114, 32] ++ tLs dn ++ [32, 111, 114, 32]) ++ (tB l ++ (tRL rm ++ rest))) (pre ++ [101, 105, 116, 104, 101, 114, 32] ++ tLs dn ++ [32, 111, 114, 32]).length) := by
            rw [put_same]; exact congrArg some (RS_eq (by rw [e3]; simp) (by simp; omega))
          have hM3 : put M' a (RS T.C_ProgramReader ((pre ++ [101, 105, 116, 104, 101, 114, 32] ++ tLs dn) ++ (tRL (l :: rm) ++ rest)) ((pre ++ [101, 105, 116, 104, 101, 114, 32] ++ tLs dn).length + 4)) c = some (.lst (dn.map fun l => .tup (pDs l))) := (put_ne (Ne.symm hca)).trans hMc'
          simp only [↓x_seq, ↓x_next, ↓x_ret, ↓x_retN, ↓x_drop, ↓x_if, ↓x_asg, ↓x_false, ↓x_brk, ↓x_cnt, ↓x_g0, ↓x_v0, ↓x_g1, ↓x_v1, ↓x_g2, ↓x_v2, ↓x_g3, ↓x_v3, ↓x_g4, ↓x_v4, ↓x_g5, ↓x_v5, ↓x_g6, ↓x_v6, ↓x_g7, ↓x_v7, ↓x_g8, ↓x_v8, ↓x_g9, ↓x_v9, ↓x_g10, ↓x_v10, ↓x_g11, ↓x_v11, ↓x_g12, ↓x_v12, ↓x_g13, ↓x_v13, ↓x_g14, ↓x_v14, ↓x_g15, ↓x_v15, ↓x_g16, ↓x_v16, ↓x_g17, ↓x_v17, ↓x_g18, ↓x_v18, ↓x_g19, ↓x_v19, ↓x_gt2, ↓x_gt3, ↓x_gt4, ↓x_gt5, ↓x_gt6, ↓x_gc, ↓x_gn, ↓x_par2, ↓x_p2, ↓x_par3, ↓x_p3, ↓x_C, ↓x_op, ↓x_test, ↓x_chain, ↓x_andT, ↓x_orT, ↓x_notT, ↓x_ifE, ↓x_andV, ↓x_orV, ↓x_notV, ↓x_nil, ↓x_cons, ↓x_star, ↓x_tup, ↓x_lst, ↓x_callB, ↓x_call, ↓x_callK, ↓x_meth, ↓x_make, ↓x_fld, ↓x_fldS, ↓x_bm0, ↓x_bm, ↓x_sl, ↓x_nop, ↓x_prt, ↓x_neg, ↓x_revL, ↓x_lc, ↓x_for, ↓x_diSeq, ↓x_diEnum, ↓x_rng1, ↓y_addi, ↓y_adds, ↓y_addt, ↓y_int, ↓y_intC, ↓y_is, ↓y_isn, ↓y_nnon, ↓y_nbl, ↓y_nint, ↓y_nstr, ↓y_ntup, ↓y_nref, ↓y_t0, ↓y_t1, ↓y_t2, ↓y_t3, ↓y_m2, ↓y_m3, ↓y_len0, ↓y_len1, ↓y_len2, ↓y_len3, ↓y_len, ↓y_lenS, ↓y_itt, ↓y_iss, ↓y_iii, ↓y_iib, ↓y_i1, ↓y_i1b, ↓y_abs, ↓y_strI, ↓y_slt, ↓y_sls, ↓y_tys, ↓bIn_2, ↓bNotIn_2, ↓bEq_int, ↓bNe_int, wipeD, List.map_cons, List.map_nil, List.set_cons_zero, List.set_cons_succ, Option.some.injEq, exists_and_left, exists_eq_left', exists_eq_left, decide_true, decide_false, Bool.false_eq_true, reduceIte, Bool.not_true, Bool.not_false, List.length_cons, List.length_nil, Nat.reduceAdd, Nat.zero_add, line16, Nat.reduceLeDiff, Int.reduceEq, Int.reduceLT, Int.reduceLE, Int.reduceNeg, or_true, true_or, or_self, or_false, false_or, true_and, and_true, and_self, List.cons_append, List.nil_append, List.append_nil, forall_const, ↓r_brk hM2, sp_br, ↓y_tyl hM3]
          refine ⟨a, pre ++ [101, 105, 116, 104, 101, 114, 32] ++ tLs dn ++ [32, 111, 114, 32], tRL rm ++ rest, l, rooms, deep + 1, rfl, hokm _ hmem, hckm _ hmem, Nat.le_trans (cPss_mem hmem) hc', by omega, by simp only [List.length_append, List.length_cons, List.length_nil]; omega, hM2, ?_⟩
          have hdl : dn.length ≤ 4 := by
            have := congrArg List.length hps
            rw [List.length_append] at this; simp only [List.length_cons] at this h'; omega
          refine ⟨dn.map fun l => .tup (pDs l), (put_ne (Ne.symm hca)).trans hM3, by rw [List.length_map, line16]; omega, rm.length, by simp, dn ++ [l], rm, by rw [hps]; simp, by simp, rfl, ((hS.put).put).new hMc, ?_, ?_, rfl⟩
          · rw [put_ne hca, put_same]
            have e2 : tLs (dn ++ [l]) = tLs dn ++ ([32, 111, 114, 32] ++ tB l) := by rw [tLs_app hdn]; simp [tRL]
            exact congrArg some (RS_eq (by rw [e2]; simp) (by rw [e2]; simp; omega))
          · rw [put_same]; simp
theorem ok_rparts (T : Tx K mg) : ∀ n : Nat, DFn P w K mg base CX0 (3 * n + 3) T.f_ProgramReader_parts T.d_ProgramReader_parts ["self", "deep"] (sp_pa T.C_ProgramReader n)
  | 0 => n_parts T 0 ⟨fun ds M Q E ⟨a, pre, rest, p, rooms, deep, h1, h2, h3, h4, _⟩ => by have := cP_pos p; omega, fun A outer s H args us vs ds M Q E hr hg he hb hv hR hM ⟨a, pre, rest, p, rooms, deep, h1, h2, h3, h4, _⟩ => by have := cP_pos p; omega⟩
  | n + 1 => n_parts T (n + 1) (n_one_part T n (n_bracketed T n (ok_rparts T n)))
def sp_ProgramReader_parts (C : Addr) : DSp := sp_pa C 15
theorem ok_ProgramReader_parts (T : Tx K mg) : DFn P w K mg base CX0 48 T.f_ProgramReader_parts T.d_ProgramReader_parts ["self", "deep"] (sp_ProgramReader_parts T.C_ProgramReader) := ok_rparts T 15
end
end K76
namespace K76
open PySem PySem.Spec PyProof.Rows L2 DL
mutual
theorem asc_P : ∀ p : Part, okP p = true → ∀ c ∈ tP p, c < 128
  | .inn r own, h => by
    have h' : r < 6 ∧ okPs own = true := by simpa [okP] using h
    cases own with
    | nil =>
      intro c hc
      simp [tP] at hc; omega
    | cons x xs =>
      have := asc_Ps (x :: xs) h'.2
      intro c hc
      by_cases hm : c ∈ tPs (x :: xs)
      · exact this c hm
      · simp [tP, hm] at hc; omega
  | .again own, h => by
    have h' : okPs own = true := by simp [okP] at h; exact h.2
    have := asc_Ps own h'
    intro c hc
    by_cases hm : c ∈ tPs own
    · exact this c hm
    · simp [tP, hm] at hc; omega
  | .either lots, h => by
    have h' : okPss lots = true := by simp [okP] at h; exact h.2
    have := asc_Ls lots h'
    intro c hc
    by_cases hm : c ∈ tLs lots
    · exact this c hm
    · simp [tP, hm] at hc; omega
theorem asc_Ps : ∀ ps : List Part, okPs ps = true → ∀ c ∈ tPs ps, c < 128
  | [], _ => by intro c hc; simp [tPs] at hc
  | [p], h => by
    have h' : okP p = true := by simpa [okPs] using h
    intro c hc
    simp [tPs] at hc
    exact asc_P p h' c hc
  | p :: q :: ps, h => by
    have h' : okP p = true ∧ okPs (q :: ps) = true := by simp [okPs] at h ⊢; exact h
    have e : tPs (p :: q :: ps) = tP p ++ 59 :: 32 :: tPs (q :: ps) := by rw [tPs]
    intro c hc
    rw [e] at hc
    rcases List.mem_append.mp hc with h | h
    · exact asc_P p h'.1 c h
    · rcases List.mem_cons.mp h with h | h
      · omega
      · rcases List.mem_cons.mp h with h | h
        · omega
        · exact asc_Ps (q :: ps) h'.2 c h
theorem asc_Ls : ∀ ls : List (List Part), okPss ls = true → ∀ c ∈ tLs ls, c < 128
  | [], _ => by intro c hc; simp [tLs] at hc
  | [l], h => by
    have h' : okPs l = true := by simpa [okPss] using h
    intro c hc
    simp [tLs] at hc
    rcases hc with h | h | h
    · omega
    · exact asc_Ps l h' c h
    · omega
  | l :: m :: ls, h => by
    have h' : okPs l = true ∧ okPss (m :: ls) = true := by simp [okPss] at h ⊢; exact h
    have e : tLs (l :: m :: ls) = 40 :: (tPs l ++ [41]) ++ 32 :: 111 :: 114 :: 32 :: tLs (m :: ls) := by rw [tLs]
    intro c hc
    rw [e] at hc
    rcases List.mem_append.mp hc with h | h
    · rcases List.mem_cons.mp h with h | h
      · omega
      · rcases List.mem_append.mp h with h | h
        · exact asc_Ps l h'.1 c h
        · simp at h; omega
    · simp only [List.mem_cons] at h
      rcases h with h | h | h | h | h
      · omega
      · omega
      · omega
      · omega
      · exact asc_Ls (m :: ls) h'.2 c h
end
theorem so_Ps {ps : List Part} (h : okPs ps = true) : PyData.strOk (S (tPs ps)) = true := so_ascii _ (asc_Ps ps h)
section
variable {P : Program} {w : World} {K : PySem.W.Frag} {mg : Str → Option Value} {base : Heap}
theorem r_sett {C a : Addr} {M : Mp} {N : List (Str × D) → Prop} (h : M a = some (.ins C [])) : (∃ fs, M a = some (.ins C fs) ∧ fs.length < 1000 ∧ N fs) = N [] := by
  rw [h]
  exact propext ⟨fun ⟨fs, e, _, q⟩ => by cases e; exact q, fun q => ⟨_, rfl, by simp, q⟩⟩
def sp_init (C : Addr) : DSp := fun ds M Q E => ∃ (a : Addr) (t : List Nat), ds = [.ref a, .str (S t)] ∧ M a = some (.ins C []) ∧ Q .non (put M a (RS C t 0))
theorem ok_ProgramReader___init__ (T : Tx K mg) : DFn P w K mg base CX0 1 T.f_ProgramReader___init__ T.d_ProgramReader___init__ ["self", "text"] (sp_init T.C_ProgramReader) := by
  refine dfn_of (N := N_ProgramReader___init__) T.F_ProgramReader___init__ sc_ProgramReader___init__ (by decide) (fun ds M Q E h => ?_) (fun cdv A outer s H hr hgd => (dss_cons (ds_fld T.cl_ProgramReader T.a_text (de_var 0) (de_var 1)) (dss_one (ds_fld T.cl_ProgramReader T.a_place (de_var 0) de_int)))) ?_
  · obtain ⟨_, _, rfl, _⟩ := h; rfl
  rintro ds M Q E ⟨a, t, rfl, hM, q⟩
  rw [st_ProgramReader___init__]
  simp only [↓x_seq, ↓x_next, ↓x_ret, ↓x_retN, ↓x_drop, ↓x_if, ↓x_asg, ↓x_false, ↓x_brk, ↓x_cnt, ↓x_g0, ↓x_v0, ↓x_g1, ↓x_v1, ↓x_g2, ↓x_v2, ↓x_g3, ↓x_v3, ↓x_g4, ↓x_v4, ↓x_g5, ↓x_v5, ↓x_g6, ↓x_v6, ↓x_g7, ↓x_v7, ↓x_g8, ↓x_v8, ↓x_g9, ↓x_v9, ↓x_g10, ↓x_v10, ↓x_g11, ↓x_v11, ↓x_g12, ↓x_v12, ↓x_g13, ↓x_v13, ↓x_g14, ↓x_v14, ↓x_g15, ↓x_v15, ↓x_g16, ↓x_v16, ↓x_g17, ↓x_v17, ↓x_g18, ↓x_v18, ↓x_g19, ↓x_v19, ↓x_gt2, ↓x_gt3, ↓x_gt4, ↓x_gt5, ↓x_gt6, ↓x_gc, ↓x_gn, ↓x_par2, ↓x_p2, ↓x_par3, ↓x_p3, ↓x_C, ↓x_op, ↓x_test, ↓x_chain, ↓x_andT, ↓x_orT, ↓x_notT, ↓x_ifE, ↓x_andV, ↓x_orV, ↓x_notV, ↓x_nil, ↓x_cons, ↓x_star, ↓x_tup, ↓x_lst, ↓x_callB, ↓x_call, ↓x_callK, ↓x_meth, ↓x_make, ↓x_fld, ↓x_fldS, ↓x_bm0, ↓x_bm, ↓x_sl, ↓x_nop, ↓x_prt, ↓x_neg, ↓x_revL, ↓x_lc, ↓x_for, ↓x_diSeq, ↓x_diEnum, ↓x_rng1, ↓y_addi, ↓y_adds, ↓y_addt, ↓y_int, ↓y_intC, ↓y_is, ↓y_isn, ↓y_nnon, ↓y_nbl, ↓y_nint, ↓y_nstr, ↓y_ntup, ↓y_nref, ↓y_t0, ↓y_t1, ↓y_t2, ↓y_t3, ↓y_m2, ↓y_m3, ↓y_len0, ↓y_len1, ↓y_len2, ↓y_len3, ↓y_len, ↓y_lenS, ↓y_itt, ↓y_iss, ↓y_iii, ↓y_iib, ↓y_i1, ↓y_i1b, ↓y_abs, ↓y_strI, ↓y_slt, ↓y_sls, ↓y_tys, ↓bIn_2, ↓bNotIn_2, ↓bEq_int, ↓bNe_int, wipeD, List.map_cons, List.map_nil, List.set_cons_zero, List.set_cons_succ, Option.some.injEq, exists_and_left, exists_eq_left', exists_eq_left, decide_true, decide_false, Bool.false_eq_true, reduceIte, Bool.not_true, Bool.not_false, List.length_cons, List.length_nil, Nat.reduceAdd, Nat.zero_add, line16, Nat.reduceLeDiff, Int.reduceEq, Int.reduceLT, Int.reduceLE, Int.reduceNeg, or_true, true_or, or_self, or_false, false_or, true_and, and_true, and_self, List.cons_append, List.nil_append, List.append_nil, forall_const]
  refine ⟨_, hM, by simp, _, put_same, by simp [putFD], ?_⟩
  rw [put_put]
  exact Fg.now q
def sp_read_program : DSp := fun ds M Q E => ∃ ps : List Part, ds = [.str (S (tPs ps))] ∧ ps ≠ [] ∧ okPs ps = true ∧ cPs ps ≤ 12 ∧ ckPs [] 0 ps = true ∧ 0 < iPs ps ∧ Q (.tup (pDs ps)) M
theorem ok_read_program (T : Tx K mg) : DFn P w K mg base CX0 49 T.f_read_program T.d_read_program ["value"] sp_read_program := by
  refine dfn_of (N := N_read_program) T.F_read_program sc_read_program (by decide) (fun ds M Q E h => ?_) (fun cdv A outer s H hr hgd => (dss_cons (ds_if (dt_not (dt_val (de_callB call_isi tr_isi rfl T.n_isinstance bt_isinstance (da_cons (de_var 0) (da_cons (de_bty rfl T.n_str bt_str) da_nil))))) (dss_one ds_never) dss_nil) (dss_cons (ds_set (i := 1) sc_read_program.nd rfl (Or.inl rfl) (de_make T.mk_ProgramReader (ok_ProgramReader___init__ T) (hr.mono (by decide)) hgd rfl T.g_ProgramReader T.b_ProgramReader___init__ dpass0 (da_cons (de_var 0) da_nil))) (dss_cons (ds_set (i := 2) sc_read_program.nd rfl (Or.inl rfl) (de_meth (de_var 1) T.cl_ProgramReader T.m_ProgramReader_parts (ok_ProgramReader_parts T) (hr.mono (by omega)) hgd T.b_ProgramReader_parts dpass0 (da_cons de_int da_nil))) (dss_cons (ds_if (DW.dt (dw_or (dt_cmp op_lt tr_intB (de_fld T.cl_ProgramReader T.a_place (de_var 1)) (de_callB call_len tr_len rfl T.n_len bt_len (da_cons (de_var 0) da_nil)) (nomark _)) (dw_or (dt_cmp op_notN tr_isNot (de_call (ok_program_error T) (hr.mono (by omega)) hgd rfl T.g_program_error T.F_program_error.kp T.b_program_error dpass0 (da_cons (de_glob (v := (.int 6)) (d := (.int 6)) rfl T.c_MAX_ROOMS ⟨_, rfl⟩ (fun _ => rfl)) (da_cons (de_var 2) da_nil))) de_non (nomark _)) (dw_or1 (dt_cmp (op_neD hr.units) tr_ne (de_call (ok_program_text T) (hr.mono (by omega)) hgd rfl T.g_program_text T.F_program_text.kp T.b_program_text dpass0 (da_cons (de_var 2) da_nil)) (de_var 0) (nomark _)))))) (dss_one ds_never) dss_nil) (dss_one (ds_ret (de_var 2)))))))) ?_
  · obtain ⟨_, rfl, _⟩ := h; rfl
  rintro ds M Q E ⟨ps, rfl, hne, hok, hc, hck, hi, q⟩
  rw [st_read_program]
  have hl := tPs_len ps hok
  simp only [↓x_seq, ↓x_next, ↓x_ret, ↓x_retN, ↓x_drop, ↓x_if, ↓x_asg, ↓x_false, ↓x_brk, ↓x_cnt, ↓x_g0, ↓x_v0, ↓x_g1, ↓x_v1, ↓x_g2, ↓x_v2, ↓x_g3, ↓x_v3, ↓x_g4, ↓x_v4, ↓x_g5, ↓x_v5, ↓x_g6, ↓x_v6, ↓x_g7, ↓x_v7, ↓x_g8, ↓x_v8, ↓x_g9, ↓x_v9, ↓x_g10, ↓x_v10, ↓x_g11, ↓x_v11, ↓x_g12, ↓x_v12, ↓x_g13, ↓x_v13, ↓x_g14, ↓x_v14, ↓x_g15, ↓x_v15, ↓x_g16, ↓x_v16, ↓x_g17, ↓x_v17, ↓x_g18, ↓x_v18, ↓x_g19, ↓x_v19, ↓x_gt2, ↓x_gt3, ↓x_gt4, ↓x_gt5, ↓x_gt6, ↓x_gc, ↓x_gn, ↓x_par2, ↓x_p2, ↓x_par3, ↓x_p3, ↓x_C, ↓x_op, ↓x_test, ↓x_chain, ↓x_andT, ↓x_orT, ↓x_notT, ↓x_ifE, ↓x_andV, ↓x_orV, ↓x_notV, ↓x_nil, ↓x_cons, ↓x_star, ↓x_tup, ↓x_lst, ↓x_callB, ↓x_call, ↓x_callK, ↓x_meth, ↓x_make, ↓x_fld, ↓x_fldS, ↓x_bm0, ↓x_bm, ↓x_sl, ↓x_nop, ↓x_prt, ↓x_neg, ↓x_revL, ↓x_lc, ↓x_for, ↓x_diSeq, ↓x_diEnum, ↓x_rng1, ↓y_addi, ↓y_adds, ↓y_addt, ↓y_int, ↓y_intC, ↓y_is, ↓y_isn, ↓y_nnon, ↓y_nbl, ↓y_nint, ↓y_nstr, ↓y_ntup, ↓y_nref, ↓y_t0, ↓y_t1, ↓y_t2, ↓y_t3, ↓y_m2, ↓y_m3, ↓y_len0, ↓y_len1, ↓y_len2, ↓y_len3, ↓y_len, ↓y_lenS, ↓y_itt, ↓y_iss, ↓y_iii, ↓y_iib, ↓y_i1, ↓y_i1b, ↓y_abs, ↓y_strI, ↓y_slt, ↓y_sls, ↓y_tys, ↓bIn_2, ↓bNotIn_2, ↓bEq_int, ↓bNe_int, wipeD, List.map_cons, List.map_nil, List.set_cons_zero, List.set_cons_succ, Option.some.injEq, exists_and_left, exists_eq_left', exists_eq_left, decide_true, decide_false, Bool.false_eq_true, reduceIte, Bool.not_true, Bool.not_false, List.length_cons, List.length_nil, Nat.reduceAdd, Nat.zero_add, line16, Nat.reduceLeDiff, Int.reduceEq, Int.reduceLT, Int.reduceLE, Int.reduceNeg, or_true, true_or, or_self, or_false, false_or, true_and, and_true, and_self, List.cons_append, List.nil_append, List.append_nil, forall_const]
  intro a ha
  refine ⟨a, tPs ps, rfl, put_same, rfl, ?_⟩
  rw [put_put]
  have hM : put M a (RS T.C_ProgramReader (tPs ps) 0) a = some (RS T.C_ProgramReader (tPs ps) 0) := put_same
  simp only [↓x_seq, ↓x_next, ↓x_ret, ↓x_retN, ↓x_drop, ↓x_if, ↓x_asg, ↓x_false, ↓x_brk, ↓x_cnt, ↓x_g0, ↓x_v0, ↓x_g1, ↓x_v1, ↓x_g2, ↓x_v2, ↓x_g3, ↓x_v3, ↓x_g4, ↓x_v4, ↓x_g5, ↓x_v5, ↓x_g6, ↓x_v6, ↓x_g7, ↓x_v7, ↓x_g8, ↓x_v8, ↓x_g9, ↓x_v9, ↓x_g10, ↓x_v10, ↓x_g11, ↓x_v11, ↓x_g12, ↓x_v12, ↓x_g13, ↓x_v13, ↓x_g14, ↓x_v14, ↓x_g15, ↓x_v15, ↓x_g16, ↓x_v16, ↓x_g17, ↓x_v17, ↓x_g18, ↓x_v18, ↓x_g19, ↓x_v19, ↓x_gt2, ↓x_gt3, ↓x_gt4, ↓x_gt5, ↓x_gt6, ↓x_gc, ↓x_gn, ↓x_par2, ↓x_p2, ↓x_par3, ↓x_p3, ↓x_C, ↓x_op, ↓x_test, ↓x_chain, ↓x_andT, ↓x_orT, ↓x_notT, ↓x_ifE, ↓x_andV, ↓x_orV, ↓x_notV, ↓x_nil, ↓x_cons, ↓x_star, ↓x_tup, ↓x_lst, ↓x_callB, ↓x_call, ↓x_callK, ↓x_meth, ↓x_make, ↓x_fld, ↓x_fldS, ↓x_bm0, ↓x_bm, ↓x_sl, ↓x_nop, ↓x_prt, ↓x_neg, ↓x_revL, ↓x_lc, ↓x_for, ↓x_diSeq, ↓x_diEnum, ↓x_rng1, ↓y_addi, ↓y_adds, ↓y_addt, ↓y_int, ↓y_intC, ↓y_is, ↓y_isn, ↓y_nnon, ↓y_nbl, ↓y_nint, ↓y_nstr, ↓y_ntup, ↓y_nref, ↓y_t0, ↓y_t1, ↓y_t2, ↓y_t3, ↓y_m2, ↓y_m3, ↓y_len0, ↓y_len1, ↓y_len2, ↓y_len3, ↓y_len, ↓y_lenS, ↓y_itt, ↓y_iss, ↓y_iii, ↓y_iib, ↓y_i1, ↓y_i1b, ↓y_abs, ↓y_strI, ↓y_slt, ↓y_sls, ↓y_tys, ↓bIn_2, ↓bNotIn_2, ↓bEq_int, ↓bNe_int, wipeD, List.map_cons, List.map_nil, List.set_cons_zero, List.set_cons_succ, Option.some.injEq, exists_and_left, exists_eq_left', exists_eq_left, decide_true, decide_false, Bool.false_eq_true, reduceIte, Bool.not_true, Bool.not_false, List.length_cons, List.length_nil, Nat.reduceAdd, Nat.zero_add, line16, Nat.reduceLeDiff, Int.reduceEq, Int.reduceLT, Int.reduceLE, Int.reduceNeg, or_true, true_or, or_self, or_false, false_or, true_and, and_true, and_self, List.cons_append, List.nil_append, List.append_nil, forall_const, ↓r_parts hM]
  refine ⟨a, [], [], ps, [], 0, rfl, hok, hck, by omega, by omega, by simp; omega, hne, fun c h => by simp at h, by rw [hM]; exact congrArg some (RS_eq (by simp) rfl), ?_⟩
  rw [put_put, RS_eq (t' := tPs ps) (n' := (tPs ps).length) (by simp) (by simp)]
  have hM2 : put M a (RS T.C_ProgramReader (tPs ps) (tPs ps).length) a = some (RS T.C_ProgramReader (tPs ps) (tPs ps).length) := put_same
  simp only [↓x_seq, ↓x_next, ↓x_ret, ↓x_retN, ↓x_drop, ↓x_if, ↓x_asg, ↓x_false, ↓x_brk, ↓x_cnt, ↓x_g0, ↓x_v0, ↓x_g1, ↓x_v1, ↓x_g2, ↓x_v2, ↓x_g3, ↓x_v3, ↓x_g4, ↓x_v4, ↓x_g5, ↓x_v5, ↓x_g6, ↓x_v6, ↓x_g7, ↓x_v7, ↓x_g8, ↓x_v8, ↓x_g9, ↓x_v9, ↓x_g10, ↓x_v10, ↓x_g11, ↓x_v11, ↓x_g12, ↓x_v12, ↓x_g13, ↓x_v13, ↓x_g14, ↓x_v14, ↓x_g15, ↓x_v15, ↓x_g16, ↓x_v16, ↓x_g17, ↓x_v17, ↓x_g18, ↓x_v18, ↓x_g19, ↓x_v19, ↓x_gt2, ↓x_gt3, ↓x_gt4, ↓x_gt5, ↓x_gt6, ↓x_gc, ↓x_gn, ↓x_par2, ↓x_p2, ↓x_par3, ↓x_p3, ↓x_C, ↓x_op, ↓x_test, ↓x_chain, ↓x_andT, ↓x_orT, ↓x_notT, ↓x_ifE, ↓x_andV, ↓x_orV, ↓x_notV, ↓x_nil, ↓x_cons, ↓x_star, ↓x_tup, ↓x_lst, ↓x_callB, ↓x_call, ↓x_callK, ↓x_meth, ↓x_make, ↓x_fld, ↓x_fldS, ↓x_bm0, ↓x_bm, ↓x_sl, ↓x_nop, ↓x_prt, ↓x_neg, ↓x_revL, ↓x_lc, ↓x_for, ↓x_diSeq, ↓x_diEnum, ↓x_rng1, ↓y_addi, ↓y_adds, ↓y_addt, ↓y_int, ↓y_intC, ↓y_is, ↓y_isn, ↓y_nnon, ↓y_nbl, ↓y_nint, ↓y_nstr, ↓y_ntup, ↓y_nref, ↓y_t0, ↓y_t1, ↓y_t2, ↓y_t3, ↓y_m2, ↓y_m3, ↓y_len0, ↓y_len1, ↓y_len2, ↓y_len3, ↓y_len, ↓y_lenS, ↓y_itt, ↓y_iss, ↓y_iii, ↓y_iib, ↓y_i1, ↓y_i1b, ↓y_abs, ↓y_strI, ↓y_slt, ↓y_sls, ↓y_tys, ↓bIn_2, ↓bNotIn_2, ↓bEq_int, ↓bNe_int, wipeD, List.map_cons, List.map_nil, List.set_cons_zero, List.set_cons_succ, Option.some.injEq, exists_and_left, exists_eq_left', exists_eq_left, decide_true, decide_false, Bool.false_eq_true, reduceIte, Bool.not_true, Bool.not_false, List.length_cons, List.length_nil, Nat.reduceAdd, Nat.zero_add, line16, Nat.reduceLeDiff, Int.reduceEq, Int.reduceLT, Int.reduceLE, Int.reduceNeg, or_true, true_or, or_self, or_false, false_or, true_and, and_true, and_self, List.cons_append, List.nil_append, List.append_nil, forall_const, ↓r_place hM2, ↓r_place' hM2, S_len, Int.lt_irrefl]
  refine ⟨by omega, ps, rfl, hok, hc, hck, hi, ?_⟩
  simp only [↓x_seq, ↓x_next, ↓x_ret, ↓x_retN, ↓x_drop, ↓x_if, ↓x_asg, ↓x_false, ↓x_brk, ↓x_cnt, ↓x_g0, ↓x_v0, ↓x_g1, ↓x_v1, ↓x_g2, ↓x_v2, ↓x_g3, ↓x_v3, ↓x_g4, ↓x_v4, ↓x_g5, ↓x_v5, ↓x_g6, ↓x_v6, ↓x_g7, ↓x_v7, ↓x_g8, ↓x_v8, ↓x_g9, ↓x_v9, ↓x_g10, ↓x_v10, ↓x_g11, ↓x_v11, ↓x_g12, ↓x_v12, ↓x_g13, ↓x_v13, ↓x_g14, ↓x_v14, ↓x_g15, ↓x_v15, ↓x_g16, ↓x_v16, ↓x_g17, ↓x_v17, ↓x_g18, ↓x_v18, ↓x_g19, ↓x_v19, ↓x_gt2, ↓x_gt3, ↓x_gt4, ↓x_gt5, ↓x_gt6, ↓x_gc, ↓x_gn, ↓x_par2, ↓x_p2, ↓x_par3, ↓x_p3, ↓x_C, ↓x_op, ↓x_test, ↓x_chain, ↓x_andT, ↓x_orT, ↓x_notT, ↓x_ifE, ↓x_andV, ↓x_orV, ↓x_notV, ↓x_nil, ↓x_cons, ↓x_star, ↓x_tup, ↓x_lst, ↓x_callB, ↓x_call, ↓x_callK, ↓x_meth, ↓x_make, ↓x_fld, ↓x_fldS, ↓x_bm0, ↓x_bm, ↓x_sl, ↓x_nop, ↓x_prt, ↓x_neg, ↓x_revL, ↓x_lc, ↓x_for, ↓x_diSeq, ↓x_diEnum, ↓x_rng1, ↓y_addi, ↓y_adds, ↓y_addt, ↓y_int, ↓y_intC, ↓y_is, ↓y_isn, ↓y_nnon, ↓y_nbl, ↓y_nint, ↓y_nstr, ↓y_ntup, ↓y_nref, ↓y_t0, ↓y_t1, ↓y_t2, ↓y_t3, ↓y_m2, ↓y_m3, ↓y_len0, ↓y_len1, ↓y_len2, ↓y_len3, ↓y_len, ↓y_lenS, ↓y_itt, ↓y_iss, ↓y_iii, ↓y_iib, ↓y_i1, ↓y_i1b, ↓y_abs, ↓y_strI, ↓y_slt, ↓y_sls, ↓y_tys, ↓bIn_2, ↓bNotIn_2, ↓bEq_int, ↓bNe_int, wipeD, List.map_cons, List.map_nil, List.set_cons_zero, List.set_cons_succ, Option.some.injEq, exists_and_left, exists_eq_left', exists_eq_left, decide_true, decide_false, Bool.false_eq_true, reduceIte, Bool.not_true, Bool.not_false, List.length_cons, List.length_nil, Nat.reduceAdd, Nat.zero_add, line16, Nat.reduceLeDiff, Int.reduceEq, Int.reduceLT, Int.reduceLE, Int.reduceNeg, or_true, true_or, or_self, or_false, false_or, true_and, and_true, and_self, List.cons_append, List.nil_append, List.append_nil, forall_const]
  refine ⟨ps, rfl, hok, by omega, by omega, ?_⟩
  simp only [↓bNe_str (so_Ps hok) (so_Ps hok), ↓x_seq, ↓x_next, ↓x_ret, ↓x_retN, ↓x_drop, ↓x_if, ↓x_asg, ↓x_false, ↓x_brk, ↓x_cnt, ↓x_g0, ↓x_v0, ↓x_g1, ↓x_v1, ↓x_g2, ↓x_v2, ↓x_g3, ↓x_v3, ↓x_g4, ↓x_v4, ↓x_g5, ↓x_v5, ↓x_g6, ↓x_v6, ↓x_g7, ↓x_v7, ↓x_g8, ↓x_v8, ↓x_g9, ↓x_v9, ↓x_g10, ↓x_v10, ↓x_g11, ↓x_v11, ↓x_g12, ↓x_v12, ↓x_g13, ↓x_v13, ↓x_g14, ↓x_v14, ↓x_g15, ↓x_v15, ↓x_g16, ↓x_v16, ↓x_g17, ↓x_v17, ↓x_g18, ↓x_v18, ↓x_g19, ↓x_v19, ↓x_gt2, ↓x_gt3, ↓x_gt4, ↓x_gt5, ↓x_gt6, ↓x_gc, ↓x_gn, ↓x_par2, ↓x_p2, ↓x_par3, ↓x_p3, ↓x_C, ↓x_op, ↓x_test, ↓x_chain, ↓x_andT, ↓x_orT, ↓x_notT, ↓x_ifE, ↓x_andV, ↓x_orV, ↓x_notV, ↓x_nil, ↓x_cons, ↓x_star, ↓x_tup, ↓x_lst, ↓x_callB, ↓x_call, ↓x_callK, ↓x_meth, ↓x_make, ↓x_fld, ↓x_fldS, ↓x_bm0, ↓x_bm, ↓x_sl, ↓x_nop, ↓x_prt, ↓x_neg, ↓x_revL, ↓x_lc, ↓x_for, ↓x_diSeq, ↓x_diEnum, ↓x_rng1, ↓y_addi, ↓y_adds, ↓y_addt, ↓y_int, ↓y_intC, ↓y_is, ↓y_isn, ↓y_nnon, ↓y_nbl, ↓y_nint, ↓y_nstr, ↓y_ntup, ↓y_nref, ↓y_t0, ↓y_t1, ↓y_t2, ↓y_t3, ↓y_m2, ↓y_m3, ↓y_len0, ↓y_len1, ↓y_len2, ↓y_len3, ↓y_len, ↓y_lenS, ↓y_itt, ↓y_iss, ↓y_iii, ↓y_iib, ↓y_i1, ↓y_i1b, ↓y_abs, ↓y_strI, ↓y_slt, ↓y_sls, ↓y_tys, ↓bIn_2, ↓bNotIn_2, ↓bEq_int, ↓bNe_int, wipeD, List.map_cons, List.map_nil, List.set_cons_zero, List.set_cons_succ, Option.some.injEq, exists_and_left, exists_eq_left', exists_eq_left, decide_true, decide_false, Bool.false_eq_true, reduceIte, Bool.not_true, Bool.not_false, List.length_cons, List.length_nil, Nat.reduceAdd, Nat.zero_add, line16, Nat.reduceLeDiff, Int.reduceEq, Int.reduceLT, Int.reduceLE, Int.reduceNeg, or_true, true_or, or_self, or_false, false_or, true_and, and_true, and_self, List.cons_append, List.nil_append, List.append_nil, forall_const]
  exact Fg.mk (Sub.putNew ha) q
end
end K76
namespace K76
open PySem PySem.Spec PyProof.Rows L2 DL
/-! ### the deck -/
def DKo (g : Addr) (sl turn : Int) : MO := .dk [(.inr "great", .ref g), (.inr "seal", .int sl), (.inr "turn", .int turn)]
def Dk (a g : Addr) (M : Mp) : Prop := ∃ (gs : List Int) (sl turn : Int), M a = some (DKo g sl turn) ∧ M g = some (.lst (gs.map D.int)) ∧ (∀ x ∈ gs, 0 ≤ x) ∧ a ≠ g ∧ gs.length ≤ 60
/-- all but the deck stays -/
def Kp (a g : Addr) (M M' : Mp) : Prop := ∀ b o, b ≠ a → b ≠ g → M b = some o → M' b = some o
theorem Kp.refl {a g : Addr} {M : Mp} : Kp a g M M := fun _ _ _ _ h => h
theorem Kp.trans {a g : Addr} {M M1 M2 : Mp} (h : Kp a g M M1) (h2 : Kp a g M1 M2) : Kp a g M M2 := fun b o e1 e2 q => h2 b o e1 e2 (h b o e1 e2 q)
theorem Kp.sub {a g : Addr} {M M' : Mp} (s : Sub M M') : Kp a g M M' := fun b o _ _ h => s b o h
theorem Kp.puta {a g : Addr} {M M' : Mp} {o : MO} (h : Kp a g M M') : Kp a g M (put M' a o) := fun b o' e1 e2 q => (put_ne e1).trans (h b o' e1 e2 q)
theorem Kp.putg {a g : Addr} {M M' : Mp} {o : MO} (h : Kp a g M M') : Kp a g M (put M' g o) := fun b o' e1 e2 q => (put_ne e2).trans (h b o' e1 e2 q)
theorem Kp.new {a g c : Addr} {M M' : Mp} {o : MO} (h : Kp a g M M') (hc : M c = none) : Kp a g M (put M' c o) := fun b o' e1 e2 q => (put_ne (ne_of q hc)).trans (h b o' e1 e2 q)
theorem Dk.sub {a g : Addr} {M M' : Mp} (h : Dk a g M) (s : Sub M M') : Dk a g M' := by
  obtain ⟨gs, sl, turn, h1, h2, h3⟩ := h
  exact ⟨gs, sl, turn, s _ _ h1, s _ _ h2, h3⟩
theorem cm_c (x : Int) {c : Int} (h : -(2 ^ 64) < c ∧ c < 2 ^ 64) : CMul x c := .inr h
theorem cm_m (x : Int) {c : Int} (h : 0 < c ∧ c < 2 ^ 64) : CMul (x % c) (x % c) := .inl (by
  have h1 := Int.emod_nonneg x (show c ≠ 0 by omega)
  have h2 := Int.emod_lt_of_pos x h.1
  have h3 := h.2
  constructor <;> omega)
section
variable {a g : Addr} {sl turn : Int} {M : Mp} {Q : D → Mp → Prop}
theorem d_great (h : M a = some (DKo g sl turn)) : bIx (.ref a) (.str "great") M Q = Q (.ref g) M := by
  rw [y_ixd h]; exact propext ⟨fun ⟨d, e, q⟩ => by cases e; exact q, fun q => ⟨_, rfl, q⟩⟩
theorem d_sl (h : M a = some (DKo g sl turn)) : bIx (.ref a) (.str "seal") M Q = Q (.int sl) M := by
  rw [y_ixd h]; exact propext ⟨fun ⟨d, e, q⟩ => by cases e; exact q, fun q => ⟨_, rfl, q⟩⟩
theorem d_turn (h : M a = some (DKo g sl turn)) : bIx (.ref a) (.str "turn") M Q = Q (.int turn) M := by
  rw [y_ixd h]; exact propext ⟨fun ⟨d, e, q⟩ => by cases e; exact q, fun q => ⟨_, rfl, q⟩⟩
theorem d_set (h : M a = some (DKo g sl turn)) {t : Int} {σ : Sg} {N : Sg → Mp → Prop} : dgSub (dC (.ref a)) (dC (.str "turn")) (.int t) σ M N = N σ (put M a (DKo g sl t)) := by
  show (match M a with | some (.lst l) => _ | some (.dk kvs) => _ | _ => False) = _
  rw [h]
  exact propext ⟨fun ⟨k, e, _, q⟩ => by cases e; exact q, fun q => ⟨_, rfl, by simp [line16], q⟩⟩
end
section
variable {P : Program} {w : World} {K : PySem.W.Frag} {mg : Str → Option Value} {base : Heap}
def sp__law_draw : DSp := fun ds M Q E => ∃ (a g : Addr) (many : Nat), ds = [.ref a, .int ((many : Nat) : Int)] ∧ 1 ≤ many ∧ many ≤ 1000 ∧ Dk a g M ∧ ∀ (r : Nat) M', r < many → Dk a g M' → Kp a g M M' → Q (.int ((r : Nat) : Int)) M'
theorem ok__law_draw (T : Tx K mg) : DFn P w K mg base CX0 1 T.f__law_draw T.d__law_draw ["deck", "many"] sp__law_draw := by
  refine dfn_of (N := N__law_draw) T.F__law_draw sc__law_draw (by decide) (fun ds M Q E h => ?_) (fun cdv A outer s H hr hgd => (dss_cons (ds_if (dt_cmp op_lt tr_intB (de_var 1) de_int (nomark _)) (dss_one (ds_ret de_int)) dss_nil) (dss_cons (ds_if (dt_cmp (op_neD hr.units) tr_ne (de_ix (hu_of hr) (de_var 0) de_str) (de_lst da_nil) (nomark _)) (dss_cons (ds_set (i := 2) sc__law_draw.nd rfl (Or.inl rfl) (de_bm0 PySem.F.plainAttrs_list PySem.F.slot_list_pop PySem.F.type_list_pop mt_pop tr_pop (de_ix (hu_of hr) (de_var 0) de_str))) (dss_cons (ds_if (dt_cmp op_ge tr_intB (de_var 2) (de_var 1) (nomark _)) (dss_one (ds_expr (de_bm PySem.F.plainAttrs_list PySem.F.slot_list_append PySem.F.type_list_append mt_append tr_append (de_ix (hu_of hr) (de_var 0) de_str) (da_cons (de_bin op_fdiv tr_intC (de_var 2) (de_var 1)) da_nil)))) dss_nil) (dss_one (ds_ret (de_bin op_mod tr_intC (de_callTy call_int1 tr_int1 rfl T.n_int bt_int (da_cons (de_var 2) da_nil)) (de_var 1)))))) dss_nil) (dss_cons (ds_asg (de_bin op_add4 tr_add (de_ix (hu_of hr) (de_var 0) de_str) de_int) (dg_sub (hu_of hr) (de_var 0) de_str)) (dss_cons (ds_set (i := 3) sc__law_draw.nd rfl (Or.inl rfl) (de_bin op_mod tr_intC (de_callTy call_int1 tr_int1 rfl T.n_int bt_int (da_cons (de_bin op_add4 tr_add (de_bin op_add4 tr_add (de_bin op_mul tr_intC (de_ix (hu_of hr) (de_var 0) de_str) de_int) (de_bin op_mul tr_intC (de_ix (hu_of hr) (de_var 0) de_str) de_int)) de_int) da_nil)) de_int)) (dss_cons (ds_set (i := 3) sc__law_draw.nd rfl (Or.inl rfl) (de_bin op_mod tr_intC (de_callTy call_int1 tr_int1 rfl T.n_int bt_int (da_cons (de_bin op_add4 tr_add (de_bin op_mul tr_intC (de_var 3) (de_var 3)) (de_ix (hu_of hr) (de_var 0) de_str)) da_nil)) de_int)) (dss_cons (ds_set (i := 3) sc__law_draw.nd rfl (Or.inl rfl) (de_bin op_mod tr_intC (de_callTy call_int1 tr_int1 rfl T.n_int bt_int (da_cons (de_bin op_add4 tr_add (de_bin op_mul tr_intC (de_var 3) (de_var 3)) (de_bin op_mul tr_intC (de_ix (hu_of hr) (de_var 0) de_str) de_int)) da_nil)) de_int)) (dss_one (ds_ret (de_bin op_mod tr_intC (de_callTy call_int1 tr_int1 rfl T.n_int bt_int (da_cons (de_bin op_fdiv tr_intC (de_var 3) de_int) da_nil)) (de_var 1))))))))))) ?_
  · obtain ⟨_, _, _, rfl, _⟩ := h; rfl
  rintro ds M Q E ⟨a, g, many, rfl, hm, hm2, ⟨gs, sl, turn, hD, hG, hpos, hag, hgl⟩, q⟩
  rw [st__law_draw]
  have hDk : Dk a g M := ⟨gs, sl, turn, hD, hG, hpos, hag, hgl⟩
  have res : ∀ (x : Int) (M' : Mp), Dk a g M' → Kp a g M M' → Fg Q (.int (x % ((many : Nat) : Int))) M' := fun x M' h1 h2 => by
    have h3 : 0 ≤ x % ((many : Nat) : Int) := Int.emod_nonneg _ (by omega)
    have h4 : x % ((many : Nat) : Int) < ((many : Nat) : Int) := Int.emod_lt_of_pos _ (by omega)
    have e : x % ((many : Nat) : Int) = (((x % ((many : Nat) : Int)).toNat : Nat) : Int) := by omega
    rw [e]
    exact Fg.now (q _ _ (by omega) h1 h2)
  by_cases h2 : ((many : Nat) : Int) < 2
  · simp only [↓x_seq, ↓x_next, ↓x_ret, ↓x_retN, ↓x_drop, ↓x_if, ↓x_asg, ↓x_false, ↓x_brk, ↓x_cnt, ↓x_g0, ↓x_v0, ↓x_g1, ↓x_v1, ↓x_g2, ↓x_v2, ↓x_g3, ↓x_v3, ↓x_g4, ↓x_v4, ↓x_g5, ↓x_v5, ↓x_g6, ↓x_v6, ↓x_g7, ↓x_v7, ↓x_g8, ↓x_v8, ↓x_g9, ↓x_v9, ↓x_g10, ↓x_v10, ↓x_g11, ↓x_v11, ↓x_g12, ↓x_v12, ↓x_g13, ↓x_v13, ↓x_g14, ↓x_v14, ↓x_g15, ↓x_v15, ↓x_g16, ↓x_v16, ↓x_g17, ↓x_v17, ↓x_g18, ↓x_v18, ↓x_g19, ↓x_v19, ↓x_gt2, ↓x_gt3, ↓x_gt4, ↓x_gt5, ↓x_gt6, ↓x_gc, ↓x_gn, ↓x_par2, ↓x_p2, ↓x_par3, ↓x_p3, ↓x_C, ↓x_op, ↓x_test, ↓x_chain, ↓x_andT, ↓x_orT, ↓x_notT, ↓x_ifE, ↓x_andV, ↓x_orV, ↓x_notV, ↓x_nil, ↓x_cons, ↓x_star, ↓x_tup, ↓x_lst, ↓x_callB, ↓x_call, ↓x_callK, ↓x_meth, ↓x_make, ↓x_fld, ↓x_fldS, ↓x_bm0, ↓x_bm, ↓x_sl, ↓x_nop, ↓x_prt, ↓x_neg, ↓x_revL, ↓x_lc, ↓x_for, ↓x_diSeq, ↓x_diEnum, ↓x_rng1, ↓y_addi, ↓y_adds, ↓y_addt, ↓y_int, ↓y_intC, ↓y_is, ↓y_isn, ↓y_nnon, ↓y_nbl, ↓y_nint, ↓y_nstr, ↓y_ntup, ↓y_nref, ↓y_t0, ↓y_t1, ↓y_t2, ↓y_t3, ↓y_m2, ↓y_m3, ↓y_len0, ↓y_len1, ↓y_len2, ↓y_len3, ↓y_len, ↓y_lenS, ↓y_itt, ↓y_iss, ↓y_iii, ↓y_iib, ↓y_i1, ↓y_i1b, ↓y_abs, ↓y_strI, ↓y_slt, ↓y_sls, ↓y_tys, ↓y_gs0, ↓y_gs1, ↓y_gs2, ↓y_gs3, ↓y_gs4, ↓y_gs5, ↓y_gs6, ↓y_gs7, ↓bIn_2, ↓bNotIn_2, ↓bEq_int, ↓bNe_int, wipeD, List.map_cons, List.map_nil, List.set_cons_zero, List.set_cons_succ, Option.some.injEq, exists_and_left, exists_eq_left', exists_eq_left, decide_true, decide_false, Bool.false_eq_true, reduceIte, Bool.not_true, Bool.not_false, List.length_cons, List.length_nil, Nat.reduceAdd, Nat.zero_add, line16, Nat.reduceLeDiff, Int.reduceEq, Int.reduceLT, Int.reduceLE, Int.reduceNeg, or_true, true_or, or_self, or_false, false_or, true_and, and_true, and_self, List.cons_append, List.nil_append, List.append_nil, forall_const, h2]
    exact Fg.now (q 0 M (by omega) hDk Kp.refl)
  · simp only [↓x_seq, ↓x_next, ↓x_ret, ↓x_retN, ↓x_drop, ↓x_if, ↓x_asg, ↓x_false, ↓x_brk, ↓x_cnt, ↓x_g0, ↓x_v0, ↓x_g1, ↓x_v1, ↓x_g2, ↓x_v2, ↓x_g3, ↓x_v3, ↓x_g4, ↓x_v4, ↓x_g5, ↓x_v5, ↓x_g6, ↓x_v6, ↓x_g7, ↓x_v7, ↓x_g8, ↓x_v8, ↓x_g9, ↓x_v9, ↓x_g10, ↓x_v10, ↓x_g11, ↓x_v11, ↓x_g12, ↓x_v12, ↓x_g13, ↓x_v13, ↓x_g14, ↓x_v14, ↓x_g15, ↓x_v15, ↓x_g16, ↓x_v16, ↓x_g17, ↓x_v17, ↓x_g18, ↓x_v18, ↓x_g19, ↓x_v19, ↓x_gt2, ↓x_gt3, ↓x_gt4, ↓x_gt5, ↓x_gt6, ↓x_gc, ↓x_gn, ↓x_par2, ↓x_p2, ↓x_par3, ↓x_p3, ↓x_C, ↓x_op, ↓x_test, ↓x_chain, ↓x_andT, ↓x_orT, ↓x_notT, ↓x_ifE, ↓x_andV, ↓x_orV, ↓x_notV, ↓x_nil, ↓x_cons, ↓x_star, ↓x_tup, ↓x_lst, ↓x_callB, ↓x_call, ↓x_callK, ↓x_meth, ↓x_make, ↓x_fld, ↓x_fldS, ↓x_bm0, ↓x_bm, ↓x_sl, ↓x_nop, ↓x_prt, ↓x_neg, ↓x_revL, ↓x_lc, ↓x_for, ↓x_diSeq, ↓x_diEnum, ↓x_rng1, ↓y_addi, ↓y_adds, ↓y_addt, ↓y_int, ↓y_intC, ↓y_is, ↓y_isn, ↓y_nnon, ↓y_nbl, ↓y_nint, ↓y_nstr, ↓y_ntup, ↓y_nref, ↓y_t0, ↓y_t1, ↓y_t2, ↓y_t3, ↓y_m2, ↓y_m3, ↓y_len0, ↓y_len1, ↓y_len2, ↓y_len3, ↓y_len, ↓y_lenS, ↓y_itt, ↓y_iss, ↓y_iii, ↓y_iib, ↓y_i1, ↓y_i1b, ↓y_abs, ↓y_strI, ↓y_slt, ↓y_sls, ↓y_tys, ↓y_gs0, ↓y_gs1, ↓y_gs2, ↓y_gs3, ↓y_gs4, ↓y_gs5, ↓y_gs6, ↓y_gs7, ↓bIn_2, ↓bNotIn_2, ↓bEq_int, ↓bNe_int, wipeD, List.map_cons, List.map_nil, List.set_cons_zero, List.set_cons_succ, Option.some.injEq, exists_and_left, exists_eq_left', exists_eq_left, decide_true, decide_false, Bool.false_eq_true, reduceIte, Bool.not_true, Bool.not_false, List.length_cons, List.length_nil, Nat.reduceAdd, Nat.zero_add, line16, Nat.reduceLeDiff, Int.reduceEq, Int.reduceLT, Int.reduceLE, Int.reduceNeg, or_true, true_or, or_self, or_false, false_or, true_and, and_true, and_self, List.cons_append, List.nil_append, List.append_nil, forall_const, h2, ↓d_great hD]
    intro e he
    have hge : g ≠ e := ne_of hG he
    have hae : a ≠ e := ne_of hD he
    have hMg : put M e (.lst []) g = some (.lst (gs.map D.int)) := (put_ne hge).trans hG
    have hMa : put M e (.lst []) a = some (DKo g sl turn) := (put_ne hae).trans hD
    rw [bNe_lnil hMg (toPs_ints gs) (shaped_lint gs) put_same]
    rcases (show gs = [] ∨ ∃ W' x, gs = W' ++ [x] by rcases List.eq_nil_or_concat gs with h | ⟨W', x, h⟩; exact .inl h; exact .inr ⟨W', x, by rw [h, List.concat_eq_append]⟩) with rfl | ⟨gs', x, rfl⟩
    · simp only [List.map_nil, List.isEmpty_nil, ↓x_seq, ↓x_next, ↓x_ret, ↓x_retN, ↓x_drop, ↓x_if, ↓x_asg, ↓x_false, ↓x_brk, ↓x_cnt, ↓x_g0, ↓x_v0, ↓x_g1, ↓x_v1, ↓x_g2, ↓x_v2, ↓x_g3, ↓x_v3, ↓x_g4, ↓x_v4, ↓x_g5, ↓x_v5, ↓x_g6, ↓x_v6, ↓x_g7, ↓x_v7, ↓x_g8, ↓x_v8, ↓x_g9, ↓x_v9, ↓x_g10, ↓x_v10, ↓x_g11, ↓x_v11, ↓x_g12, ↓x_v12, ↓x_g13, ↓x_v13, ↓x_g14, ↓x_v14, ↓x_g15, ↓x_v15, ↓x_g16, ↓x_v16, ↓x_g17, ↓x_v17, ↓x_g18, ↓x_v18, ↓x_g19, ↓x_v19, ↓x_gt2, ↓x_gt3, ↓x_gt4, ↓x_gt5, ↓x_gt6, ↓x_gc, ↓x_gn, ↓x_par2, ↓x_p2, ↓x_par3, ↓x_p3, ↓x_C, ↓x_op, ↓x_test, ↓x_chain, ↓x_andT, ↓x_orT, ↓x_notT, ↓x_ifE, ↓x_andV, ↓x_orV, ↓x_notV, ↓x_nil, ↓x_cons, ↓x_star, ↓x_tup, ↓x_lst, ↓x_callB, ↓x_call, ↓x_callK, ↓x_meth, ↓x_make, ↓x_fld, ↓x_fldS, ↓x_bm0, ↓x_bm, ↓x_sl, ↓x_nop, ↓x_prt, ↓x_neg, ↓x_revL, ↓x_lc, ↓x_for, ↓x_diSeq, ↓x_diEnum, ↓x_rng1, ↓y_addi, ↓y_adds, ↓y_addt, ↓y_int, ↓y_intC, ↓y_is, ↓y_isn, ↓y_nnon, ↓y_nbl, ↓y_nint, ↓y_nstr, ↓y_ntup, ↓y_nref, ↓y_t0, ↓y_t1, ↓y_t2, ↓y_t3, ↓y_m2, ↓y_m3, ↓y_len0, ↓y_len1, ↓y_len2, ↓y_len3, ↓y_len, ↓y_lenS, ↓y_itt, ↓y_iss, ↓y_iii, ↓y_iib, ↓y_i1, ↓y_i1b, ↓y_abs, ↓y_strI, ↓y_slt, ↓y_sls, ↓y_tys, ↓y_gs0, ↓y_gs1, ↓y_gs2, ↓y_gs3, ↓y_gs4, ↓y_gs5, ↓y_gs6, ↓y_gs7, ↓bIn_2, ↓bNotIn_2, ↓bEq_int, ↓bNe_int, wipeD, List.map_cons, List.map_nil, List.set_cons_zero, List.set_cons_succ, Option.some.injEq, exists_and_left, exists_eq_left', exists_eq_left, decide_true, decide_false, Bool.false_eq_true, reduceIte, Bool.not_true, Bool.not_false, List.length_cons, List.length_nil, Nat.reduceAdd, Nat.zero_add, line16, Nat.reduceLeDiff, Int.reduceEq, Int.reduceLT, Int.reduceLE, Int.reduceNeg, or_true, true_or, or_self, or_false, false_or, true_and, and_true, and_self, List.cons_append, List.nil_append, List.append_nil, forall_const, ↓d_turn hMa, ↓d_set hMa]
      have hM2 : put (put M e (.lst [])) a (DKo g sl (turn + 1)) a = some (DKo g sl (turn + 1)) := put_same
      simp only [↓x_seq, ↓x_next, ↓x_ret, ↓x_retN, ↓x_drop, ↓x_if, ↓x_asg, ↓x_false, ↓x_brk, ↓x_cnt, ↓x_g0, ↓x_v0, ↓x_g1, ↓x_v1, ↓x_g2, ↓x_v2, ↓x_g3, ↓x_v3, ↓x_g4, ↓x_v4, ↓x_g5, ↓x_v5, ↓x_g6, ↓x_v6, ↓x_g7, ↓x_v7, ↓x_g8, ↓x_v8, ↓x_g9, ↓x_v9, ↓x_g10, ↓x_v10, ↓x_g11, ↓x_v11, ↓x_g12, ↓x_v12, ↓x_g13, ↓x_v13, ↓x_g14, ↓x_v14, ↓x_g15, ↓x_v15, ↓x_g16, ↓x_v16, ↓x_g17, ↓x_v17, ↓x_g18, ↓x_v18, ↓x_g19, ↓x_v19, ↓x_gt2, ↓x_gt3, ↓x_gt4, ↓x_gt5, ↓x_gt6, ↓x_gc, ↓x_gn, ↓x_par2, ↓x_p2, ↓x_par3, ↓x_p3, ↓x_C, ↓x_op, ↓x_test, ↓x_chain, ↓x_andT, ↓x_orT, ↓x_notT, ↓x_ifE, ↓x_andV, ↓x_orV, ↓x_notV, ↓x_nil, ↓x_cons, ↓x_star, ↓x_tup, ↓x_lst, ↓x_callB, ↓x_call, ↓x_callK, ↓x_meth, ↓x_make, ↓x_fld, ↓x_fldS, ↓x_bm0, ↓x_bm, ↓x_sl, ↓x_nop, ↓x_prt, ↓x_neg, ↓x_revL, ↓x_lc, ↓x_for, ↓x_diSeq, ↓x_diEnum, ↓x_rng1, ↓y_addi, ↓y_adds, ↓y_addt, ↓y_int, ↓y_intC, ↓y_is, ↓y_isn, ↓y_nnon, ↓y_nbl, ↓y_nint, ↓y_nstr, ↓y_ntup, ↓y_nref, ↓y_t0, ↓y_t1, ↓y_t2, ↓y_t3, ↓y_m2, ↓y_m3, ↓y_len0, ↓y_len1, ↓y_len2, ↓y_len3, ↓y_len, ↓y_lenS, ↓y_itt, ↓y_iss, ↓y_iii, ↓y_iib, ↓y_i1, ↓y_i1b, ↓y_abs, ↓y_strI, ↓y_slt, ↓y_sls, ↓y_tys, ↓y_gs0, ↓y_gs1, ↓y_gs2, ↓y_gs3, ↓y_gs4, ↓y_gs5, ↓y_gs6, ↓y_gs7, ↓bIn_2, ↓bNotIn_2, ↓bEq_int, ↓bNe_int, wipeD, List.map_cons, List.map_nil, List.set_cons_zero, List.set_cons_succ, Option.some.injEq, exists_and_left, exists_eq_left', exists_eq_left, decide_true, decide_false, Bool.false_eq_true, reduceIte, Bool.not_true, Bool.not_false, List.length_cons, List.length_nil, Nat.reduceAdd, Nat.zero_add, line16, Nat.reduceLeDiff, Int.reduceEq, Int.reduceLT, Int.reduceLE, Int.reduceNeg, or_true, true_or, or_self, or_false, false_or, true_and, and_true, and_self, List.cons_append, List.nil_append, List.append_nil, forall_const, ↓d_turn hM2, ↓d_sl hM2]
      have hD1 : Dk a g (put (put M e (.lst [])) a (DKo g sl (turn + 1))) := ⟨[], sl, turn + 1, hM2, (put_ne (Ne.symm hag)).trans hMg, hpos, hag, hgl⟩
      have hK1 : Kp a g M (put (put M e (.lst [])) a (DKo g sl (turn + 1))) := (Kp.refl.new he).puta
      refine ⟨cm_c _ (by decide), cm_c _ (by decide), cm_m _ (by decide), cm_m _ (by decide), cm_c _ (by decide), ⟨by decide, by decide⟩, by omega, res _ _ hD1 hK1⟩
    · simp only [show (List.map PyData.int (gs' ++ [x])).isEmpty = false by simp, ↓x_seq, ↓x_next, ↓x_ret, ↓x_retN, ↓x_drop, ↓x_if, ↓x_asg, ↓x_false, ↓x_brk, ↓x_cnt, ↓x_g0, ↓x_v0, ↓x_g1, ↓x_v1, ↓x_g2, ↓x_v2, ↓x_g3, ↓x_v3, ↓x_g4, ↓x_v4, ↓x_g5, ↓x_v5, ↓x_g6, ↓x_v6, ↓x_g7, ↓x_v7, ↓x_g8, ↓x_v8, ↓x_g9, ↓x_v9, ↓x_g10, ↓x_v10, ↓x_g11, ↓x_v11, ↓x_g12, ↓x_v12, ↓x_g13, ↓x_v13, ↓x_g14, ↓x_v14, ↓x_g15, ↓x_v15, ↓x_g16, ↓x_v16, ↓x_g17, ↓x_v17, ↓x_g18, ↓x_v18, ↓x_g19, ↓x_v19, ↓x_gt2, ↓x_gt3, ↓x_gt4, ↓x_gt5, ↓x_gt6, ↓x_gc, ↓x_gn, ↓x_par2, ↓x_p2, ↓x_par3, ↓x_p3, ↓x_C, ↓x_op, ↓x_test, ↓x_chain, ↓x_andT, ↓x_orT, ↓x_notT, ↓x_ifE, ↓x_andV, ↓x_orV, ↓x_notV, ↓x_nil, ↓x_cons, ↓x_star, ↓x_tup, ↓x_lst, ↓x_callB, ↓x_call, ↓x_callK, ↓x_meth, ↓x_make, ↓x_fld, ↓x_fldS, ↓x_bm0, ↓x_bm, ↓x_sl, ↓x_nop, ↓x_prt, ↓x_neg, ↓x_revL, ↓x_lc, ↓x_for, ↓x_diSeq, ↓x_diEnum, ↓x_rng1, ↓y_addi, ↓y_adds, ↓y_addt, ↓y_int, ↓y_intC, ↓y_is, ↓y_isn, ↓y_nnon, ↓y_nbl, ↓y_nint, ↓y_nstr, ↓y_ntup, ↓y_nref, ↓y_t0, ↓y_t1, ↓y_t2, ↓y_t3, ↓y_m2, ↓y_m3, ↓y_len0, ↓y_len1, ↓y_len2, ↓y_len3, ↓y_len, ↓y_lenS, ↓y_itt, ↓y_iss, ↓y_iii, ↓y_iib, ↓y_i1, ↓y_i1b, ↓y_abs, ↓y_strI, ↓y_slt, ↓y_sls, ↓y_tys, ↓y_gs0, ↓y_gs1, ↓y_gs2, ↓y_gs3, ↓y_gs4, ↓y_gs5, ↓y_gs6, ↓y_gs7, ↓bIn_2, ↓bNotIn_2, ↓bEq_int, ↓bNe_int, wipeD, List.map_cons, List.map_nil, List.set_cons_zero, List.set_cons_succ, Option.some.injEq, exists_and_left, exists_eq_left', exists_eq_left, decide_true, decide_false, Bool.false_eq_true, reduceIte, Bool.not_true, Bool.not_false, List.length_cons, List.length_nil, Nat.reduceAdd, Nat.zero_add, line16, Nat.reduceLeDiff, Int.reduceEq, Int.reduceLT, Int.reduceLE, Int.reduceNeg, or_true, true_or, or_self, or_false, false_or, true_and, and_true, and_self, List.cons_append, List.nil_append, List.append_nil, forall_const, ↓d_great hMa]
      refine ⟨by simp [dTy, hMg], _, .int x, hMg, by simp, ?_⟩
      have hx : 0 ≤ x := hpos x (by simp)
      have hg' : ∀ y ∈ gs', 0 ≤ y := fun y hy => hpos y (by simp [hy])
      rw [show (List.map D.int (gs' ++ [x])).dropLast = List.map D.int gs' by rw [List.map_append]; simp]
      have hgl' : gs'.length ≤ 59 := by simp at hgl; omega
      have hNa : put (put M e (.lst [])) g (.lst (gs'.map D.int)) a = some (DKo g sl turn) := (put_ne hag).trans hMa
      have hD1 : Dk a g (put (put M e (.lst [])) g (.lst (gs'.map D.int))) := ⟨gs', sl, turn, hNa, put_same, hg', hag, by omega⟩
      have hK1 : Kp a g M (put (put M e (.lst [])) g (.lst (gs'.map D.int))) := (Kp.refl.new he).putg
      by_cases hc : ((many : Nat) : Int) ≤ x
      · simp only [↓x_seq, ↓x_next, ↓x_ret, ↓x_retN, ↓x_drop, ↓x_if, ↓x_asg, ↓x_false, ↓x_brk, ↓x_cnt, ↓x_g0, ↓x_v0, ↓x_g1, ↓x_v1, ↓x_g2, ↓x_v2, ↓x_g3, ↓x_v3, ↓x_g4, ↓x_v4, ↓x_g5, ↓x_v5, ↓x_g6, ↓x_v6, ↓x_g7, ↓x_v7, ↓x_g8, ↓x_v8, ↓x_g9, ↓x_v9, ↓x_g10, ↓x_v10, ↓x_g11, ↓x_v11, ↓x_g12, ↓x_v12, ↓x_g13, ↓x_v13, ↓x_g14, ↓x_v14, ↓x_g15, ↓x_v15, ↓x_g16, ↓x_v16, ↓x_g17, ↓x_v17, ↓x_g18, ↓x_v18, ↓x_g19, ↓x_v19, ↓x_gt2, ↓x_gt3, ↓x_gt4, ↓x_gt5, ↓x_gt6, ↓x_gc, ↓x_gn, ↓x_par2, ↓x_p2, ↓x_par3, ↓x_p3, ↓x_C, ↓x_op, ↓x_test, ↓x_chain, ↓x_andT, ↓x_orT, ↓x_notT, ↓x_ifE, ↓x_andV, ↓x_orV, ↓x_notV, ↓x_nil, ↓x_cons, ↓x_star, ↓x_tup, ↓x_lst, ↓x_callB, ↓x_call, ↓x_callK, ↓x_meth, ↓x_make, ↓x_fld, ↓x_fldS, ↓x_bm0, ↓x_bm, ↓x_sl, ↓x_nop, ↓x_prt, ↓x_neg, ↓x_revL, ↓x_lc, ↓x_for, ↓x_diSeq, ↓x_diEnum, ↓x_rng1, ↓y_addi, ↓y_adds, ↓y_addt, ↓y_int, ↓y_intC, ↓y_is, ↓y_isn, ↓y_nnon, ↓y_nbl, ↓y_nint, ↓y_nstr, ↓y_ntup, ↓y_nref, ↓y_t0, ↓y_t1, ↓y_t2, ↓y_t3, ↓y_m2, ↓y_m3, ↓y_len0, ↓y_len1, ↓y_len2, ↓y_len3, ↓y_len, ↓y_lenS, ↓y_itt, ↓y_iss, ↓y_iii, ↓y_iib, ↓y_i1, ↓y_i1b, ↓y_abs, ↓y_strI, ↓y_slt, ↓y_sls, ↓y_tys, ↓y_gs0, ↓y_gs1, ↓y_gs2, ↓y_gs3, ↓y_gs4, ↓y_gs5, ↓y_gs6, ↓y_gs7, ↓bIn_2, ↓bNotIn_2, ↓bEq_int, ↓bNe_int, wipeD, List.map_cons, List.map_nil, List.set_cons_zero, List.set_cons_succ, Option.some.injEq, exists_and_left, exists_eq_left', exists_eq_left, decide_true, decide_false, Bool.false_eq_true, reduceIte, Bool.not_true, Bool.not_false, List.length_cons, List.length_nil, Nat.reduceAdd, Nat.zero_add, line16, Nat.reduceLeDiff, Int.reduceEq, Int.reduceLT, Int.reduceLE, Int.reduceNeg, or_true, true_or, or_self, or_false, false_or, true_and, and_true, and_self, List.cons_append, List.nil_append, List.append_nil, forall_const, hc, ↓d_great hNa]
        refine ⟨by simp [dTy, put_same], ⟨by omega, by omega⟩, _, put_same, by simp [line16]; omega, ?_⟩
        simp only [↓x_seq, ↓x_next, ↓x_ret, ↓x_retN, ↓x_drop, ↓x_if, ↓x_asg, ↓x_false, ↓x_brk, ↓x_cnt, ↓x_g0, ↓x_v0, ↓x_g1, ↓x_v1, ↓x_g2, ↓x_v2, ↓x_g3, ↓x_v3, ↓x_g4, ↓x_v4, ↓x_g5, ↓x_v5, ↓x_g6, ↓x_v6, ↓x_g7, ↓x_v7, ↓x_g8, ↓x_v8, ↓x_g9, ↓x_v9, ↓x_g10, ↓x_v10, ↓x_g11, ↓x_v11, ↓x_g12, ↓x_v12, ↓x_g13, ↓x_v13, ↓x_g14, ↓x_v14, ↓x_g15, ↓x_v15, ↓x_g16, ↓x_v16, ↓x_g17, ↓x_v17, ↓x_g18, ↓x_v18, ↓x_g19, ↓x_v19, ↓x_gt2, ↓x_gt3, ↓x_gt4, ↓x_gt5, ↓x_gt6, ↓x_gc, ↓x_gn, ↓x_par2, ↓x_p2, ↓x_par3, ↓x_p3, ↓x_C, ↓x_op, ↓x_test, ↓x_chain, ↓x_andT, ↓x_orT, ↓x_notT, ↓x_ifE, ↓x_andV, ↓x_orV, ↓x_notV, ↓x_nil, ↓x_cons, ↓x_star, ↓x_tup, ↓x_lst, ↓x_callB, ↓x_call, ↓x_callK, ↓x_meth, ↓x_make, ↓x_fld, ↓x_fldS, ↓x_bm0, ↓x_bm, ↓x_sl, ↓x_nop, ↓x_prt, ↓x_neg, ↓x_revL, ↓x_lc, ↓x_for, ↓x_diSeq, ↓x_diEnum, ↓x_rng1, ↓y_addi, ↓y_adds, ↓y_addt, ↓y_int, ↓y_intC, ↓y_is, ↓y_isn, ↓y_nnon, ↓y_nbl, ↓y_nint, ↓y_nstr, ↓y_ntup, ↓y_nref, ↓y_t0, ↓y_t1, ↓y_t2, ↓y_t3, ↓y_m2, ↓y_m3, ↓y_len0, ↓y_len1, ↓y_len2, ↓y_len3, ↓y_len, ↓y_lenS, ↓y_itt, ↓y_iss, ↓y_iii, ↓y_iib, ↓y_i1, ↓y_i1b, ↓y_abs, ↓y_strI, ↓y_slt, ↓y_sls, ↓y_tys, ↓y_gs0, ↓y_gs1, ↓y_gs2, ↓y_gs3, ↓y_gs4, ↓y_gs5, ↓y_gs6, ↓y_gs7, ↓bIn_2, ↓bNotIn_2, ↓bEq_int, ↓bNe_int, wipeD, List.map_cons, List.map_nil, List.set_cons_zero, List.set_cons_succ, Option.some.injEq, exists_and_left, exists_eq_left', exists_eq_left, decide_true, decide_false, Bool.false_eq_true, reduceIte, Bool.not_true, Bool.not_false, List.length_cons, List.length_nil, Nat.reduceAdd, Nat.zero_add, line16, Nat.reduceLeDiff, Int.reduceEq, Int.reduceLT, Int.reduceLE, Int.reduceNeg, or_true, true_or, or_self, or_false, false_or, true_and, and_true, and_self, List.cons_append, List.nil_append, List.append_nil, forall_const]
        refine ⟨by omega, res _ _ ⟨gs' ++ [x / ((many : Nat) : Int)], sl, turn, (put_ne hag).trans hNa, ?_, ?_, hag, ?_⟩ hK1.putg⟩
        · rw [put_same]; simp
        · intro y hy
          rcases List.mem_append.mp hy with h | h
          · exact hg' y h
          · simp at h; rw [h]; exact Int.ediv_nonneg hx (by omega)
        · simp; omega
      · simp only [↓x_seq, ↓x_next, ↓x_ret, ↓x_retN, ↓x_drop, ↓x_if, ↓x_asg, ↓x_false, ↓x_brk, ↓x_cnt, ↓x_g0, ↓x_v0, ↓x_g1, ↓x_v1, ↓x_g2, ↓x_v2, ↓x_g3, ↓x_v3, ↓x_g4, ↓x_v4, ↓x_g5, ↓x_v5, ↓x_g6, ↓x_v6, ↓x_g7, ↓x_v7, ↓x_g8, ↓x_v8, ↓x_g9, ↓x_v9, ↓x_g10, ↓x_v10, ↓x_g11, ↓x_v11, ↓x_g12, ↓x_v12, ↓x_g13, ↓x_v13, ↓x_g14, ↓x_v14, ↓x_g15, ↓x_v15, ↓x_g16, ↓x_v16, ↓x_g17, ↓x_v17, ↓x_g18, ↓x_v18, ↓x_g19, ↓x_v19, ↓x_gt2, ↓x_gt3, ↓x_gt4, ↓x_gt5, ↓x_gt6, ↓x_gc, ↓x_gn, ↓x_par2, ↓x_p2, ↓x_par3, ↓x_p3, ↓x_C, ↓x_op, ↓x_test, ↓x_chain, ↓x_andT, ↓x_orT, ↓x_notT, ↓x_ifE, ↓x_andV, ↓x_orV, ↓x_notV, ↓x_nil, ↓x_cons, ↓x_star, ↓x_tup, ↓x_lst, ↓x_callB, ↓x_call, ↓x_callK, ↓x_meth, ↓x_make, ↓x_fld, ↓x_fldS, ↓x_bm0, ↓x_bm, ↓x_sl, ↓x_nop, ↓x_prt, ↓x_neg, ↓x_revL, ↓x_lc, ↓x_for, ↓x_diSeq, ↓x_diEnum, ↓x_rng1, ↓y_addi, ↓y_adds, ↓y_addt, ↓y_int, ↓y_intC, ↓y_is, ↓y_isn, ↓y_nnon, ↓y_nbl, ↓y_nint, ↓y_nstr, ↓y_ntup, ↓y_nref, ↓y_t0, ↓y_t1, ↓y_t2, ↓y_t3, ↓y_m2, ↓y_m3, ↓y_len0, ↓y_len1, ↓y_len2, ↓y_len3, ↓y_len, ↓y_lenS, ↓y_itt, ↓y_iss, ↓y_iii, ↓y_iib, ↓y_i1, ↓y_i1b, ↓y_abs, ↓y_strI, ↓y_slt, ↓y_sls, ↓y_tys, ↓y_gs0, ↓y_gs1, ↓y_gs2, ↓y_gs3, ↓y_gs4, ↓y_gs5, ↓y_gs6, ↓y_gs7, ↓bIn_2, ↓bNotIn_2, ↓bEq_int, ↓bNe_int, wipeD, List.map_cons, List.map_nil, List.set_cons_zero, List.set_cons_succ, Option.some.injEq, exists_and_left, exists_eq_left', exists_eq_left, decide_true, decide_false, Bool.false_eq_true, reduceIte, Bool.not_true, Bool.not_false, List.length_cons, List.length_nil, Nat.reduceAdd, Nat.zero_add, line16, Nat.reduceLeDiff, Int.reduceEq, Int.reduceLT, Int.reduceLE, Int.reduceNeg, or_true, true_or, or_self, or_false, false_or, true_and, and_true, and_self, List.cons_append, List.nil_append, List.append_nil, forall_const, hc]
        exact ⟨by omega, res _ _ hD1 hK1⟩
def sp__law_pick : DSp := fun ds M Q E => ∃ (a g l : Addr) (xs : List D), ds = [.ref a, .ref l] ∧ 1 ≤ xs.length ∧ xs.length ≤ 1000 ∧ l ≠ a ∧ l ≠ g ∧ M l = some (.lst xs) ∧ Dk a g M ∧ ∀ (x : D) M', x ∈ xs → Dk a g M' → Kp a g M M' → Q x M'
theorem ok__law_pick (T : Tx K mg) : DFn P w K mg base CX0 2 T.f__law_pick T.d__law_pick ["deck", "items"] sp__law_pick := by
  refine dfn_of (N := N__law_pick) T.F__law_pick sc__law_pick (by decide) (fun ds M Q E h => ?_) (fun cdv A outer s H hr hgd => (dss_one (ds_ret (de_ix (hu_of hr) (de_var 1) (de_call (ok__law_draw T) (hr.mono (by omega)) hgd rfl T.g__law_draw T.F__law_draw.kp T.b__law_draw dpass0 (da_cons (de_var 0) (da_cons (de_callB call_len tr_len rfl T.n_len bt_len (da_cons (de_var 1) da_nil)) da_nil))))))) ?_
  · obtain ⟨_, _, _, _, rfl, _⟩ := h; rfl
  rintro ds M Q E ⟨a, g, l, xs, rfl, h1, h2, hla, hlg, hl, hD, q⟩
  rw [st__law_pick]
  simp only [↓x_seq, ↓x_next, ↓x_ret, ↓x_retN, ↓x_drop, ↓x_if, ↓x_asg, ↓x_false, ↓x_brk, ↓x_cnt, ↓x_g0, ↓x_v0, ↓x_g1, ↓x_v1, ↓x_g2, ↓x_v2, ↓x_g3, ↓x_v3, ↓x_g4, ↓x_v4, ↓x_g5, ↓x_v5, ↓x_g6, ↓x_v6, ↓x_g7, ↓x_v7, ↓x_g8, ↓x_v8, ↓x_g9, ↓x_v9, ↓x_g10, ↓x_v10, ↓x_g11, ↓x_v11, ↓x_g12, ↓x_v12, ↓x_g13, ↓x_v13, ↓x_g14, ↓x_v14, ↓x_g15, ↓x_v15, ↓x_g16, ↓x_v16, ↓x_g17, ↓x_v17, ↓x_g18, ↓x_v18, ↓x_g19, ↓x_v19, ↓x_gt2, ↓x_gt3, ↓x_gt4, ↓x_gt5, ↓x_gt6, ↓x_gc, ↓x_gn, ↓x_par2, ↓x_p2, ↓x_par3, ↓x_p3, ↓x_C, ↓x_op, ↓x_test, ↓x_chain, ↓x_andT, ↓x_orT, ↓x_notT, ↓x_ifE, ↓x_andV, ↓x_orV, ↓x_notV, ↓x_nil, ↓x_cons, ↓x_star, ↓x_tup, ↓x_lst, ↓x_callB, ↓x_call, ↓x_callK, ↓x_meth, ↓x_make, ↓x_fld, ↓x_fldS, ↓x_bm0, ↓x_bm, ↓x_sl, ↓x_nop, ↓x_prt, ↓x_neg, ↓x_revL, ↓x_lc, ↓x_for, ↓x_diSeq, ↓x_diEnum, ↓x_rng1, ↓y_addi, ↓y_adds, ↓y_addt, ↓y_int, ↓y_intC, ↓y_is, ↓y_isn, ↓y_nnon, ↓y_nbl, ↓y_nint, ↓y_nstr, ↓y_ntup, ↓y_nref, ↓y_t0, ↓y_t1, ↓y_t2, ↓y_t3, ↓y_m2, ↓y_m3, ↓y_len0, ↓y_len1, ↓y_len2, ↓y_len3, ↓y_len, ↓y_lenS, ↓y_itt, ↓y_iss, ↓y_iii, ↓y_iib, ↓y_i1, ↓y_i1b, ↓y_abs, ↓y_strI, ↓y_slt, ↓y_sls, ↓y_tys, ↓y_gs0, ↓y_gs1, ↓y_gs2, ↓y_gs3, ↓y_gs4, ↓y_gs5, ↓y_gs6, ↓y_gs7, ↓bIn_2, ↓bNotIn_2, ↓bEq_int, ↓bNe_int, wipeD, List.map_cons, List.map_nil, List.set_cons_zero, List.set_cons_succ, Option.some.injEq, exists_and_left, exists_eq_left', exists_eq_left, decide_true, decide_false, Bool.false_eq_true, reduceIte, Bool.not_true, Bool.not_false, List.length_cons, List.length_nil, Nat.reduceAdd, Nat.zero_add, line16, Nat.reduceLeDiff, Int.reduceEq, Int.reduceLT, Int.reduceLE, Int.reduceNeg, or_true, true_or, or_self, or_false, false_or, true_and, and_true, and_self, List.cons_append, List.nil_append, List.append_nil, forall_const]
  show (match M l with | some (.lst l) => _ | _ => False)
  rw [hl]
  refine ⟨a, g, xs.length, rfl, h1, h2, hD, fun r M' hr hD' hK => ?_⟩
  have hl' := hK l _ hla hlg hl
  show bIx (.ref l) (.int ((r : Nat) : Int)) M' (Fg Q)
  rw [y_ixl hl']
  exact ⟨_, DL.atI_nat (List.getElem?_eq_getElem hr), Fg.now (q _ _ (List.getElem_mem hr) hD' hK)⟩
end
end K76
namespace K76
open PySem PySem.Spec PyProof.Rows L2 DL
theorem cut_60 {α : Type} (xs : List α) : cutL xs none (some 60) = xs.take 60 := by
  unfold cutL
  have h1 : HT.sIx xs.length 0 none = 0 := rfl
  have h2 : HT.sIx xs.length xs.length (some 60) = min 60 xs.length := HT.sIx_nat _ _ 60
  rw [h1, h2, List.drop_zero, Nat.sub_zero]
  by_cases h : xs.length ≤ 60
  · rw [Nat.min_eq_right h, List.take_length, List.take_of_length_le h]
  · rw [Nat.min_eq_left (by omega)]
def dkI (s : D) (p : Addr) (l : List D) (M : Mp) : Nat → Sg → Mp → Prop := fun i σ M' => ∃ (sl : Int) (g : Addr) (gs : List Int) (u v : Option D), σ = [some s, some (.int sl), some (.ref g), u, v] ∧ Sub M M' ∧ M' p = some (.lst l) ∧ M' g = some (.lst (gs.map D.int)) ∧ M g = none ∧ (∀ x ∈ gs, 0 ≤ x) ∧ gs.length ≤ i
section
variable {P : Program} {w : World} {K : PySem.W.Frag} {mg : Str → Option Value} {base : Heap}
def sp__law_deck : DSp := fun ds M Q E => ∃ (ns : List Int), ds = [.fro (ns.map D.int)] ∧ ∀ (a g : Addr) M', Dk a g M' → Sub M M' → M a = none → M g = none → Q (.ref a) M'
theorem ok__law_deck (T : Tx K mg) : DFn P w K mg base CX0 1 T.f__law_deck T.d__law_deck ["script"] sp__law_deck := by
  refine dfn_of (N := N__law_deck) T.F__law_deck sc__law_deck (by decide) (fun ds M Q E h => ?_) (fun cdv A outer s H hr hgd => (dss_cons (ds_par (i := 1) (j := 2) rfl sc__law_deck.nd rfl rfl (by decide) rfl rfl (da_cons de_int (da_cons (de_lst da_nil) da_nil)) (by rfl)) (dss_cons (ds_for PassesOwn.never rfl (di_seq (de_sl (de_var 0) do_none (do_some de_int))) (dg_name (i := 3) sc__law_deck.nd rfl (Or.inl rfl)) (dss_cons (ds_set (i := 4) sc__law_deck.nd rfl (Or.inl rfl) (de_callB call_abs tr_abs rfl T.n_abs bt_abs (da_cons (de_var 3) da_nil))) (dss_cons (ds_set (i := 1) sc__law_deck.nd rfl (Or.inl rfl) (de_bin op_mod tr_intC (de_callTy call_int1 tr_int1 rfl T.n_int bt_int (da_cons (de_bin op_add4 tr_add (de_bin op_add4 tr_add (de_bin op_add4 tr_add (de_bin op_mul tr_intC (de_var 1) de_int) (de_bin op_mul tr_intC de_int (de_var 4))) (de_callTy call_int1 tr_int1 rfl T.n_int bt_int (da_cons (de_cmp op_lt tr_intB (de_var 3) de_int (nomark _)) da_nil))) de_int) da_nil)) de_int)) (dss_one (ds_if (dt_cmp op_ge tr_intB (de_var 4) (de_bin op_pow tr_intC de_int de_int) (nomark _)) (dss_one (ds_set (i := 2) sc__law_deck.nd rfl (Or.inl rfl) (de_bin op_add4 tr_add (de_lst (da_cons (de_var 4) da_nil)) (de_var 2)))) dss_nil))))) (dss_one (ds_ret (de_disp (.cons de_str (de_var 2) (.cons de_str (de_bin op_add4 tr_add (de_var 1) (de_callB call_len tr_len rfl T.n_len bt_len (da_cons (de_sl (de_var 0) do_none (do_some de_int)) da_nil))) (.cons de_str de_int .nil))) rfl rfl (by decide) (by decide))))))) ?_
  · obtain ⟨_, rfl, _⟩ := h; rfl
  rintro ds M Q E ⟨ns, rfl, q⟩
  rw [st__law_deck]
  simp only [↓x_seq, ↓x_next, ↓x_ret, ↓x_retN, ↓x_drop, ↓x_if, ↓x_asg, ↓x_false, ↓x_brk, ↓x_cnt, ↓x_g0, ↓x_v0, ↓x_g1, ↓x_v1, ↓x_g2, ↓x_v2, ↓x_g3, ↓x_v3, ↓x_g4, ↓x_v4, ↓x_g5, ↓x_v5, ↓x_g6, ↓x_v6, ↓x_g7, ↓x_v7, ↓x_g8, ↓x_v8, ↓x_g9, ↓x_v9, ↓x_g10, ↓x_v10, ↓x_g11, ↓x_v11, ↓x_g12, ↓x_v12, ↓x_g13, ↓x_v13, ↓x_g14, ↓x_v14, ↓x_g15, ↓x_v15, ↓x_g16, ↓x_v16, ↓x_g17, ↓x_v17, ↓x_g18, ↓x_v18, ↓x_g19, ↓x_v19, ↓x_gt2, ↓x_gt3, ↓x_gt4, ↓x_gt5, ↓x_gt6, ↓x_gc, ↓x_gn, ↓x_par2, ↓x_p2, ↓x_par3, ↓x_p3, ↓x_C, ↓x_op, ↓x_test, ↓x_chain, ↓x_andT, ↓x_orT, ↓x_notT, ↓x_ifE, ↓x_andV, ↓x_orV, ↓x_notV, ↓x_nil, ↓x_cons, ↓x_star, ↓x_tup, ↓x_lst, ↓x_callB, ↓x_call, ↓x_callK, ↓x_meth, ↓x_make, ↓x_fld, ↓x_fldS, ↓x_bm0, ↓x_bm, ↓x_sl, ↓x_nop, ↓x_prt, ↓x_neg, ↓x_revL, ↓x_lc, ↓x_for, ↓x_diSeq, ↓x_diEnum, ↓x_rng1, ↓y_addi, ↓y_adds, ↓y_addt, ↓y_int, ↓y_intC, ↓y_is, ↓y_isn, ↓y_nnon, ↓y_nbl, ↓y_nint, ↓y_nstr, ↓y_ntup, ↓y_nref, ↓y_t0, ↓y_t1, ↓y_t2, ↓y_t3, ↓y_m2, ↓y_m3, ↓y_len0, ↓y_len1, ↓y_len2, ↓y_len3, ↓y_len, ↓y_lenS, ↓y_itt, ↓y_iss, ↓y_iii, ↓y_iib, ↓y_i1, ↓y_i1b, ↓y_abs, ↓y_strI, ↓y_slt, ↓y_sls, ↓y_tys, ↓y_gs0, ↓y_gs1, ↓y_gs2, ↓y_gs3, ↓y_gs4, ↓y_gs5, ↓y_gs6, ↓y_gs7, ↓bIn_2, ↓bNotIn_2, ↓bEq_int, ↓bNe_int, wipeD, List.map_cons, List.map_nil, List.set_cons_zero, List.set_cons_succ, Option.some.injEq, exists_and_left, exists_eq_left', exists_eq_left, decide_true, decide_false, Bool.false_eq_true, reduceIte, Bool.not_true, Bool.not_false, List.length_cons, List.length_nil, Nat.reduceAdd, Nat.zero_add, line16, Nat.reduceLeDiff, Int.reduceEq, Int.reduceLT, Int.reduceLE, Int.reduceNeg, or_true, true_or, or_self, or_false, false_or, true_and, and_true, and_self, List.cons_append, List.nil_append, List.append_nil, forall_const]
  intro g0 hg0
  show ∀ p, _ → _
  intro p hp
  have hgp : g0 ≠ p := ne_of put_same hp
  have hMp : M p = none := (Sub.putNew hg0).nn hp
  rw [cut_60, ← List.map_take]
  simp only [put_same]
  have len60 : (ns.take 60).length ≤ 60 := by rw [List.length_take]; omega
  refine forG_A (ns.take 60) D.int rfl (dkI (.fro (ns.map D.int)) p ((ns.take 60).map D.int) M) ⟨15910, g0, [], none, none, rfl, (Sub.putNew hg0).new hp, put_same, (put_ne hgp).trans put_same, hg0, by simp, by simp⟩ (fun i σ M' ⟨sl, g, gs, u, v, h1, h2, h3, _⟩ => h3) ?_ ?_
  · rintro i x σ M' hx ⟨sl, g, gs, u, v, rfl, hS, hp', hg, hMg, hpos, hgl⟩
    have hi : i < 60 := by have := (List.getElem?_eq_some_iff.mp hx).1; omega
    simp only [↓x_seq, ↓x_next, ↓x_ret, ↓x_retN, ↓x_drop, ↓x_if, ↓x_asg, ↓x_false, ↓x_brk, ↓x_cnt, ↓x_g0, ↓x_v0, ↓x_g1, ↓x_v1, ↓x_g2, ↓x_v2, ↓x_g3, ↓x_v3, ↓x_g4, ↓x_v4, ↓x_g5, ↓x_v5, ↓x_g6, ↓x_v6, ↓x_g7, ↓x_v7, ↓x_g8, ↓x_v8, ↓x_g9, ↓x_v9, ↓x_g10, ↓x_v10, ↓x_g11, ↓x_v11, ↓x_g12, ↓x_v12, ↓x_g13, ↓x_v13, ↓x_g14, ↓x_v14, ↓x_g15, ↓x_v15, ↓x_g16, ↓x_v16, ↓x_g17, ↓x_v17, ↓x_g18, ↓x_v18, ↓x_g19, ↓x_v19, ↓x_gt2, ↓x_gt3, ↓x_gt4, ↓x_gt5, ↓x_gt6, ↓x_gc, ↓x_gn, ↓x_par2, ↓x_p2, ↓x_par3, ↓x_p3, ↓x_C, ↓x_op, ↓x_test, ↓x_chain, ↓x_andT, ↓x_orT, ↓x_notT, ↓x_ifE, ↓x_andV, ↓x_orV, ↓x_notV, ↓x_nil, ↓x_cons, ↓x_star, ↓x_tup, ↓x_lst, ↓x_callB, ↓x_call, ↓x_callK, ↓x_meth, ↓x_make, ↓x_fld, ↓x_fldS, ↓x_bm0, ↓x_bm, ↓x_sl, ↓x_nop, ↓x_prt, ↓x_neg, ↓x_revL, ↓x_lc, ↓x_for, ↓x_diSeq, ↓x_diEnum, ↓x_rng1, ↓y_addi, ↓y_adds, ↓y_addt, ↓y_int, ↓y_intC, ↓y_is, ↓y_isn, ↓y_nnon, ↓y_nbl, ↓y_nint, ↓y_nstr, ↓y_ntup, ↓y_nref, ↓y_t0, ↓y_t1, ↓y_t2, ↓y_t3, ↓y_m2, ↓y_m3, ↓y_len0, ↓y_len1, ↓y_len2, ↓y_len3, ↓y_len, ↓y_lenS, ↓y_itt, ↓y_iss, ↓y_iii, ↓y_iib, ↓y_i1, ↓y_i1b, ↓y_abs, ↓y_strI, ↓y_slt, ↓y_sls, ↓y_tys, ↓y_gs0, ↓y_gs1, ↓y_gs2, ↓y_gs3, ↓y_gs4, ↓y_gs5, ↓y_gs6, ↓y_gs7, ↓bIn_2, ↓bNotIn_2, ↓bEq_int, ↓bNe_int, wipeD, List.map_cons, List.map_nil, List.set_cons_zero, List.set_cons_succ, Option.some.injEq, exists_and_left, exists_eq_left', exists_eq_left, decide_true, decide_false, Bool.false_eq_true, reduceIte, Bool.not_true, Bool.not_false, List.length_cons, List.length_nil, Nat.reduceAdd, Nat.zero_add, line16, Nat.reduceLeDiff, Int.reduceEq, Int.reduceLT, Int.reduceLE, Int.reduceNeg, or_true, true_or, or_self, or_false, false_or, true_and, and_true, and_self, List.cons_append, List.nil_append, List.append_nil, forall_const]
    have e0 : (10 : Int) ^ (Int.toNat 18) = 1000000000000000000 := by decide
    refine ⟨cm_c _ (by decide), .inl (by decide), ?_⟩
    simp only [e0]
    refine ⟨⟨by decide, by decide, by decide⟩, ?_⟩
    by_cases hc : (1000000000000000000 : Int) ≤ (if x < 0 then -x else x)
    · simp only [hc, ↓x_seq, ↓x_next, ↓x_ret, ↓x_retN, ↓x_drop, ↓x_if, ↓x_asg, ↓x_false, ↓x_brk, ↓x_cnt, ↓x_g0, ↓x_v0, ↓x_g1, ↓x_v1, ↓x_g2, ↓x_v2, ↓x_g3, ↓x_v3, ↓x_g4, ↓x_v4, ↓x_g5, ↓x_v5, ↓x_g6, ↓x_v6, ↓x_g7, ↓x_v7, ↓x_g8, ↓x_v8, ↓x_g9, ↓x_v9, ↓x_g10, ↓x_v10, ↓x_g11, ↓x_v11, ↓x_g12, ↓x_v12, ↓x_g13, ↓x_v13, ↓x_g14, ↓x_v14, ↓x_g15, ↓x_v15, ↓x_g16, ↓x_v16, ↓x_g17, ↓x_v17, ↓x_g18, ↓x_v18, ↓x_g19, ↓x_v19, ↓x_gt2, ↓x_gt3, ↓x_gt4, ↓x_gt5, ↓x_gt6, ↓x_gc, ↓x_gn, ↓x_par2, ↓x_p2, ↓x_par3, ↓x_p3, ↓x_C, ↓x_op, ↓x_test, ↓x_chain, ↓x_andT, ↓x_orT, ↓x_notT, ↓x_ifE, ↓x_andV, ↓x_orV, ↓x_notV, ↓x_nil, ↓x_cons, ↓x_star, ↓x_tup, ↓x_lst, ↓x_callB, ↓x_call, ↓x_callK, ↓x_meth, ↓x_make, ↓x_fld, ↓x_fldS, ↓x_bm0, ↓x_bm, ↓x_sl, ↓x_nop, ↓x_prt, ↓x_neg, ↓x_revL, ↓x_lc, ↓x_for, ↓x_diSeq, ↓x_diEnum, ↓x_rng1, ↓y_addi, ↓y_adds, ↓y_addt, ↓y_int, ↓y_intC, ↓y_is, ↓y_isn, ↓y_nnon, ↓y_nbl, ↓y_nint, ↓y_nstr, ↓y_ntup, ↓y_nref, ↓y_t0, ↓y_t1, ↓y_t2, ↓y_t3, ↓y_m2, ↓y_m3, ↓y_len0, ↓y_len1, ↓y_len2, ↓y_len3, ↓y_len, ↓y_lenS, ↓y_itt, ↓y_iss, ↓y_iii, ↓y_iib, ↓y_i1, ↓y_i1b, ↓y_abs, ↓y_strI, ↓y_slt, ↓y_sls, ↓y_tys, ↓y_gs0, ↓y_gs1, ↓y_gs2, ↓y_gs3, ↓y_gs4, ↓y_gs5, ↓y_gs6, ↓y_gs7, ↓bIn_2, ↓bNotIn_2, ↓bEq_int, ↓bNe_int, wipeD, List.map_cons, List.map_nil, List.set_cons_zero, List.set_cons_succ, Option.some.injEq, exists_and_left, exists_eq_left', exists_eq_left, decide_true, decide_false, Bool.false_eq_true, reduceIte, Bool.not_true, Bool.not_false, List.length_cons, List.length_nil, Nat.reduceAdd, Nat.zero_add, line16, Nat.reduceLeDiff, Int.reduceEq, Int.reduceLT, Int.reduceLE, Int.reduceNeg, or_true, true_or, or_self, or_false, false_or, true_and, and_true, and_self, List.cons_append, List.nil_append, List.append_nil, forall_const]
      intro c hc0
      have hcg : g ≠ c := ne_of hg hc0
      refine ⟨_, _, put_same, (put_ne hcg).trans hg, by simp [line16]; omega, fun d hd => ?_⟩
      have hdp : p ≠ d := ne_of ((put_ne (ne_of hp' hc0)).trans hp') hd
      refine ⟨_, d, (if x < 0 then -x else x) :: gs, _, _, rfl, (hS.new hc0).new hd, (put_ne hdp).trans ((put_ne (ne_of hp' hc0)).trans hp'), by rw [put_same]; simp, hS.nn (by rwa [put_ne] at hd; exact fun z => by rw [z, put_same] at hd; cases hd), ?_, by simp; omega⟩
      intro y hy
      rcases List.mem_cons.mp hy with h | h
      · rw [h]; omega
      · exact hpos y h
    · simp only [hc, ↓x_seq, ↓x_next, ↓x_ret, ↓x_retN, ↓x_drop, ↓x_if, ↓x_asg, ↓x_false, ↓x_brk, ↓x_cnt, ↓x_g0, ↓x_v0, ↓x_g1, ↓x_v1, ↓x_g2, ↓x_v2, ↓x_g3, ↓x_v3, ↓x_g4, ↓x_v4, ↓x_g5, ↓x_v5, ↓x_g6, ↓x_v6, ↓x_g7, ↓x_v7, ↓x_g8, ↓x_v8, ↓x_g9, ↓x_v9, ↓x_g10, ↓x_v10, ↓x_g11, ↓x_v11, ↓x_g12, ↓x_v12, ↓x_g13, ↓x_v13, ↓x_g14, ↓x_v14, ↓x_g15, ↓x_v15, ↓x_g16, ↓x_v16, ↓x_g17, ↓x_v17, ↓x_g18, ↓x_v18, ↓x_g19, ↓x_v19, ↓x_gt2, ↓x_gt3, ↓x_gt4, ↓x_gt5, ↓x_gt6, ↓x_gc, ↓x_gn, ↓x_par2, ↓x_p2, ↓x_par3, ↓x_p3, ↓x_C, ↓x_op, ↓x_test, ↓x_chain, ↓x_andT, ↓x_orT, ↓x_notT, ↓x_ifE, ↓x_andV, ↓x_orV, ↓x_notV, ↓x_nil, ↓x_cons, ↓x_star, ↓x_tup, ↓x_lst, ↓x_callB, ↓x_call, ↓x_callK, ↓x_meth, ↓x_make, ↓x_fld, ↓x_fldS, ↓x_bm0, ↓x_bm, ↓x_sl, ↓x_nop, ↓x_prt, ↓x_neg, ↓x_revL, ↓x_lc, ↓x_for, ↓x_diSeq, ↓x_diEnum, ↓x_rng1, ↓y_addi, ↓y_adds, ↓y_addt, ↓y_int, ↓y_intC, ↓y_is, ↓y_isn, ↓y_nnon, ↓y_nbl, ↓y_nint, ↓y_nstr, ↓y_ntup, ↓y_nref, ↓y_t0, ↓y_t1, ↓y_t2, ↓y_t3, ↓y_m2, ↓y_m3, ↓y_len0, ↓y_len1, ↓y_len2, ↓y_len3, ↓y_len, ↓y_lenS, ↓y_itt, ↓y_iss, ↓y_iii, ↓y_iib, ↓y_i1, ↓y_i1b, ↓y_abs, ↓y_strI, ↓y_slt, ↓y_sls, ↓y_tys, ↓y_gs0, ↓y_gs1, ↓y_gs2, ↓y_gs3, ↓y_gs4, ↓y_gs5, ↓y_gs6, ↓y_gs7, ↓bIn_2, ↓bNotIn_2, ↓bEq_int, ↓bNe_int, wipeD, List.map_cons, List.map_nil, List.set_cons_zero, List.set_cons_succ, Option.some.injEq, exists_and_left, exists_eq_left', exists_eq_left, decide_true, decide_false, Bool.false_eq_true, reduceIte, Bool.not_true, Bool.not_false, List.length_cons, List.length_nil, Nat.reduceAdd, Nat.zero_add, line16, Nat.reduceLeDiff, Int.reduceEq, Int.reduceLT, Int.reduceLE, Int.reduceNeg, or_true, true_or, or_self, or_false, false_or, true_and, and_true, and_self, List.cons_append, List.nil_append, List.append_nil, forall_const]
      exact ⟨_, g, gs, _, _, rfl, hS, hp', hg, hMg, hpos, by omega⟩
  · rintro σ M' ⟨sl, g, gs, u, v, rfl, hS, hp', hg, hMg, hpos, hgl⟩
    simp only [↓x_seq, ↓x_next, ↓x_ret, ↓x_retN, ↓x_drop, ↓x_if, ↓x_asg, ↓x_false, ↓x_brk, ↓x_cnt, ↓x_g0, ↓x_v0, ↓x_g1, ↓x_v1, ↓x_g2, ↓x_v2, ↓x_g3, ↓x_v3, ↓x_g4, ↓x_v4, ↓x_g5, ↓x_v5, ↓x_g6, ↓x_v6, ↓x_g7, ↓x_v7, ↓x_g8, ↓x_v8, ↓x_g9, ↓x_v9, ↓x_g10, ↓x_v10, ↓x_g11, ↓x_v11, ↓x_g12, ↓x_v12, ↓x_g13, ↓x_v13, ↓x_g14, ↓x_v14, ↓x_g15, ↓x_v15, ↓x_g16, ↓x_v16, ↓x_g17, ↓x_v17, ↓x_g18, ↓x_v18, ↓x_g19, ↓x_v19, ↓x_gt2, ↓x_gt3, ↓x_gt4, ↓x_gt5, ↓x_gt6, ↓x_gc, ↓x_gn, ↓x_par2, ↓x_p2, ↓x_par3, ↓x_p3, ↓x_C, ↓x_op, ↓x_test, ↓x_chain, ↓x_andT, ↓x_orT, ↓x_notT, ↓x_ifE, ↓x_andV, ↓x_orV, ↓x_notV, ↓x_nil, ↓x_cons, ↓x_star, ↓x_tup, ↓x_lst, ↓x_callB, ↓x_call, ↓x_callK, ↓x_meth, ↓x_make, ↓x_fld, ↓x_fldS, ↓x_bm0, ↓x_bm, ↓x_sl, ↓x_nop, ↓x_prt, ↓x_neg, ↓x_revL, ↓x_lc, ↓x_for, ↓x_diSeq, ↓x_diEnum, ↓x_rng1, ↓y_addi, ↓y_adds, ↓y_addt, ↓y_int, ↓y_intC, ↓y_is, ↓y_isn, ↓y_nnon, ↓y_nbl, ↓y_nint, ↓y_nstr, ↓y_ntup, ↓y_nref, ↓y_t0, ↓y_t1, ↓y_t2, ↓y_t3, ↓y_m2, ↓y_m3, ↓y_len0, ↓y_len1, ↓y_len2, ↓y_len3, ↓y_len, ↓y_lenS, ↓y_itt, ↓y_iss, ↓y_iii, ↓y_iib, ↓y_i1, ↓y_i1b, ↓y_abs, ↓y_strI, ↓y_slt, ↓y_sls, ↓y_tys, ↓y_gs0, ↓y_gs1, ↓y_gs2, ↓y_gs3, ↓y_gs4, ↓y_gs5, ↓y_gs6, ↓y_gs7, ↓bIn_2, ↓bNotIn_2, ↓bEq_int, ↓bNe_int, wipeD, List.map_cons, List.map_nil, List.set_cons_zero, List.set_cons_succ, Option.some.injEq, exists_and_left, exists_eq_left', exists_eq_left, decide_true, decide_false, Bool.false_eq_true, reduceIte, Bool.not_true, Bool.not_false, List.length_cons, List.length_nil, Nat.reduceAdd, Nat.zero_add, line16, Nat.reduceLeDiff, Int.reduceEq, Int.reduceLT, Int.reduceLE, Int.reduceNeg, or_true, true_or, or_self, or_false, false_or, true_and, and_true, and_self, List.cons_append, List.nil_append, List.append_nil, forall_const, dDisp, dPairs]
    intro a ha
    have hga : g ≠ a := ne_of hg ha
    show ∀ b, _ → _
    intro b hb
    rw [cut_60, ← List.map_take]
    have hab : a ≠ b := ne_of put_same hb
    have hgb : g ≠ b := ne_of ((put_ne hga).trans hg) hb
    show (match put (put M' a (.dk [])) b (.lst ((ns.take 60).map D.int)) b with | some (.lst l) => _ | _ => False)
    rw [put_same]
    refine ⟨(put_ne hab).trans put_same, [(.inr "great", .ref g), (.inr "seal", .int (sl + ((ns.take 60).map D.int).length)), (.inr "turn", .int 0)], rfl, by simp, ?_⟩
    refine Fg.now (q a g _ ⟨gs, _, 0, by rw [put_same]; rfl, (put_ne hga).trans ((put_ne hgb).trans ((put_ne hga).trans hg)), hpos, Ne.symm hga, by omega⟩ (((hS.new ha).new hb).set (hS.nn ha)) (hS.nn ha) hMg)
end
end K76
namespace K76
open PySem PySem.Spec PyProof.Rows L2 DL
/-- rooms in a list of the map -/
structure Rm (a g r : Addr) (rooms : List Nat) (M : Mp) : Prop where
  at_ : M r = some (.lst ((nI rooms).map D.int))
  na : r ≠ a
  ng : r ≠ g
  lt : ∀ x ∈ rooms, x < 6
  len : rooms.length ≤ 6
theorem Rm.kp {a g r : Addr} {rooms : List Nat} {M M' : Mp} (h : Rm a g r rooms M) (k : Kp a g M M') : Rm a g r rooms M' := ⟨k _ _ h.na h.ng h.at_, h.na, h.ng, h.lt, h.len⟩
theorem Dk.kp_new {a g c : Addr} {M : Mp} {o : MO} (h : Dk a g M) (hc : M c = none) : Dk a g (put M c o) := h.sub (Sub.putNew hc)
theorem Dk.na {a g c : Addr} {M : Mp} (h : Dk a g M) (hc : M c = none) : c ≠ a ∧ c ≠ g := by
  obtain ⟨gs, sl, turn, h1, h2, _⟩ := h
  exact ⟨fun e => by (rw [e, h1] at hc; cases hc), fun e => by (rw [e, h2] at hc; cases hc)⟩
theorem Dk.put {a g c : Addr} {M : Mp} {o : MO} (h : Dk a g M) (h1 : c ≠ a) (h2 : c ≠ g) : Dk a g (DL.put M c o) := by
  obtain ⟨gs, sl, turn, e1, e2, e3⟩ := h
  exact ⟨gs, sl, turn, (put_ne (Ne.symm h1)).trans e1, (put_ne (Ne.symm h2)).trans e2, e3⟩
theorem cPs_app (a b : List Part) : cPs (a ++ b) = cPs a + cPs b := by rw [cPs_sum, cPs_sum, cPs_sum, List.map_append, List.sum_append]
theorem okPs_snoc {a : List Part} {p : Part} (h : okPs a = true) (hp : okP p = true) : okPs (a ++ [p]) = true := by
  rw [okPs_iff]; intro q hq
  rcases List.mem_append.mp hq with z | z
  · exact (okPs_iff a).mp h q z
  · rw [List.mem_singleton.mp z]; exact hp
section
variable {P : Program} {w : World} {K : PySem.W.Frag} {mg : Str → Option Value} {base : Heap}
def sp_lparts (d : Nat) : DSp := fun ds M Q E => ∃ (a g r : Addr) (rooms : List Nat) (left : Nat), ds = [.ref a, .ref r, .int ((left : Nat) : Int), .int ((d : Nat) : Int)] ∧ 1 ≤ left ∧ left ≤ 12 ∧ Rm a g r rooms M ∧ Dk a g M ∧
  ∀ (ps : List Part) M', okPs ps = true → ps ≠ [] → cPs ps ≤ left → Dk a g M' → Kp a g M M' → Q (.tup [.tup (pDs ps), .int ((cPs ps : Nat) : Int)]) M'
def sp_lpart (d : Nat) : DSp := fun ds M Q E => ∃ (a g r : Addr) (rooms : List Nat) (left : Nat), ds = [.ref a, .ref r, .int ((left : Nat) : Int), .int ((d : Nat) : Int)] ∧ 1 ≤ left ∧ left ≤ 12 ∧ Rm a g r rooms M ∧ Dk a g M ∧
  ∀ (p : Part) M', okP p = true → cP p ≤ left → Dk a g M' → Kp a g M M' → Q (.tup [pD p, .int ((cP p : Nat) : Int)]) M'
def lpI (a g r c : Addr) (rooms : List Nat) (left d : Nat) (M : Mp) : Nat → Sg → Mp → Prop := fun i σ M' => ∃ (ps : List Part) (u6 u7 u8 : Option D), σ = [some (.ref a), some (.ref r), some (.int ((left : Nat) : Int)), some (.int ((d : Nat) : Int)), some (.ref c), some (.int ((cPs ps : Nat) : Int)), u6, u7, u8] ∧ okPs ps = true ∧ cPs ps ≤ left ∧ (0 < i → ps ≠ []) ∧ Dk a g M' ∧ Kp a g M M' ∧ M' c = some (.lst (ps.map pD))
theorem n_lparts (T : Tx K mg) (d : Nat) (hp : DFn P w K mg base CX0 (2 * d + 3) T.f__law_part T.d__law_part ["deck", "rooms", "left", "deep"] (sp_lpart d)) : DFn P w K mg base CX0 (2 * d + 3 + 1) T.f__law_parts T.d__law_parts ["deck", "rooms", "left", "deep"] (sp_lparts d) := by
  refine dfn_of (N := N__law_parts) T.F__law_parts sc__law_parts (by decide) (fun ds M Q E h => ?_) (fun cdv A outer s H hr hgd => (dss_cons (ds_par (i := 4) (j := 5) rfl sc__law_parts.nd rfl rfl (by decide) rfl rfl (da_cons (de_lst da_nil) (da_cons de_int da_nil)) (by rfl)) (dss_cons (ds_for PassesOwn.never rfl (di_rng1 rfl T.n_range (da_cons (de_bin op_add4 tr_add de_int (de_call (ok__law_draw T) (hr.mono (by omega)) hgd rfl T.g__law_draw T.F__law_draw.kp T.b__law_draw dpass0 (da_cons (de_var 0) (da_cons de_int da_nil)))) da_nil)) (dg_name (i := 6) sc__law_parts.nd rfl (Or.inl rfl)) (dss_one (ds_if (dt_cmp op_lt tr_intB (de_var 5) (de_var 2) (nomark _)) (dss_cons (ds_asg (de_call hp (hr.mono (by omega)) hgd rfl T.g__law_part T.F__law_part.kp T.b__law_part dpass0 (da_cons (de_var 0) (da_cons (de_var 1) (da_cons (de_bin op_sub tr_int (de_var 2) (de_var 5)) (da_cons (de_var 3) da_nil))))) (dg_tup (n := 2) rfl (dgs_cons (dg_name (i := 7) sc__law_parts.nd rfl (Or.inl rfl)) (dgs_cons (dg_name (i := 8) sc__law_parts.nd rfl (Or.inl rfl)) dgs_nil)))) (dss_cons (ds_expr (de_bm PySem.F.plainAttrs_list PySem.F.slot_list_append PySem.F.type_list_append mt_append tr_append (de_var 4) (da_cons (de_var 7) da_nil))) (dss_one (ds_set (i := 5) sc__law_parts.nd rfl (Or.inl rfl) (de_bin op_add4 tr_add (de_var 5) (de_var 8)))))) dss_nil))) (dss_one (ds_ret (de_tup (da_cons (de_callTy call_tuple_of tr_tuple rfl T.n_tuple bt_tuple (da_cons (de_var 4) da_nil)) (da_cons (de_var 5) da_nil)))))))) ?_
  · obtain ⟨_, _, _, _, _, rfl, _⟩ := h; rfl
  rintro ds M Q E ⟨a, g, r, rooms, left, rfl, hl1, hl2, hR, hD, q⟩
  rw [st__law_parts]
  simp only [↓x_seq, ↓x_next, ↓x_ret, ↓x_retN, ↓x_drop, ↓x_if, ↓x_asg, ↓x_false, ↓x_brk, ↓x_cnt, ↓x_g0, ↓x_v0, ↓x_g1, ↓x_v1, ↓x_g2, ↓x_v2, ↓x_g3, ↓x_v3, ↓x_g4, ↓x_v4, ↓x_g5, ↓x_v5, ↓x_g6, ↓x_v6, ↓x_g7, ↓x_v7, ↓x_g8, ↓x_v8, ↓x_g9, ↓x_v9, ↓x_g10, ↓x_v10, ↓x_g11, ↓x_v11, ↓x_g12, ↓x_v12, ↓x_g13, ↓x_v13, ↓x_g14, ↓x_v14, ↓x_g15, ↓x_v15, ↓x_g16, ↓x_v16, ↓x_g17, ↓x_v17, ↓x_g18, ↓x_v18, ↓x_g19, ↓x_v19, ↓x_gt2, ↓x_gt3, ↓x_gt4, ↓x_gt5, ↓x_gt6, ↓x_gc, ↓x_gn, ↓x_par2, ↓x_p2, ↓x_par3, ↓x_p3, ↓x_C, ↓x_op, ↓x_test, ↓x_chain, ↓x_andT, ↓x_orT, ↓x_notT, ↓x_ifE, ↓x_andV, ↓x_orV, ↓x_notV, ↓x_nil, ↓x_cons, ↓x_star, ↓x_tup, ↓x_lst, ↓x_callB, ↓x_call, ↓x_callK, ↓x_meth, ↓x_make, ↓x_fld, ↓x_fldS, ↓x_bm0, ↓x_bm, ↓x_sl, ↓x_nop, ↓x_prt, ↓x_neg, ↓x_revL, ↓x_lc, ↓x_for, ↓x_diSeq, ↓x_diEnum, ↓x_rng1, ↓y_addi, ↓y_adds, ↓y_addt, ↓y_int, ↓y_intC, ↓y_is, ↓y_isn, ↓y_nnon, ↓y_nbl, ↓y_nint, ↓y_nstr, ↓y_ntup, ↓y_nref, ↓y_t0, ↓y_t1, ↓y_t2, ↓y_t3, ↓y_m2, ↓y_m3, ↓y_len0, ↓y_len1, ↓y_len2, ↓y_len3, ↓y_len, ↓y_lenS, ↓y_itt, ↓y_iss, ↓y_iii, ↓y_iib, ↓y_i1, ↓y_i1b, ↓y_abs, ↓y_strI, ↓y_slt, ↓y_sls, ↓y_tys, ↓y_gs0, ↓y_gs1, ↓y_gs2, ↓y_gs3, ↓y_gs4, ↓y_gs5, ↓y_gs6, ↓y_gs7, ↓bIn_2, ↓bNotIn_2, ↓bEq_int, ↓bNe_int, wipeD, List.map_cons, List.map_nil, List.set_cons_zero, List.set_cons_succ, Option.some.injEq, exists_and_left, exists_eq_left', exists_eq_left, decide_true, decide_false, Bool.false_eq_true, reduceIte, Bool.not_true, Bool.not_false, List.length_cons, List.length_nil, Nat.reduceAdd, Nat.zero_add, line16, Nat.reduceLeDiff, Int.reduceEq, Int.reduceLT, Int.reduceLE, Int.reduceNeg, or_true, true_or, or_self, or_false, false_or, true_and, and_true, and_self, List.cons_append, List.nil_append, List.append_nil, forall_const]
  intro c hc
  have hcn := hD.na hc
  have hD1 := hD.kp_new (o := .lst []) hc
  have hK1 : Kp a g M (put M c (.lst [])) := Kp.refl.new hc
  refine ⟨a, g, 3, rfl, by omega, by omega, hD1, fun n3 M1 hn3 hD2 hK2 => ?_⟩
  simp only [↓x_seq, ↓x_next, ↓x_ret, ↓x_retN, ↓x_drop, ↓x_if, ↓x_asg, ↓x_false, ↓x_brk, ↓x_cnt, ↓x_g0, ↓x_v0, ↓x_g1, ↓x_v1, ↓x_g2, ↓x_v2, ↓x_g3, ↓x_v3, ↓x_g4, ↓x_v4, ↓x_g5, ↓x_v5, ↓x_g6, ↓x_v6, ↓x_g7, ↓x_v7, ↓x_g8, ↓x_v8, ↓x_g9, ↓x_v9, ↓x_g10, ↓x_v10, ↓x_g11, ↓x_v11, ↓x_g12, ↓x_v12, ↓x_g13, ↓x_v13, ↓x_g14, ↓x_v14, ↓x_g15, ↓x_v15, ↓x_g16, ↓x_v16, ↓x_g17, ↓x_v17, ↓x_g18, ↓x_v18, ↓x_g19, ↓x_v19, ↓x_gt2, ↓x_gt3, ↓x_gt4, ↓x_gt5, ↓x_gt6, ↓x_gc, ↓x_gn, ↓x_par2, ↓x_p2, ↓x_par3, ↓x_p3, ↓x_C, ↓x_op, ↓x_test, ↓x_chain, ↓x_andT, ↓x_orT, ↓x_notT, ↓x_ifE, ↓x_andV, ↓x_orV, ↓x_notV, ↓x_nil, ↓x_cons, ↓x_star, ↓x_tup, ↓x_lst, ↓x_callB, ↓x_call, ↓x_callK, ↓x_meth, ↓x_make, ↓x_fld, ↓x_fldS, ↓x_bm0, ↓x_bm, ↓x_sl, ↓x_nop, ↓x_prt, ↓x_neg, ↓x_revL, ↓x_lc, ↓x_for, ↓x_diSeq, ↓x_diEnum, ↓x_rng1, ↓y_addi, ↓y_adds, ↓y_addt, ↓y_int, ↓y_intC, ↓y_is, ↓y_isn, ↓y_nnon, ↓y_nbl, ↓y_nint, ↓y_nstr, ↓y_ntup, ↓y_nref, ↓y_t0, ↓y_t1, ↓y_t2, ↓y_t3, ↓y_m2, ↓y_m3, ↓y_len0, ↓y_len1, ↓y_len2, ↓y_len3, ↓y_len, ↓y_lenS, ↓y_itt, ↓y_iss, ↓y_iii, ↓y_iib, ↓y_i1, ↓y_i1b, ↓y_abs, ↓y_strI, ↓y_slt, ↓y_sls, ↓y_tys, ↓y_gs0, ↓y_gs1, ↓y_gs2, ↓y_gs3, ↓y_gs4, ↓y_gs5, ↓y_gs6, ↓y_gs7, ↓bIn_2, ↓bNotIn_2, ↓bEq_int, ↓bNe_int, wipeD, List.map_cons, List.map_nil, List.set_cons_zero, List.set_cons_succ, Option.some.injEq, exists_and_left, exists_eq_left', exists_eq_left, decide_true, decide_false, Bool.false_eq_true, reduceIte, Bool.not_true, Bool.not_false, List.length_cons, List.length_nil, Nat.reduceAdd, Nat.zero_add, line16, Nat.reduceLeDiff, Int.reduceEq, Int.reduceLT, Int.reduceLE, Int.reduceNeg, or_true, true_or, or_self, or_false, false_or, true_and, and_true, and_self, List.cons_append, List.nil_append, List.append_nil, forall_const]
  refine ⟨by omega, by omega, ?_⟩
  have hK3 := hK1.trans hK2
  have hcM : M1 c = some (.lst []) := hK2 _ _ hcn.1 hcn.2 put_same
  refine forG_A (List.range (1 + ((n3 : Nat) : Int)).toNat) (fun i => .int (0 + ((i : Nat) : Int))) rfl (lpI a g r c rooms left d M) ⟨[], none, none, none, rfl, rfl, Nat.zero_le _, fun h => absurd h (by decide), hD2, hK3, hcM⟩ (fun _ _ _ _ => trivial) ?_ ?_
  · rintro i x σ M2 hx ⟨ps, u6, u7, u8, rfl, hok, hle, hne, hD4, hK4, hc4⟩
    by_cases hlt : ((cPs ps : Nat) : Int) < ((left : Nat) : Int)
    · simp only [↓x_seq, ↓x_next, ↓x_ret, ↓x_retN, ↓x_drop, ↓x_if, ↓x_asg, ↓x_false, ↓x_brk, ↓x_cnt, ↓x_g0, ↓x_v0, ↓x_g1, ↓x_v1, ↓x_g2, ↓x_v2, ↓x_g3, ↓x_v3, ↓x_g4, ↓x_v4, ↓x_g5, ↓x_v5, ↓x_g6, ↓x_v6, ↓x_g7, ↓x_v7, ↓x_g8, ↓x_v8, ↓x_g9, ↓x_v9, ↓x_g10, ↓x_v10, ↓x_g11, ↓x_v11, ↓x_g12, ↓x_v12, ↓x_g13, ↓x_v13, ↓x_g14, ↓x_v14, ↓x_g15, ↓x_v15, ↓x_g16, ↓x_v16, ↓x_g17, ↓x_v17, ↓x_g18, ↓x_v18, ↓x_g19, ↓x_v19, ↓x_gt2, ↓x_gt3, ↓x_gt4, ↓x_gt5, ↓x_gt6, ↓x_gc, ↓x_gn, ↓x_par2, ↓x_p2, ↓x_par3, ↓x_p3, ↓x_C, ↓x_op, ↓x_test, ↓x_chain, ↓x_andT, ↓x_orT, ↓x_notT, ↓x_ifE, ↓x_andV, ↓x_orV, ↓x_notV, ↓x_nil, ↓x_cons, ↓x_star, ↓x_tup, ↓x_lst, ↓x_callB, ↓x_call, ↓x_callK, ↓x_meth, ↓x_make, ↓x_fld, ↓x_fldS, ↓x_bm0, ↓x_bm, ↓x_sl, ↓x_nop, ↓x_prt, ↓x_neg, ↓x_revL, ↓x_lc, ↓x_for, ↓x_diSeq, ↓x_diEnum, ↓x_rng1, ↓y_addi, ↓y_adds, ↓y_addt, ↓y_int, ↓y_intC, ↓y_is, ↓y_isn, ↓y_nnon, ↓y_nbl, ↓y_nint, ↓y_nstr, ↓y_ntup, ↓y_nref, ↓y_t0, ↓y_t1, ↓y_t2, ↓y_t3, ↓y_m2, ↓y_m3, ↓y_len0, ↓y_len1, ↓y_len2, ↓y_len3, ↓y_len, ↓y_lenS, ↓y_itt, ↓y_iss, ↓y_iii, ↓y_iib, ↓y_i1, ↓y_i1b, ↓y_abs, ↓y_strI, ↓y_slt, ↓y_sls, ↓y_tys, ↓y_gs0, ↓y_gs1, ↓y_gs2, ↓y_gs3, ↓y_gs4, ↓y_gs5, ↓y_gs6, ↓y_gs7, ↓bIn_2, ↓bNotIn_2, ↓bEq_int, ↓bNe_int, wipeD, List.map_cons, List.map_nil, List.set_cons_zero, List.set_cons_succ, Option.some.injEq, exists_and_left, exists_eq_left', exists_eq_left, decide_true, decide_false, Bool.false_eq_true, reduceIte, Bool.not_true, Bool.not_false, List.length_cons, List.length_nil, Nat.reduceAdd, Nat.zero_add, line16, Nat.reduceLeDiff, Int.reduceEq, Int.reduceLT, Int.reduceLE, Int.reduceNeg, or_true, true_or, or_self, or_false, false_or, true_and, and_true, and_self, List.cons_append, List.nil_append, List.append_nil, forall_const, hlt]
      refine ⟨a, g, r, rooms, left - cPs ps, ?_, by omega, by omega, hR.kp hK4, hD4, fun p M5 hp hcp hD5 hK5 => ?_⟩
      · rw [show (((left - cPs ps : Nat) : Nat) : Int) = ((left : Nat) : Int) - ((cPs ps : Nat) : Int) by omega]
      · have hc5 := hK5 _ _ hcn.1 hcn.2 hc4
        have hlen := len_cPs ps
        simp only [↓y_app hc5, ↓y_tyl hc5, ↓x_seq, ↓x_next, ↓x_ret, ↓x_retN, ↓x_drop, ↓x_if, ↓x_asg, ↓x_false, ↓x_brk, ↓x_cnt, ↓x_g0, ↓x_v0, ↓x_g1, ↓x_v1, ↓x_g2, ↓x_v2, ↓x_g3, ↓x_v3, ↓x_g4, ↓x_v4, ↓x_g5, ↓x_v5, ↓x_g6, ↓x_v6, ↓x_g7, ↓x_v7, ↓x_g8, ↓x_v8, ↓x_g9, ↓x_v9, ↓x_g10, ↓x_v10, ↓x_g11, ↓x_v11, ↓x_g12, ↓x_v12, ↓x_g13, ↓x_v13, ↓x_g14, ↓x_v14, ↓x_g15, ↓x_v15, ↓x_g16, ↓x_v16, ↓x_g17, ↓x_v17, ↓x_g18, ↓x_v18, ↓x_g19, ↓x_v19, ↓x_gt2, ↓x_gt3, ↓x_gt4, ↓x_gt5, ↓x_gt6, ↓x_gc, ↓x_gn, ↓x_par2, ↓x_p2, ↓x_par3, ↓x_p3, ↓x_C, ↓x_op, ↓x_test, ↓x_chain, ↓x_andT, ↓x_orT, ↓x_notT, ↓x_ifE, ↓x_andV, ↓x_orV, ↓x_notV, ↓x_nil, ↓x_cons, ↓x_star, ↓x_tup, ↓x_lst, ↓x_callB, ↓x_call, ↓x_callK, ↓x_meth, ↓x_make, ↓x_fld, ↓x_fldS, ↓x_bm0, ↓x_bm, ↓x_sl, ↓x_nop, ↓x_prt, ↓x_neg, ↓x_revL, ↓x_lc, ↓x_for, ↓x_diSeq, ↓x_diEnum, ↓x_rng1, ↓y_addi, ↓y_adds, ↓y_addt, ↓y_int, ↓y_intC, ↓y_is, ↓y_isn, ↓y_nnon, ↓y_nbl, ↓y_nint, ↓y_nstr, ↓y_ntup, ↓y_nref, ↓y_t0, ↓y_t1, ↓y_t2, ↓y_t3, ↓y_m2, ↓y_m3, ↓y_len0, ↓y_len1, ↓y_len2, ↓y_len3, ↓y_len, ↓y_lenS, ↓y_itt, ↓y_iss, ↓y_iii, ↓y_iib, ↓y_i1, ↓y_i1b, ↓y_abs, ↓y_strI, ↓y_slt, ↓y_sls, ↓y_tys, ↓y_gs0, ↓y_gs1, ↓y_gs2, ↓y_gs3, ↓y_gs4, ↓y_gs5, ↓y_gs6, ↓y_gs7, ↓bIn_2, ↓bNotIn_2, ↓bEq_int, ↓bNe_int, wipeD, List.map_cons, List.map_nil, List.set_cons_zero, List.set_cons_succ, Option.some.injEq, exists_and_left, exists_eq_left', exists_eq_left, decide_true, decide_false, Bool.false_eq_true, reduceIte, Bool.not_true, Bool.not_false, List.length_cons, List.length_nil, Nat.reduceAdd, Nat.zero_add, line16, Nat.reduceLeDiff, Int.reduceEq, Int.reduceLT, Int.reduceLE, Int.reduceNeg, or_true, true_or, or_self, or_false, false_or, true_and, and_true, and_self, List.cons_append, List.nil_append, List.append_nil, forall_const, List.length_map]
        refine ⟨by omega, ps ++ [p], some (.int (0 + ((x : Nat) : Int))), some (pD p), some (.int ((cP p : Nat) : Int)), ?_, okPs_snoc hok hp, ?_, fun _ => by simp, hD5.put hcn.1 hcn.2, ?_, ?_⟩
        · rw [cPs_app, show ((cPs ps + cPs [p] : Nat) : Int) = ((cPs ps : Nat) : Int) + ((cP p : Nat) : Int) by simp [cPs]]
        · rw [cPs_app]; simp [cPs]; omega
        · exact fun b o e1 e2 z => (put_ne (ne_of z hc)).trans (hK4.trans hK5 b o e1 e2 z)
        · rw [put_same]; simp
    · simp only [↓x_seq, ↓x_next, ↓x_ret, ↓x_retN, ↓x_drop, ↓x_if, ↓x_asg, ↓x_false, ↓x_brk, ↓x_cnt, ↓x_g0, ↓x_v0, ↓x_g1, ↓x_v1, ↓x_g2, ↓x_v2, ↓x_g3, ↓x_v3, ↓x_g4, ↓x_v4, ↓x_g5, ↓x_v5, ↓x_g6, ↓x_v6, ↓x_g7, ↓x_v7, ↓x_g8, ↓x_v8, ↓x_g9, ↓x_v9, ↓x_g10, ↓x_v10, ↓x_g11, ↓x_v11, ↓x_g12, ↓x_v12, ↓x_g13, ↓x_v13, ↓x_g14, ↓x_v14, ↓x_g15, ↓x_v15, ↓x_g16, ↓x_v16, ↓x_g17, ↓x_v17, ↓x_g18, ↓x_v18, ↓x_g19, ↓x_v19, ↓x_gt2, ↓x_gt3, ↓x_gt4, ↓x_gt5, ↓x_gt6, ↓x_gc, ↓x_gn, ↓x_par2, ↓x_p2, ↓x_par3, ↓x_p3, ↓x_C, ↓x_op, ↓x_test, ↓x_chain, ↓x_andT, ↓x_orT, ↓x_notT, ↓x_ifE, ↓x_andV, ↓x_orV, ↓x_notV, ↓x_nil, ↓x_cons, ↓x_star, ↓x_tup, ↓x_lst, ↓x_callB, ↓x_call, ↓x_callK, ↓x_meth, ↓x_make, ↓x_fld, ↓x_fldS, ↓x_bm0, ↓x_bm, ↓x_sl, ↓x_nop, ↓x_prt, ↓x_neg, ↓x_revL, ↓x_lc, ↓x_for, ↓x_diSeq, ↓x_diEnum, ↓x_rng1, ↓y_addi, ↓y_adds, ↓y_addt, ↓y_int, ↓y_intC, ↓y_is, ↓y_isn, ↓y_nnon, ↓y_nbl, ↓y_nint, ↓y_nstr, ↓y_ntup, ↓y_nref, ↓y_t0, ↓y_t1, ↓y_t2, ↓y_t3, ↓y_m2, ↓y_m3, ↓y_len0, ↓y_len1, ↓y_len2, ↓y_len3, ↓y_len, ↓y_lenS, ↓y_itt, ↓y_iss, ↓y_iii, ↓y_iib, ↓y_i1, ↓y_i1b, ↓y_abs, ↓y_strI, ↓y_slt, ↓y_sls, ↓y_tys, ↓y_gs0, ↓y_gs1, ↓y_gs2, ↓y_gs3, ↓y_gs4, ↓y_gs5, ↓y_gs6, ↓y_gs7, ↓bIn_2, ↓bNotIn_2, ↓bEq_int, ↓bNe_int, wipeD, List.map_cons, List.map_nil, List.set_cons_zero, List.set_cons_succ, Option.some.injEq, exists_and_left, exists_eq_left', exists_eq_left, decide_true, decide_false, Bool.false_eq_true, reduceIte, Bool.not_true, Bool.not_false, List.length_cons, List.length_nil, Nat.reduceAdd, Nat.zero_add, line16, Nat.reduceLeDiff, Int.reduceEq, Int.reduceLT, Int.reduceLE, Int.reduceNeg, or_true, true_or, or_self, or_false, false_or, true_and, and_true, and_self, List.cons_append, List.nil_append, List.append_nil, forall_const, hlt]
      exact ⟨ps, _, _, _, rfl, hok, hle, fun _ => fun e => by subst e; simp [cPs] at hlt; omega, hD4, hK4, hc4⟩
  · rintro σ M2 ⟨ps, u6, u7, u8, rfl, hok, hle, hne, hD4, hK4, hc4⟩
    simp only [↓x_seq, ↓x_next, ↓x_ret, ↓x_retN, ↓x_drop, ↓x_if, ↓x_asg, ↓x_false, ↓x_brk, ↓x_cnt, ↓x_g0, ↓x_v0, ↓x_g1, ↓x_v1, ↓x_g2, ↓x_v2, ↓x_g3, ↓x_v3, ↓x_g4, ↓x_v4, ↓x_g5, ↓x_v5, ↓x_g6, ↓x_v6, ↓x_g7, ↓x_v7, ↓x_g8, ↓x_v8, ↓x_g9, ↓x_v9, ↓x_g10, ↓x_v10, ↓x_g11, ↓x_v11, ↓x_g12, ↓x_v12, ↓x_g13, ↓x_v13, ↓x_g14, ↓x_v14, ↓x_g15, ↓x_v15, ↓x_g16, ↓x_v16, ↓x_g17, ↓x_v17, ↓x_g18, ↓x_v18, ↓x_g19, ↓x_v19, ↓x_gt2, ↓x_gt3, ↓x_gt4, ↓x_gt5, ↓x_gt6, ↓x_gc, ↓x_gn, ↓x_par2, ↓x_p2, ↓x_par3, ↓x_p3, ↓x_C, ↓x_op, ↓x_test, ↓x_chain, ↓x_andT, ↓x_orT, ↓x_notT, ↓x_ifE, ↓x_andV, ↓x_orV, ↓x_notV, ↓x_nil, ↓x_cons, ↓x_star, ↓x_tup, ↓x_lst, ↓x_callB, ↓x_call, ↓x_callK, ↓x_meth, ↓x_make, ↓x_fld, ↓x_fldS, ↓x_bm0, ↓x_bm, ↓x_sl, ↓x_nop, ↓x_prt, ↓x_neg, ↓x_revL, ↓x_lc, ↓x_for, ↓x_diSeq, ↓x_diEnum, ↓x_rng1, ↓y_addi, ↓y_adds, ↓y_addt, ↓y_int, ↓y_intC, ↓y_is, ↓y_isn, ↓y_nnon, ↓y_nbl, ↓y_nint, ↓y_nstr, ↓y_ntup, ↓y_nref, ↓y_t0, ↓y_t1, ↓y_t2, ↓y_t3, ↓y_m2, ↓y_m3, ↓y_len0, ↓y_len1, ↓y_len2, ↓y_len3, ↓y_len, ↓y_lenS, ↓y_itt, ↓y_iss, ↓y_iii, ↓y_iib, ↓y_i1, ↓y_i1b, ↓y_abs, ↓y_strI, ↓y_slt, ↓y_sls, ↓y_tys, ↓y_gs0, ↓y_gs1, ↓y_gs2, ↓y_gs3, ↓y_gs4, ↓y_gs5, ↓y_gs6, ↓y_gs7, ↓bIn_2, ↓bNotIn_2, ↓bEq_int, ↓bNe_int, wipeD, List.map_cons, List.map_nil, List.set_cons_zero, List.set_cons_succ, Option.some.injEq, exists_and_left, exists_eq_left', exists_eq_left, decide_true, decide_false, Bool.false_eq_true, reduceIte, Bool.not_true, Bool.not_false, List.length_cons, List.length_nil, Nat.reduceAdd, Nat.zero_add, line16, Nat.reduceLeDiff, Int.reduceEq, Int.reduceLT, Int.reduceLE, Int.reduceNeg, or_true, true_or, or_self, or_false, false_or, true_and, and_true, and_self, List.cons_append, List.nil_append, List.append_nil, forall_const]
    refine ⟨pDs ps, ?_, Fg.now (q ps _ hok (hne (by rw [List.length_range]; omega)) hle hD4 hK4)⟩
    show (match M2 c with | some (.lst l) => some l | _ => none) = _
    rw [hc4, pDs_map]
end
end K76
namespace K76
open PySem PySem.Spec PyProof.Rows L2 DL
section
variable {P : Program} {w : World} {K : PySem.W.Frag} {mg : Str → Option Value} {base : Heap}
theorem y_bEqR {a g r e : Addr} {rooms : List Nat} {M : Mp} {Q : D → Mp → Prop} (h : Rm a g r rooms M) (he : M e = none) : bEq (.ref r) (.ref e) (put M e (.lst [])) Q = Q (.bl rooms.isEmpty) (put M e (.lst [])) := by
  have e1 : rooms.isEmpty = ((nI rooms).map PyData.int).isEmpty := by cases rooms <;> rfl
  rw [e1]
  exact bEq_lnil ((put_ne (ne_of h.at_ he)).trans h.at_) (toPs_ints _) (shaped_lint _) put_same
theorem y_bNeR {a g r e : Addr} {rooms : List Nat} {M : Mp} {Q : D → Mp → Prop} (h : Rm a g r rooms M) (he : M e = none) : bNe (.ref r) (.ref e) (put M e (.lst [])) Q = Q (.bl (!rooms.isEmpty)) (put M e (.lst [])) := by
  have e1 : rooms.isEmpty = ((nI rooms).map PyData.int).isEmpty := by cases rooms <;> rfl
  rw [e1]
  exact bNe_lnil ((put_ne (ne_of h.at_ he)).trans h.at_) (toPs_ints _) (shaped_lint _) put_same
theorem Kp.new2 {a g c : Addr} {M M' : Mp} {o : MO} (h : Kp a g M M') (hc : M' c = none) : Kp a g M (put M' c o) := fun b o' e1 e2 q => (put_ne (ne_of (h b o' e1 e2 q) hc)).trans (h b o' e1 e2 q)
/-- what holds between the statements of _law_part -/
def lpJ (a g r : Addr) (left d : Nat) (M : Mp) (C : Nat → Prop) : Sg → Mp → Prop := fun σ M' => ∃ s : Nat, σ = [some (.ref a), some (.ref r), some (.int ((left : Nat) : Int)), some (.int ((d : Nat) : Int)), some (.int ((s : Nat) : Int)), none, none, none, none, none, none, none] ∧ Dk a g M' ∧ Kp a g M M' ∧ C s
def eiJ (a g r c : Addr) (rooms : List Nat) (left d : Nat) (M : Mp) : Nat → Sg → Mp → Prop := fun i σ M' => ∃ (ls : List (List Part)) (s5 u6 u9 u10 : Option D) (s : Nat), σ = [some (.ref a), some (.ref r), some (.int ((left : Nat) : Int)), some (.int ((d : Nat) : Int)), some (.int ((s : Nat) : Int)), s5, u6, some (.int ((1 + cPss ls : Nat) : Int)), some (.ref c), u9, u10, none] ∧ okPss ls = true ∧ ls.length = i ∧ 1 + cPss ls ≤ left ∧ Dk a g M' ∧ Kp a g M M' ∧ M' c = some (.lst (ls.map fun l => .tup (pDs l)))
theorem cPss_app (a b : List (List Part)) : cPss (a ++ b) = cPss a + cPss b := by
  induction a with
  | nil => simp [cPss]
  | cons x xs ih => simp [cPss, ih]; omega
theorem n_lpart (T : Tx K mg) (d : Nat) (hp : DFn P w K mg base CX0 (2 * d + 2) T.f__law_parts T.d__law_parts ["deck", "rooms", "left", "deep"] (fun ds M Q E => 0 < d ∧ sp_lparts (d - 1) ds M Q E)) : DFn P w K mg base CX0 (2 * d + 2 + 1) T.f__law_part T.d__law_part ["deck", "rooms", "left", "deep"] (sp_lpart d) := by
  refine dfn_of (N := N__law_part) T.F__law_part sc__law_part (by decide) (fun ds M Q E h => ?_) (fun cdv A outer s H hr hgd => (dss_cons (ds_set (i := 4) sc__law_part.nd rfl (Or.inl rfl) (de_if (DW.dt (dw_and (dt_cmp op_gt tr_intB (de_var 3) de_int (nomark _)) (dw_and1 (dt_cmp op_gt tr_intB (de_var 2) de_int (nomark _))))) (de_call (ok__law_draw T) (hr.mono (by omega)) hgd rfl T.g__law_draw T.F__law_draw.kp T.b__law_draw dpass0 (da_cons (de_var 0) (da_cons de_int da_nil))) de_int)) (dss_cons (ds_if (DW.dt (dw_and (dt_cmp (op_eqD hr.units) tr_eq (de_var 1) (de_lst da_nil) (nomark _)) (dw_and (dt_cmp op_gt tr_intB (de_var 2) de_int (nomark _)) (dw_and1 (dt_cmp op_gt tr_intB (de_var 3) de_int (nomark _)))))) (dss_one (ds_set (i := 4) sc__law_part.nd rfl (Or.inl rfl) de_int)) dss_nil) (dss_cons (ds_if (DW.dt (dw_and (dt_cmp op_lt tr_intB (de_var 4) de_int (nomark _)) (dw_and1 (dt_cmp (op_neD hr.units) tr_ne (de_var 1) (de_lst da_nil) (nomark _))))) (dss_cons (ds_set (i := 5) sc__law_part.nd rfl (Or.inr rfl) (de_call (ok__law_pick T) (hr.mono (by omega)) hgd rfl T.g__law_pick T.F__law_pick.kp T.b__law_pick dpass0 (da_cons (de_var 0) (da_cons (de_var 1) da_nil)))) (dss_cons (ds_if (DW.dt (dw_or (dt_cmp (op_eqD hr.units) tr_eq (de_var 4) de_int (nomark _)) (dw_or (dt_cmp op_lt tr_intB (de_var 2) de_int (nomark _)) (dw_or (dt_cmp (op_eqD hr.units) tr_eq (de_var 3) de_int (nomark _)) (dw_or1 (dt_cmp (op_eqD hr.units) tr_eq (de_call (ok__law_draw T) (hr.mono (by omega)) hgd rfl T.g__law_draw T.F__law_draw.kp T.b__law_draw dpass0 (da_cons (de_var 0) (da_cons de_int da_nil))) de_int (nomark _))))))) (dss_one (ds_ret (de_tup (da_cons (de_tup (da_cons de_str (da_cons (de_var 5) (da_cons (de_tup da_nil) da_nil)))) (da_cons de_int da_nil))))) dss_nil) (dss_cons (ds_asg (de_call hp (hr.mono (by omega)) hgd rfl T.g__law_parts T.F__law_parts.kp T.b__law_parts dpass0 (da_cons (de_var 0) (da_cons (de_lcIf (own := [("other", 11)]) rfl sc__law_part.nd (di_seq (de_var 1)) (blkOk_by (N := N__law_part) (sc := defScope s__law_part) (by decide +kernel)) (fun _ _ _ _ _ => (pg_name (i := 11) sc__law_part.nd rfl (by first | exact Or.inl rfl | exact Or.inr rfl))) dgr_name (only_name (by decide)) (fun _ _ _ _ _ => (dt_cmp (op_neD hr.units) tr_ne (de_var 11) (de_var 5) (nomark _))) (fun _ _ _ _ _ => (de_var 11))) (da_cons (de_bin op_sub tr_int (de_var 2) de_int) (da_cons (de_bin op_sub tr_int (de_var 3) de_int) da_nil))))) (dg_tup (n := 2) rfl (dgs_cons (dg_name (i := 6) sc__law_part.nd rfl (Or.inl rfl)) (dgs_cons (dg_name (i := 7) sc__law_part.nd rfl (Or.inl rfl)) dgs_nil)))) (dss_one (ds_ret (de_tup (da_cons (de_tup (da_cons de_str (da_cons (de_var 5) (da_cons (de_var 6) da_nil)))) (da_cons (de_bin op_add4 tr_add (de_var 7) de_int) da_nil)))))))) dss_nil) (dss_cons (ds_if (dt_cmp (op_eqD hr.units) tr_eq (de_var 4) de_int (nomark _)) (dss_cons (ds_asg (de_call hp (hr.mono (by omega)) hgd rfl T.g__law_parts T.F__law_parts.kp T.b__law_parts dpass0 (da_cons (de_var 0) (da_cons (de_var 1) (da_cons (de_bin op_sub tr_int (de_var 2) de_int) (da_cons (de_bin op_sub tr_int (de_var 3) de_int) da_nil))))) (dg_tup (n := 2) rfl (dgs_cons (dg_name (i := 6) sc__law_part.nd rfl (Or.inl rfl)) (dgs_cons (dg_name (i := 7) sc__law_part.nd rfl (Or.inl rfl)) dgs_nil)))) (dss_one (ds_ret (de_tup (da_cons (de_tup (da_cons de_str (da_cons (de_var 6) da_nil))) (da_cons (de_bin op_add4 tr_add (de_var 7) de_int) da_nil)))))) dss_nil) (dss_cons (ds_par (i := 8) (j := 7) rfl sc__law_part.nd rfl rfl (by decide) rfl rfl (da_cons (de_lst da_nil) (da_cons de_int da_nil)) (by rfl)) (dss_cons (ds_for PassesOwn.never rfl (di_rng1 rfl T.n_range (da_cons (de_bin op_add4 tr_add (de_bin op_add4 tr_add de_int (de_callTy call_int1 tr_int1 rfl T.n_int bt_int (da_cons (de_cmp (op_eqD hr.units) tr_eq (de_call (ok__law_draw T) (hr.mono (by omega)) hgd rfl T.g__law_draw T.F__law_draw.kp T.b__law_draw dpass0 (da_cons (de_var 0) (da_cons de_int da_nil))) de_int (nomark _)) da_nil))) (de_callTy call_int1 tr_int1 rfl T.n_int bt_int (da_cons (de_cmp (op_eqD hr.units) tr_eq (de_call (ok__law_draw T) (hr.mono (by omega)) hgd rfl T.g__law_draw T.F__law_draw.kp T.b__law_draw dpass0 (da_cons (de_var 0) (da_cons de_int da_nil))) de_int (nomark _)) da_nil))) da_nil)) (dg_name (i := 9) sc__law_part.nd rfl (Or.inl rfl)) (dss_cons (ds_asg (de_tup (da_cons (de_tup da_nil) (da_cons de_int da_nil))) (dg_tup (n := 2) rfl (dgs_cons (dg_name (i := 6) sc__law_part.nd rfl (Or.inl rfl)) (dgs_cons (dg_name (i := 10) sc__law_part.nd rfl (Or.inl rfl)) dgs_nil)))) (dss_cons (ds_if (DW.dt (dw_and (dt_cmp op_lt tr_intB (de_var 7) (de_var 2) (nomark _)) (dw_and (DW.dt (dw_or (dt_cmp op_gt tr_intB (de_call (ok__law_draw T) (hr.mono (by omega)) hgd rfl T.g__law_draw T.F__law_draw.kp T.b__law_draw dpass0 (da_cons (de_var 0) (da_cons de_int da_nil))) de_int (nomark _)) (dw_or1 (dt_cmp (op_eqD hr.units) tr_eq (de_var 9) de_int (nomark _))))) (dw_and (dt_cmp (op_neD hr.units) tr_ne (de_var 1) (de_lst da_nil) (nomark _)) (dw_and1 (dt_cmp op_gt tr_intB (de_var 3) de_int (nomark _))))))) (dss_one (ds_asg (de_call hp (hr.mono (by omega)) hgd rfl T.g__law_parts T.F__law_parts.kp T.b__law_parts dpass0 (da_cons (de_var 0) (da_cons (de_var 1) (da_cons (de_bin op_sub tr_int (de_var 2) (de_var 7)) (da_cons (de_bin op_sub tr_int (de_var 3) de_int) da_nil))))) (dg_tup (n := 2) rfl (dgs_cons (dg_name (i := 6) sc__law_part.nd rfl (Or.inl rfl)) (dgs_cons (dg_name (i := 10) sc__law_part.nd rfl (Or.inl rfl)) dgs_nil))))) dss_nil) (dss_cons (ds_expr (de_bm PySem.F.plainAttrs_list PySem.F.slot_list_append PySem.F.type_list_append mt_append tr_append (de_var 8) (da_cons (de_var 6) da_nil))) (dss_one (ds_set (i := 7) sc__law_part.nd rfl (Or.inl rfl) (de_bin op_add4 tr_add (de_var 7) (de_var 10)))))))) (dss_one (ds_ret (de_tup (da_cons (de_tup (da_cons de_str (da_cons (de_callTy call_tuple_of tr_tuple rfl T.n_tuple bt_tuple (da_cons (de_var 8) da_nil)) da_nil))) (da_cons (de_var 7) da_nil)))))))))))) ?_
  · obtain ⟨_, _, _, _, _, rfl, _⟩ := h; rfl
  rintro ds M Q E ⟨a, g, r, rooms, left, rfl, hl1, hl2, hR, hD, q⟩
  rw [st__law_part]
  -- sort
  refine seq_cut (lpJ a g r left d M fun s => s ≤ 5 ∧ (¬ (0 < d ∧ 1 < left) → s = 0)) (fun N hN => ?_) ?_
  · by_cases hdl : 0 < d ∧ 1 < left
    · have h1 : (0 : Int) < ((d : Nat) : Int) := by omega
      have h2 : (1 : Int) < ((left : Nat) : Int) := by omega
      simp only [↓x_seq, ↓x_next, ↓x_ret, ↓x_retN, ↓x_drop, ↓x_if, ↓x_asg, ↓x_false, ↓x_brk, ↓x_cnt, ↓x_g0, ↓x_v0, ↓x_g1, ↓x_v1, ↓x_g2, ↓x_v2, ↓x_g3, ↓x_v3, ↓x_g4, ↓x_v4, ↓x_g5, ↓x_v5, ↓x_g6, ↓x_v6, ↓x_g7, ↓x_v7, ↓x_g8, ↓x_v8, ↓x_g9, ↓x_v9, ↓x_g10, ↓x_v10, ↓x_g11, ↓x_v11, ↓x_g12, ↓x_v12, ↓x_g13, ↓x_v13, ↓x_g14, ↓x_v14, ↓x_g15, ↓x_v15, ↓x_g16, ↓x_v16, ↓x_g17, ↓x_v17, ↓x_g18, ↓x_v18, ↓x_g19, ↓x_v19, ↓x_gt2, ↓x_gt3, ↓x_gt4, ↓x_gt5, ↓x_gt6, ↓x_gc, ↓x_gn, ↓x_par2, ↓x_p2, ↓x_par3, ↓x_p3, ↓x_C, ↓x_op, ↓x_test, ↓x_chain, ↓x_andT, ↓x_orT, ↓x_notT, ↓x_ifE, ↓x_andV, ↓x_orV, ↓x_notV, ↓x_nil, ↓x_cons, ↓x_star, ↓x_tup, ↓x_lst, ↓x_callB, ↓x_call, ↓x_callK, ↓x_meth, ↓x_make, ↓x_fld, ↓x_fldS, ↓x_bm0, ↓x_bm, ↓x_sl, ↓x_nop, ↓x_prt, ↓x_neg, ↓x_revL, ↓x_lc, ↓x_for, ↓x_diSeq, ↓x_diEnum, ↓x_rng1, ↓y_addi, ↓y_adds, ↓y_addt, ↓y_int, ↓y_intC, ↓y_is, ↓y_isn, ↓y_nnon, ↓y_nbl, ↓y_nint, ↓y_nstr, ↓y_ntup, ↓y_nref, ↓y_t0, ↓y_t1, ↓y_t2, ↓y_t3, ↓y_m2, ↓y_m3, ↓y_len0, ↓y_len1, ↓y_len2, ↓y_len3, ↓y_len, ↓y_lenS, ↓y_itt, ↓y_iss, ↓y_iii, ↓y_iib, ↓y_i1, ↓y_i1b, ↓y_abs, ↓y_strI, ↓y_slt, ↓y_sls, ↓y_tys, ↓y_gs0, ↓y_gs1, ↓y_gs2, ↓y_gs3, ↓y_gs4, ↓y_gs5, ↓y_gs6, ↓y_gs7, ↓bIn_2, ↓bNotIn_2, ↓bEq_int, ↓bNe_int, wipeD, List.map_cons, List.map_nil, List.set_cons_zero, List.set_cons_succ, Option.some.injEq, exists_and_left, exists_eq_left', exists_eq_left, decide_true, decide_false, Bool.false_eq_true, reduceIte, Bool.not_true, Bool.not_false, List.length_cons, List.length_nil, Nat.reduceAdd, Nat.zero_add, line16, Nat.reduceLeDiff, Int.reduceEq, Int.reduceLT, Int.reduceLE, Int.reduceNeg, or_true, true_or, or_self, or_false, false_or, true_and, and_true, and_self, List.cons_append, List.nil_append, List.append_nil, forall_const, h1, h2]
      refine ⟨a, g, 6, rfl, by omega, by omega, hD, fun s M1 hs hD1 hK1 => ?_⟩
      exact hN _ _ ⟨s, rfl, hD1, hK1, by omega, fun h => absurd hdl h⟩
    · by_cases h1 : (0 : Int) < ((d : Nat) : Int)
      · have h2 : ¬ (1 : Int) < ((left : Nat) : Int) := by omega
        simp only [↓x_seq, ↓x_next, ↓x_ret, ↓x_retN, ↓x_drop, ↓x_if, ↓x_asg, ↓x_false, ↓x_brk, ↓x_cnt, ↓x_g0, ↓x_v0, ↓x_g1, ↓x_v1, ↓x_g2, ↓x_v2, ↓x_g3, ↓x_v3, ↓x_g4, ↓x_v4, ↓x_g5, ↓x_v5, ↓x_g6, ↓x_v6, ↓x_g7, ↓x_v7, ↓x_g8, ↓x_v8, ↓x_g9, ↓x_v9, ↓x_g10, ↓x_v10, ↓x_g11, ↓x_v11, ↓x_g12, ↓x_v12, ↓x_g13, ↓x_v13, ↓x_g14, ↓x_v14, ↓x_g15, ↓x_v15, ↓x_g16, ↓x_v16, ↓x_g17, ↓x_v17, ↓x_g18, ↓x_v18, ↓x_g19, ↓x_v19, ↓x_gt2, ↓x_gt3, ↓x_gt4, ↓x_gt5, ↓x_gt6, ↓x_gc, ↓x_gn, ↓x_par2, ↓x_p2, ↓x_par3, ↓x_p3, ↓x_C, ↓x_op, ↓x_test, ↓x_chain, ↓x_andT, ↓x_orT, ↓x_notT, ↓x_ifE, ↓x_andV, ↓x_orV, ↓x_notV, ↓x_nil, ↓x_cons, ↓x_star, ↓x_tup, ↓x_lst, ↓x_callB, ↓x_call, ↓x_callK, ↓x_meth, ↓x_make, ↓x_fld, ↓x_fldS, ↓x_bm0, ↓x_bm, ↓x_sl, ↓x_nop, ↓x_prt, ↓x_neg, ↓x_revL, ↓x_lc, ↓x_for, ↓x_diSeq, ↓x_diEnum, ↓x_rng1, ↓y_addi, ↓y_adds, ↓y_addt, ↓y_int, ↓y_intC, ↓y_is, ↓y_isn, ↓y_nnon, ↓y_nbl, ↓y_nint, ↓y_nstr, ↓y_ntup, ↓y_nref, ↓y_t0, ↓y_t1, ↓y_t2, ↓y_t3, ↓y_m2, ↓y_m3, ↓y_len0, ↓y_len1, ↓y_len2, ↓y_len3, ↓y_len, ↓y_lenS, ↓y_itt, ↓y_iss, ↓y_iii, ↓y_iib, ↓y_i1, ↓y_i1b, ↓y_abs, ↓y_strI, ↓y_slt, ↓y_sls, ↓y_tys, ↓y_gs0, ↓y_gs1, ↓y_gs2, ↓y_gs3, ↓y_gs4, ↓y_gs5, ↓y_gs6, ↓y_gs7, ↓bIn_2, ↓bNotIn_2, ↓bEq_int, ↓bNe_int, wipeD, List.map_cons, List.map_nil, List.set_cons_zero, List.set_cons_succ, Option.some.injEq, exists_and_left, exists_eq_left', exists_eq_left, decide_true, decide_false, Bool.false_eq_true, reduceIte, Bool.not_true, Bool.not_false, List.length_cons, List.length_nil, Nat.reduceAdd, Nat.zero_add, line16, Nat.reduceLeDiff, Int.reduceEq, Int.reduceLT, Int.reduceLE, Int.reduceNeg, or_true, true_or, or_self, or_false, false_or, true_and, and_true, and_self, List.cons_append, List.nil_append, List.append_nil, forall_const, h1, h2]
        exact hN _ _ ⟨0, rfl, hD, Kp.refl, by omega, fun _ => rfl⟩
      · simp only [↓x_seq, ↓x_next, ↓x_ret, ↓x_retN, ↓x_drop, ↓x_if, ↓x_asg, ↓x_false, ↓x_brk, ↓x_cnt, ↓x_g0, ↓x_v0, ↓x_g1, ↓x_v1, ↓x_g2, ↓x_v2, ↓x_g3, ↓x_v3, ↓x_g4, ↓x_v4, ↓x_g5, ↓x_v5, ↓x_g6, ↓x_v6, ↓x_g7, ↓x_v7, ↓x_g8, ↓x_v8, ↓x_g9, ↓x_v9, ↓x_g10, ↓x_v10, ↓x_g11, ↓x_v11, ↓x_g12, ↓x_v12, ↓x_g13, ↓x_v13, ↓x_g14, ↓x_v14, ↓x_g15, ↓x_v15, ↓x_g16, ↓x_v16, ↓x_g17, ↓x_v17, ↓x_g18, ↓x_v18, ↓x_g19, ↓x_v19, ↓x_gt2, ↓x_gt3, ↓x_gt4, ↓x_gt5, ↓x_gt6, ↓x_gc, ↓x_gn, ↓x_par2, ↓x_p2, ↓x_par3, ↓x_p3, ↓x_C, ↓x_op, ↓x_test, ↓x_chain, ↓x_andT, ↓x_orT, ↓x_notT, ↓x_ifE, ↓x_andV, ↓x_orV, ↓x_notV, ↓x_nil, ↓x_cons, ↓x_star, ↓x_tup, ↓x_lst, ↓x_callB, ↓x_call, ↓x_callK, ↓x_meth, ↓x_make, ↓x_fld, ↓x_fldS, ↓x_bm0, ↓x_bm, ↓x_sl, ↓x_nop, ↓x_prt, ↓x_neg, ↓x_revL, ↓x_lc, ↓x_for, ↓x_diSeq, ↓x_diEnum, ↓x_rng1, ↓y_addi, ↓y_adds, ↓y_addt, ↓y_int, ↓y_intC, ↓y_is, ↓y_isn, ↓y_nnon, ↓y_nbl, ↓y_nint, ↓y_nstr, ↓y_ntup, ↓y_nref, ↓y_t0, ↓y_t1, ↓y_t2, ↓y_t3, ↓y_m2, ↓y_m3, ↓y_len0, ↓y_len1, ↓y_len2, ↓y_len3, ↓y_len, ↓y_lenS, ↓y_itt, ↓y_iss, ↓y_iii, ↓y_iib, ↓y_i1, ↓y_i1b, ↓y_abs, ↓y_strI, ↓y_slt, ↓y_sls, ↓y_tys, ↓y_gs0, ↓y_gs1, ↓y_gs2, ↓y_gs3, ↓y_gs4, ↓y_gs5, ↓y_gs6, ↓y_gs7, ↓bIn_2, ↓bNotIn_2, ↓bEq_int, ↓bNe_int, wipeD, List.map_cons, List.map_nil, List.set_cons_zero, List.set_cons_succ, Option.some.injEq, exists_and_left, exists_eq_left', exists_eq_left, decide_true, decide_false, Bool.false_eq_true, reduceIte, Bool.not_true, Bool.not_false, List.length_cons, List.length_nil, Nat.reduceAdd, Nat.zero_add, line16, Nat.reduceLeDiff, Int.reduceEq, Int.reduceLT, Int.reduceLE, Int.reduceNeg, or_true, true_or, or_self, or_false, false_or, true_and, and_true, and_self, List.cons_append, List.nil_append, List.append_nil, forall_const, h1]
        exact hN _ _ ⟨0, rfl, hD, Kp.refl, by omega, fun _ => rfl⟩
  rintro σ M1 ⟨s, rfl, hD1, hK1, hs5, hs0⟩
  -- nothing to enter
  refine seq_cut (lpJ a g r left d M fun s => s ≤ 5 ∧ (¬ (0 < d ∧ 1 < left) → s = 0)) (fun N hN => ?_) ?_
  · simp only [↓x_seq, ↓x_next, ↓x_ret, ↓x_retN, ↓x_drop, ↓x_if, ↓x_asg, ↓x_false, ↓x_brk, ↓x_cnt, ↓x_g0, ↓x_v0, ↓x_g1, ↓x_v1, ↓x_g2, ↓x_v2, ↓x_g3, ↓x_v3, ↓x_g4, ↓x_v4, ↓x_g5, ↓x_v5, ↓x_g6, ↓x_v6, ↓x_g7, ↓x_v7, ↓x_g8, ↓x_v8, ↓x_g9, ↓x_v9, ↓x_g10, ↓x_v10, ↓x_g11, ↓x_v11, ↓x_g12, ↓x_v12, ↓x_g13, ↓x_v13, ↓x_g14, ↓x_v14, ↓x_g15, ↓x_v15, ↓x_g16, ↓x_v16, ↓x_g17, ↓x_v17, ↓x_g18, ↓x_v18, ↓x_g19, ↓x_v19, ↓x_gt2, ↓x_gt3, ↓x_gt4, ↓x_gt5, ↓x_gt6, ↓x_gc, ↓x_gn, ↓x_par2, ↓x_p2, ↓x_par3, ↓x_p3, ↓x_C, ↓x_op, ↓x_test, ↓x_chain, ↓x_andT, ↓x_orT, ↓x_notT, ↓x_ifE, ↓x_andV, ↓x_orV, ↓x_notV, ↓x_nil, ↓x_cons, ↓x_star, ↓x_tup, ↓x_lst, ↓x_callB, ↓x_call, ↓x_callK, ↓x_meth, ↓x_make, ↓x_fld, ↓x_fldS, ↓x_bm0, ↓x_bm, ↓x_sl, ↓x_nop, ↓x_prt, ↓x_neg, ↓x_revL, ↓x_lc, ↓x_for, ↓x_diSeq, ↓x_diEnum, ↓x_rng1, ↓y_addi, ↓y_adds, ↓y_addt, ↓y_int, ↓y_intC, ↓y_is, ↓y_isn, ↓y_nnon, ↓y_nbl, ↓y_nint, ↓y_nstr, ↓y_ntup, ↓y_nref, ↓y_t0, ↓y_t1, ↓y_t2, ↓y_t3, ↓y_m2, ↓y_m3, ↓y_len0, ↓y_len1, ↓y_len2, ↓y_len3, ↓y_len, ↓y_lenS, ↓y_itt, ↓y_iss, ↓y_iii, ↓y_iib, ↓y_i1, ↓y_i1b, ↓y_abs, ↓y_strI, ↓y_slt, ↓y_sls, ↓y_tys, ↓y_gs0, ↓y_gs1, ↓y_gs2, ↓y_gs3, ↓y_gs4, ↓y_gs5, ↓y_gs6, ↓y_gs7, ↓bIn_2, ↓bNotIn_2, ↓bEq_int, ↓bNe_int, wipeD, List.map_cons, List.map_nil, List.set_cons_zero, List.set_cons_succ, Option.some.injEq, exists_and_left, exists_eq_left', exists_eq_left, decide_true, decide_false, Bool.false_eq_true, reduceIte, Bool.not_true, Bool.not_false, List.length_cons, List.length_nil, Nat.reduceAdd, Nat.zero_add, line16, Nat.reduceLeDiff, Int.reduceEq, Int.reduceLT, Int.reduceLE, Int.reduceNeg, or_true, true_or, or_self, or_false, false_or, true_and, and_true, and_self, List.cons_append, List.nil_append, List.append_nil, forall_const]
    intro e he
    have hR1 := hR.kp hK1
    rw [y_bEqR hR1 he]
    have hD2 := hD1.kp_new (o := .lst []) he
    have hK2 : Kp a g M (put M1 e (.lst [])) := hK1.new2 he
    cases hrm : rooms.isEmpty with
    | false =>
      simp only [↓x_seq, ↓x_next, ↓x_ret, ↓x_retN, ↓x_drop, ↓x_if, ↓x_asg, ↓x_false, ↓x_brk, ↓x_cnt, ↓x_g0, ↓x_v0, ↓x_g1, ↓x_v1, ↓x_g2, ↓x_v2, ↓x_g3, ↓x_v3, ↓x_g4, ↓x_v4, ↓x_g5, ↓x_v5, ↓x_g6, ↓x_v6, ↓x_g7, ↓x_v7, ↓x_g8, ↓x_v8, ↓x_g9, ↓x_v9, ↓x_g10, ↓x_v10, ↓x_g11, ↓x_v11, ↓x_g12, ↓x_v12, ↓x_g13, ↓x_v13, ↓x_g14, ↓x_v14, ↓x_g15, ↓x_v15, ↓x_g16, ↓x_v16, ↓x_g17, ↓x_v17, ↓x_g18, ↓x_v18, ↓x_g19, ↓x_v19, ↓x_gt2, ↓x_gt3, ↓x_gt4, ↓x_gt5, ↓x_gt6, ↓x_gc, ↓x_gn, ↓x_par2, ↓x_p2, ↓x_par3, ↓x_p3, ↓x_C, ↓x_op, ↓x_test, ↓x_chain, ↓x_andT, ↓x_orT, ↓x_notT, ↓x_ifE, ↓x_andV, ↓x_orV, ↓x_notV, ↓x_nil, ↓x_cons, ↓x_star, ↓x_tup, ↓x_lst, ↓x_callB, ↓x_call, ↓x_callK, ↓x_meth, ↓x_make, ↓x_fld, ↓x_fldS, ↓x_bm0, ↓x_bm, ↓x_sl, ↓x_nop, ↓x_prt, ↓x_neg, ↓x_revL, ↓x_lc, ↓x_for, ↓x_diSeq, ↓x_diEnum, ↓x_rng1, ↓y_addi, ↓y_adds, ↓y_addt, ↓y_int, ↓y_intC, ↓y_is, ↓y_isn, ↓y_nnon, ↓y_nbl, ↓y_nint, ↓y_nstr, ↓y_ntup, ↓y_nref, ↓y_t0, ↓y_t1, ↓y_t2, ↓y_t3, ↓y_m2, ↓y_m3, ↓y_len0, ↓y_len1, ↓y_len2, ↓y_len3, ↓y_len, ↓y_lenS, ↓y_itt, ↓y_iss, ↓y_iii, ↓y_iib, ↓y_i1, ↓y_i1b, ↓y_abs, ↓y_strI, ↓y_slt, ↓y_sls, ↓y_tys, ↓y_gs0, ↓y_gs1, ↓y_gs2, ↓y_gs3, ↓y_gs4, ↓y_gs5, ↓y_gs6, ↓y_gs7, ↓bIn_2, ↓bNotIn_2, ↓bEq_int, ↓bNe_int, wipeD, List.map_cons, List.map_nil, List.set_cons_zero, List.set_cons_succ, Option.some.injEq, exists_and_left, exists_eq_left', exists_eq_left, decide_true, decide_false, Bool.false_eq_true, reduceIte, Bool.not_true, Bool.not_false, List.length_cons, List.length_nil, Nat.reduceAdd, Nat.zero_add, line16, Nat.reduceLeDiff, Int.reduceEq, Int.reduceLT, Int.reduceLE, Int.reduceNeg, or_true, true_or, or_self, or_false, false_or, true_and, and_true, and_self, List.cons_append, List.nil_append, List.append_nil, forall_const]
      exact hN _ _ ⟨s, rfl, hD2, hK2, hs5, hs0⟩
    | true =>
      by_cases h2 : (1 : Int) < ((left : Nat) : Int)
      · by_cases h1 : (0 : Int) < ((d : Nat) : Int)
        · simp only [↓x_seq, ↓x_next, ↓x_ret, ↓x_retN, ↓x_drop, ↓x_if, ↓x_asg, ↓x_false, ↓x_brk, ↓x_cnt, ↓x_g0, ↓x_v0, ↓x_g1, ↓x_v1, ↓x_g2, ↓x_v2, ↓x_g3, ↓x_v3, ↓x_g4, ↓x_v4, ↓x_g5, ↓x_v5, ↓x_g6, ↓x_v6, ↓x_g7, ↓x_v7, ↓x_g8, ↓x_v8, ↓x_g9, ↓x_v9, ↓x_g10, ↓x_v10, ↓x_g11, ↓x_v11, ↓x_g12, ↓x_v12, ↓x_g13, ↓x_v13, ↓x_g14, ↓x_v14, ↓x_g15, ↓x_v15, ↓x_g16, ↓x_v16, ↓x_g17, ↓x_v17, ↓x_g18, ↓x_v18, ↓x_g19, ↓x_v19, ↓x_gt2, ↓x_gt3, ↓x_gt4, ↓x_gt5, ↓x_gt6, ↓x_gc, ↓x_gn, ↓x_par2, ↓x_p2, ↓x_par3, ↓x_p3, ↓x_C, ↓x_op, ↓x_test, ↓x_chain, ↓x_andT, ↓x_orT, ↓x_notT, ↓x_ifE, ↓x_andV, ↓x_orV, ↓x_notV, ↓x_nil, ↓x_cons, ↓x_star, ↓x_tup, ↓x_lst, ↓x_callB, ↓x_call, ↓x_callK, ↓x_meth, ↓x_make, ↓x_fld, ↓x_fldS, ↓x_bm0, ↓x_bm, ↓x_sl, ↓x_nop, ↓x_prt, ↓x_neg, ↓x_revL, ↓x_lc, ↓x_for, ↓x_diSeq, ↓x_diEnum, ↓x_rng1, ↓y_addi, ↓y_adds, ↓y_addt, ↓y_int, ↓y_intC, ↓y_is, ↓y_isn, ↓y_nnon, ↓y_nbl, ↓y_nint, ↓y_nstr, ↓y_ntup, ↓y_nref, ↓y_t0, ↓y_t1, ↓y_t2, ↓y_t3, ↓y_m2, ↓y_m3, ↓y_len0, ↓y_len1, ↓y_len2, ↓y_len3, ↓y_len, ↓y_lenS, ↓y_itt, ↓y_iss, ↓y_iii, ↓y_iib, ↓y_i1, ↓y_i1b, ↓y_abs, ↓y_strI, ↓y_slt, ↓y_sls, ↓y_tys, ↓y_gs0, ↓y_gs1, ↓y_gs2, ↓y_gs3, ↓y_gs4, ↓y_gs5, ↓y_gs6, ↓y_gs7, ↓bIn_2, ↓bNotIn_2, ↓bEq_int, ↓bNe_int, wipeD, List.map_cons, List.map_nil, List.set_cons_zero, List.set_cons_succ, Option.some.injEq, exists_and_left, exists_eq_left', exists_eq_left, decide_true, decide_false, Bool.false_eq_true, reduceIte, Bool.not_true, Bool.not_false, List.length_cons, List.length_nil, Nat.reduceAdd, Nat.zero_add, line16, Nat.reduceLeDiff, Int.reduceEq, Int.reduceLT, Int.reduceLE, Int.reduceNeg, or_true, true_or, or_self, or_false, false_or, true_and, and_true, and_self, List.cons_append, List.nil_append, List.append_nil, forall_const, h1, h2]
          exact hN _ _ ⟨5, rfl, hD2, hK2, by omega, fun h => absurd ⟨by omega, by omega⟩ h⟩
        · simp only [↓x_seq, ↓x_next, ↓x_ret, ↓x_retN, ↓x_drop, ↓x_if, ↓x_asg, ↓x_false, ↓x_brk, ↓x_cnt, ↓x_g0, ↓x_v0, ↓x_g1, ↓x_v1, ↓x_g2, ↓x_v2, ↓x_g3, ↓x_v3, ↓x_g4, ↓x_v4, ↓x_g5, ↓x_v5, ↓x_g6, ↓x_v6, ↓x_g7, ↓x_v7, ↓x_g8, ↓x_v8, ↓x_g9, ↓x_v9, ↓x_g10, ↓x_v10, ↓x_g11, ↓x_v11, ↓x_g12, ↓x_v12, ↓x_g13, ↓x_v13, ↓x_g14, ↓x_v14, ↓x_g15, ↓x_v15, ↓x_g16, ↓x_v16, ↓x_g17, ↓x_v17, ↓x_g18, ↓x_v18, ↓x_g19, ↓x_v19, ↓x_gt2, ↓x_gt3, ↓x_gt4, ↓x_gt5, ↓x_gt6, ↓x_gc, ↓x_gn, ↓x_par2, ↓x_p2, ↓x_par3, ↓x_p3, ↓x_C, ↓x_op, ↓x_test, ↓x_chain, ↓x_andT, ↓x_orT, ↓x_notT, ↓x_ifE, ↓x_andV, ↓x_orV, ↓x_notV, ↓x_nil, ↓x_cons, ↓x_star, ↓x_tup, ↓x_lst, ↓x_callB, ↓x_call, ↓x_callK, ↓x_meth, ↓x_make, ↓x_fld, ↓x_fldS, ↓x_bm0, ↓x_bm, ↓x_sl, ↓x_nop, ↓x_prt, ↓x_neg, ↓x_revL, ↓x_lc, ↓x_for, ↓x_diSeq, ↓x_diEnum, ↓x_rng1, ↓y_addi, ↓y_adds, ↓y_addt, ↓y_int, ↓y_intC, ↓y_is, ↓y_isn, ↓y_nnon, ↓y_nbl, ↓y_nint, ↓y_nstr, ↓y_ntup, ↓y_nref, ↓y_t0, ↓y_t1, ↓y_t2, ↓y_t3, ↓y_m2, ↓y_m3, ↓y_len0, ↓y_len1, ↓y_len2, ↓y_len3, ↓y_len, ↓y_lenS, ↓y_itt, ↓y_iss, ↓y_iii, ↓y_iib, ↓y_i1, ↓y_i1b, ↓y_abs, ↓y_strI, ↓y_slt, ↓y_sls, ↓y_tys, ↓y_gs0, ↓y_gs1, ↓y_gs2, ↓y_gs3, ↓y_gs4, ↓y_gs5, ↓y_gs6, ↓y_gs7, ↓bIn_2, ↓bNotIn_2, ↓bEq_int, ↓bNe_int, wipeD, List.map_cons, List.map_nil, List.set_cons_zero, List.set_cons_succ, Option.some.injEq, exists_and_left, exists_eq_left', exists_eq_left, decide_true, decide_false, Bool.false_eq_true, reduceIte, Bool.not_true, Bool.not_false, List.length_cons, List.length_nil, Nat.reduceAdd, Nat.zero_add, line16, Nat.reduceLeDiff, Int.reduceEq, Int.reduceLT, Int.reduceLE, Int.reduceNeg, or_true, true_or, or_self, or_false, false_or, true_and, and_true, and_self, List.cons_append, List.nil_append, List.append_nil, forall_const, h1, h2]
          exact hN _ _ ⟨s, rfl, hD2, hK2, hs5, hs0⟩
      · simp only [↓x_seq, ↓x_next, ↓x_ret, ↓x_retN, ↓x_drop, ↓x_if, ↓x_asg, ↓x_false, ↓x_brk, ↓x_cnt, ↓x_g0, ↓x_v0, ↓x_g1, ↓x_v1, ↓x_g2, ↓x_v2, ↓x_g3, ↓x_v3, ↓x_g4, ↓x_v4, ↓x_g5, ↓x_v5, ↓x_g6, ↓x_v6, ↓x_g7, ↓x_v7, ↓x_g8, ↓x_v8, ↓x_g9, ↓x_v9, ↓x_g10, ↓x_v10, ↓x_g11, ↓x_v11, ↓x_g12, ↓x_v12, ↓x_g13, ↓x_v13, ↓x_g14, ↓x_v14, ↓x_g15, ↓x_v15, ↓x_g16, ↓x_v16, ↓x_g17, ↓x_v17, ↓x_g18, ↓x_v18, ↓x_g19, ↓x_v19, ↓x_gt2, ↓x_gt3, ↓x_gt4, ↓x_gt5, ↓x_gt6, ↓x_gc, ↓x_gn, ↓x_par2, ↓x_p2, ↓x_par3, ↓x_p3, ↓x_C, ↓x_op, ↓x_test, ↓x_chain, ↓x_andT, ↓x_orT, ↓x_notT, ↓x_ifE, ↓x_andV, ↓x_orV, ↓x_notV, ↓x_nil, ↓x_cons, ↓x_star, ↓x_tup, ↓x_lst, ↓x_callB, ↓x_call, ↓x_callK, ↓x_meth, ↓x_make, ↓x_fld, ↓x_fldS, ↓x_bm0, ↓x_bm, ↓x_sl, ↓x_nop, ↓x_prt, ↓x_neg, ↓x_revL, ↓x_lc, ↓x_for, ↓x_diSeq, ↓x_diEnum, ↓x_rng1, ↓y_addi, ↓y_adds, ↓y_addt, ↓y_int, ↓y_intC, ↓y_is, ↓y_isn, ↓y_nnon, ↓y_nbl, ↓y_nint, ↓y_nstr, ↓y_ntup, ↓y_nref, ↓y_t0, ↓y_t1, ↓y_t2, ↓y_t3, ↓y_m2, ↓y_m3, ↓y_len0, ↓y_len1, ↓y_len2, ↓y_len3, ↓y_len, ↓y_lenS, ↓y_itt, ↓y_iss, ↓y_iii, ↓y_iib, ↓y_i1, ↓y_i1b, ↓y_abs, ↓y_strI, ↓y_slt, ↓y_sls, ↓y_tys, ↓y_gs0, ↓y_gs1, ↓y_gs2, ↓y_gs3, ↓y_gs4, ↓y_gs5, ↓y_gs6, ↓y_gs7, ↓bIn_2, ↓bNotIn_2, ↓bEq_int, ↓bNe_int, wipeD, List.map_cons, List.map_nil, List.set_cons_zero, List.set_cons_succ, Option.some.injEq, exists_and_left, exists_eq_left', exists_eq_left, decide_true, decide_false, Bool.false_eq_true, reduceIte, Bool.not_true, Bool.not_false, List.length_cons, List.length_nil, Nat.reduceAdd, Nat.zero_add, line16, Nat.reduceLeDiff, Int.reduceEq, Int.reduceLT, Int.reduceLE, Int.reduceNeg, or_true, true_or, or_self, or_false, false_or, true_and, and_true, and_self, List.cons_append, List.nil_append, List.append_nil, forall_const, h2]
        exact hN _ _ ⟨s, rfl, hD2, hK2, hs5, hs0⟩
  clear hs0 hs5 hK1 hD1
  rintro σ M1 ⟨s, rfl, hD1, hK1, hs5, hs0⟩
  -- a room
  refine seq_cut (lpJ a g r left d M fun s => s ≤ 5 ∧ (¬ (0 < d ∧ 1 < left) → s = 0)) (fun N hN => ?_) ?_
  · have hR1 := hR.kp hK1
    by_cases h4 : ((s : Nat) : Int) < 4
    · simp only [↓x_seq, ↓x_next, ↓x_ret, ↓x_retN, ↓x_drop, ↓x_if, ↓x_asg, ↓x_false, ↓x_brk, ↓x_cnt, ↓x_g0, ↓x_v0, ↓x_g1, ↓x_v1, ↓x_g2, ↓x_v2, ↓x_g3, ↓x_v3, ↓x_g4, ↓x_v4, ↓x_g5, ↓x_v5, ↓x_g6, ↓x_v6, ↓x_g7, ↓x_v7, ↓x_g8, ↓x_v8, ↓x_g9, ↓x_v9, ↓x_g10, ↓x_v10, ↓x_g11, ↓x_v11, ↓x_g12, ↓x_v12, ↓x_g13, ↓x_v13, ↓x_g14, ↓x_v14, ↓x_g15, ↓x_v15, ↓x_g16, ↓x_v16, ↓x_g17, ↓x_v17, ↓x_g18, ↓x_v18, ↓x_g19, ↓x_v19, ↓x_gt2, ↓x_gt3, ↓x_gt4, ↓x_gt5, ↓x_gt6, ↓x_gc, ↓x_gn, ↓x_par2, ↓x_p2, ↓x_par3, ↓x_p3, ↓x_C, ↓x_op, ↓x_test, ↓x_chain, ↓x_andT, ↓x_orT, ↓x_notT, ↓x_ifE, ↓x_andV, ↓x_orV, ↓x_notV, ↓x_nil, ↓x_cons, ↓x_star, ↓x_tup, ↓x_lst, ↓x_callB, ↓x_call, ↓x_callK, ↓x_meth, ↓x_make, ↓x_fld, ↓x_fldS, ↓x_bm0, ↓x_bm, ↓x_sl, ↓x_nop, ↓x_prt, ↓x_neg, ↓x_revL, ↓x_lc, ↓x_for, ↓x_diSeq, ↓x_diEnum, ↓x_rng1, ↓y_addi, ↓y_adds, ↓y_addt, ↓y_int, ↓y_intC, ↓y_is, ↓y_isn, ↓y_nnon, ↓y_nbl, ↓y_nint, ↓y_nstr, ↓y_ntup, ↓y_nref, ↓y_t0, ↓y_t1, ↓y_t2, ↓y_t3, ↓y_m2, ↓y_m3, ↓y_len0, ↓y_len1, ↓y_len2, ↓y_len3, ↓y_len, ↓y_lenS, ↓y_itt, ↓y_iss, ↓y_iii, ↓y_iib, ↓y_i1, ↓y_i1b, ↓y_abs, ↓y_strI, ↓y_slt, ↓y_sls, ↓y_tys, ↓y_gs0, ↓y_gs1, ↓y_gs2, ↓y_gs3, ↓y_gs4, ↓y_gs5, ↓y_gs6, ↓y_gs7, ↓bIn_2, ↓bNotIn_2, ↓bEq_int, ↓bNe_int, wipeD, List.map_cons, List.map_nil, List.set_cons_zero, List.set_cons_succ, Option.some.injEq, exists_and_left, exists_eq_left', exists_eq_left, decide_true, decide_false, Bool.false_eq_true, reduceIte, Bool.not_true, Bool.not_false, List.length_cons, List.length_nil, Nat.reduceAdd, Nat.zero_add, line16, Nat.reduceLeDiff, Int.reduceEq, Int.reduceLT, Int.reduceLE, Int.reduceNeg, or_true, true_or, or_self, or_false, false_or, true_and, and_true, and_self, List.cons_append, List.nil_append, List.append_nil, forall_const, h4]
      intro e he
      rw [y_bNeR hR1 he]
      have hD2 := hD1.kp_new (o := .lst []) he
      have hK2 : Kp a g M (put M1 e (.lst [])) := hK1.new2 he
      have hR2 := hR.kp hK2
      cases hrm : rooms.isEmpty with
      | true =>
        simp only [↓x_seq, ↓x_next, ↓x_ret, ↓x_retN, ↓x_drop, ↓x_if, ↓x_asg, ↓x_false, ↓x_brk, ↓x_cnt, ↓x_g0, ↓x_v0, ↓x_g1, ↓x_v1, ↓x_g2, ↓x_v2, ↓x_g3, ↓x_v3, ↓x_g4, ↓x_v4, ↓x_g5, ↓x_v5, ↓x_g6, ↓x_v6, ↓x_g7, ↓x_v7, ↓x_g8, ↓x_v8, ↓x_g9, ↓x_v9, ↓x_g10, ↓x_v10, ↓x_g11, ↓x_v11, ↓x_g12, ↓x_v12, ↓x_g13, ↓x_v13, ↓x_g14, ↓x_v14, ↓x_g15, ↓x_v15, ↓x_g16, ↓x_v16, ↓x_g17, ↓x_v17, ↓x_g18, ↓x_v18, ↓x_g19, ↓x_v19, ↓x_gt2, ↓x_gt3, ↓x_gt4, ↓x_gt5, ↓x_gt6, ↓x_gc, ↓x_gn, ↓x_par2, ↓x_p2, ↓x_par3, ↓x_p3, ↓x_C, ↓x_op, ↓x_test, ↓x_chain, ↓x_andT, ↓x_orT, ↓x_notT, ↓x_ifE, ↓x_andV, ↓x_orV, ↓x_notV, ↓x_nil, ↓x_cons, ↓x_star, ↓x_tup, ↓x_lst, ↓x_callB, ↓x_call, ↓x_callK, ↓x_meth, ↓x_make, ↓x_fld, ↓x_fldS, ↓x_bm0, ↓x_bm, ↓x_sl, ↓x_nop, ↓x_prt, ↓x_neg, ↓x_revL, ↓x_lc, ↓x_for, ↓x_diSeq, ↓x_diEnum, ↓x_rng1, ↓y_addi, ↓y_adds, ↓y_addt, ↓y_int, ↓y_intC, ↓y_is, ↓y_isn, ↓y_nnon, ↓y_nbl, ↓y_nint, ↓y_nstr, ↓y_ntup, ↓y_nref, ↓y_t0, ↓y_t1, ↓y_t2, ↓y_t3, ↓y_m2, ↓y_m3, ↓y_len0, ↓y_len1, ↓y_len2, ↓y_len3, ↓y_len, ↓y_lenS, ↓y_itt, ↓y_iss, ↓y_iii, ↓y_iib, ↓y_i1, ↓y_i1b, ↓y_abs, ↓y_strI, ↓y_slt, ↓y_sls, ↓y_tys, ↓y_gs0, ↓y_gs1, ↓y_gs2, ↓y_gs3, ↓y_gs4, ↓y_gs5, ↓y_gs6, ↓y_gs7, ↓bIn_2, ↓bNotIn_2, ↓bEq_int, ↓bNe_int, wipeD, List.map_cons, List.map_nil, List.set_cons_zero, List.set_cons_succ, Option.some.injEq, exists_and_left, exists_eq_left', exists_eq_left, decide_true, decide_false, Bool.false_eq_true, reduceIte, Bool.not_true, Bool.not_false, List.length_cons, List.length_nil, Nat.reduceAdd, Nat.zero_add, line16, Nat.reduceLeDiff, Int.reduceEq, Int.reduceLT, Int.reduceLE, Int.reduceNeg, or_true, true_or, or_self, or_false, false_or, true_and, and_true, and_self, List.cons_append, List.nil_append, List.append_nil, forall_const]
        exact hN _ _ ⟨s, rfl, hD2, hK2, hs5, hs0⟩
      | false =>
        simp only [↓x_seq, ↓x_next, ↓x_ret, ↓x_retN, ↓x_drop, ↓x_if, ↓x_asg, ↓x_false, ↓x_brk, ↓x_cnt, ↓x_g0, ↓x_v0, ↓x_g1, ↓x_v1, ↓x_g2, ↓x_v2, ↓x_g3, ↓x_v3, ↓x_g4, ↓x_v4, ↓x_g5, ↓x_v5, ↓x_g6, ↓x_v6, ↓x_g7, ↓x_v7, ↓x_g8, ↓x_v8, ↓x_g9, ↓x_v9, ↓x_g10, ↓x_v10, ↓x_g11, ↓x_v11, ↓x_g12, ↓x_v12, ↓x_g13, ↓x_v13, ↓x_g14, ↓x_v14, ↓x_g15, ↓x_v15, ↓x_g16, ↓x_v16, ↓x_g17, ↓x_v17, ↓x_g18, ↓x_v18, ↓x_g19, ↓x_v19, ↓x_gt2, ↓x_gt3, ↓x_gt4, ↓x_gt5, ↓x_gt6, ↓x_gc, ↓x_gn, ↓x_par2, ↓x_p2, ↓x_par3, ↓x_p3, ↓x_C, ↓x_op, ↓x_test, ↓x_chain, ↓x_andT, ↓x_orT, ↓x_notT, ↓x_ifE, ↓x_andV, ↓x_orV, ↓x_notV, ↓x_nil, ↓x_cons, ↓x_star, ↓x_tup, ↓x_lst, ↓x_callB, ↓x_call, ↓x_callK, ↓x_meth, ↓x_make, ↓x_fld, ↓x_fldS, ↓x_bm0, ↓x_bm, ↓x_sl, ↓x_nop, ↓x_prt, ↓x_neg, ↓x_revL, ↓x_lc, ↓x_for, ↓x_diSeq, ↓x_diEnum, ↓x_rng1, ↓y_addi, ↓y_adds, ↓y_addt, ↓y_int, ↓y_intC, ↓y_is, ↓y_isn, ↓y_nnon, ↓y_nbl, ↓y_nint, ↓y_nstr, ↓y_ntup, ↓y_nref, ↓y_t0, ↓y_t1, ↓y_t2, ↓y_t3, ↓y_m2, ↓y_m3, ↓y_len0, ↓y_len1, ↓y_len2, ↓y_len3, ↓y_len, ↓y_lenS, ↓y_itt, ↓y_iss, ↓y_iii, ↓y_iib, ↓y_i1, ↓y_i1b, ↓y_abs, ↓y_strI, ↓y_slt, ↓y_sls, ↓y_tys, ↓y_gs0, ↓y_gs1, ↓y_gs2, ↓y_gs3, ↓y_gs4, ↓y_gs5, ↓y_gs6, ↓y_gs7, ↓bIn_2, ↓bNotIn_2, ↓bEq_int, ↓bNe_int, wipeD, List.map_cons, List.map_nil, List.set_cons_zero, List.set_cons_succ, Option.some.injEq, exists_and_left, exists_eq_left', exists_eq_left, decide_true, decide_false, Bool.false_eq_true, reduceIte, Bool.not_true, Bool.not_false, List.length_cons, List.length_nil, Nat.reduceAdd, Nat.zero_add, line16, Nat.reduceLeDiff, Int.reduceEq, Int.reduceLT, Int.reduceLE, Int.reduceNeg, or_true, true_or, or_self, or_false, false_or, true_and, and_true, and_self, List.cons_append, List.nil_append, List.append_nil, forall_const]
        have hne : 1 ≤ rooms.length := by cases rooms <;> simp_all
        have hrl := hR.len
        refine ⟨a, g, r, (nI rooms).map D.int, rfl, by rw [List.length_map, nI_len]; omega, by rw [List.length_map, nI_len]; omega, hR2.na, hR2.ng, hR2.at_, hD2, fun x M3 hx hD3 hK3 => ?_⟩
        obtain ⟨i, hi, rfl⟩ := List.mem_map.mp hx
        obtain ⟨rm, hrm2, rfl⟩ := List.mem_map.mp (show i ∈ rooms.map (fun r : Nat => (r : Int)) from hi)
        have hr6 := hR.lt rm hrm2
        have hK4 := hK2.trans hK3
        have one : Fg Q (.tup [.tup [.str "in", .int ((rm : Nat) : Int), .tup []], .int 1]) M3 := by
          have := q (.inn rm []) M3 (by simp [okP, okPs, hr6]) (by simp [cP, cPs]; omega) hD3 hK4
          simp [pD, pDs, cP, cPs] at this
          exact Fg.now this
        by_cases hz : ((s : Nat) : Int) = 0
        · simp only [↓x_seq, ↓x_next, ↓x_ret, ↓x_retN, ↓x_drop, ↓x_if, ↓x_asg, ↓x_false, ↓x_brk, ↓x_cnt, ↓x_g0, ↓x_v0, ↓x_g1, ↓x_v1, ↓x_g2, ↓x_v2, ↓x_g3, ↓x_v3, ↓x_g4, ↓x_v4, ↓x_g5, ↓x_v5, ↓x_g6, ↓x_v6, ↓x_g7, ↓x_v7, ↓x_g8, ↓x_v8, ↓x_g9, ↓x_v9, ↓x_g10, ↓x_v10, ↓x_g11, ↓x_v11, ↓x_g12, ↓x_v12, ↓x_g13, ↓x_v13, ↓x_g14, ↓x_v14, ↓x_g15, ↓x_v15, ↓x_g16, ↓x_v16, ↓x_g17, ↓x_v17, ↓x_g18, ↓x_v18, ↓x_g19, ↓x_v19, ↓x_gt2, ↓x_gt3, ↓x_gt4, ↓x_gt5, ↓x_gt6, ↓x_gc, ↓x_gn, ↓x_par2, ↓x_p2, ↓x_par3, ↓x_p3, ↓x_C, ↓x_op, ↓x_test, ↓x_chain, ↓x_andT, ↓x_orT, ↓x_notT, ↓x_ifE, ↓x_andV, ↓x_orV, ↓x_notV, ↓x_nil, ↓x_cons, ↓x_star, ↓x_tup, ↓x_lst, ↓x_callB, ↓x_call, ↓x_callK, ↓x_meth, ↓x_make, ↓x_fld, ↓x_fldS, ↓x_bm0, ↓x_bm, ↓x_sl, ↓x_nop, ↓x_prt, ↓x_neg, ↓x_revL, ↓x_lc, ↓x_for, ↓x_diSeq, ↓x_diEnum, ↓x_rng1, ↓y_addi, ↓y_adds, ↓y_addt, ↓y_int, ↓y_intC, ↓y_is, ↓y_isn, ↓y_nnon, ↓y_nbl, ↓y_nint, ↓y_nstr, ↓y_ntup, ↓y_nref, ↓y_t0, ↓y_t1, ↓y_t2, ↓y_t3, ↓y_m2, ↓y_m3, ↓y_len0, ↓y_len1, ↓y_len2, ↓y_len3, ↓y_len, ↓y_lenS, ↓y_itt, ↓y_iss, ↓y_iii, ↓y_iib, ↓y_i1, ↓y_i1b, ↓y_abs, ↓y_strI, ↓y_slt, ↓y_sls, ↓y_tys, ↓y_gs0, ↓y_gs1, ↓y_gs2, ↓y_gs3, ↓y_gs4, ↓y_gs5, ↓y_gs6, ↓y_gs7, ↓bIn_2, ↓bNotIn_2, ↓bEq_int, ↓bNe_int, wipeD, List.map_cons, List.map_nil, List.set_cons_zero, List.set_cons_succ, Option.some.injEq, exists_and_left, exists_eq_left', exists_eq_left, decide_true, decide_false, Bool.false_eq_true, reduceIte, Bool.not_true, Bool.not_false, List.length_cons, List.length_nil, Nat.reduceAdd, Nat.zero_add, line16, Nat.reduceLeDiff, Int.reduceEq, Int.reduceLT, Int.reduceLE, Int.reduceNeg, or_true, true_or, or_self, or_false, false_or, true_and, and_true, and_self, List.cons_append, List.nil_append, List.append_nil, forall_const, hz]
          exact one
        · have hdl : 0 < d ∧ 1 < left := by
            by_cases h : 0 < d ∧ 1 < left
            · exact h
            · exact absurd (by rw [hs0 h]; rfl) hz
          have h2 : ¬ ((left : Nat) : Int) < 2 := by omega
          have h3 : ¬ ((d : Nat) : Int) = 0 := by omega
          simp only [↓x_seq, ↓x_next, ↓x_ret, ↓x_retN, ↓x_drop, ↓x_if, ↓x_asg, ↓x_false, ↓x_brk, ↓x_cnt, ↓x_g0, ↓x_v0, ↓x_g1, ↓x_v1, ↓x_g2, ↓x_v2, ↓x_g3, ↓x_v3, ↓x_g4, ↓x_v4, ↓x_g5, ↓x_v5, ↓x_g6, ↓x_v6, ↓x_g7, ↓x_v7, ↓x_g8, ↓x_v8, ↓x_g9, ↓x_v9, ↓x_g10, ↓x_v10, ↓x_g11, ↓x_v11, ↓x_g12, ↓x_v12, ↓x_g13, ↓x_v13, ↓x_g14, ↓x_v14, ↓x_g15, ↓x_v15, ↓x_g16, ↓x_v16, ↓x_g17, ↓x_v17, ↓x_g18, ↓x_v18, ↓x_g19, ↓x_v19, ↓x_gt2, ↓x_gt3, ↓x_gt4, ↓x_gt5, ↓x_gt6, ↓x_gc, ↓x_gn, ↓x_par2, ↓x_p2, ↓x_par3, ↓x_p3, ↓x_C, ↓x_op, ↓x_test, ↓x_chain, ↓x_andT, ↓x_orT, ↓x_notT, ↓x_ifE, ↓x_andV, ↓x_orV, ↓x_notV, ↓x_nil, ↓x_cons, ↓x_star, ↓x_tup, ↓x_lst, ↓x_callB, ↓x_call, ↓x_callK, ↓x_meth, ↓x_make, ↓x_fld, ↓x_fldS, ↓x_bm0, ↓x_bm, ↓x_sl, ↓x_nop, ↓x_prt, ↓x_neg, ↓x_revL, ↓x_lc, ↓x_for, ↓x_diSeq, ↓x_diEnum, ↓x_rng1, ↓y_addi, ↓y_adds, ↓y_addt, ↓y_int, ↓y_intC, ↓y_is, ↓y_isn, ↓y_nnon, ↓y_nbl, ↓y_nint, ↓y_nstr, ↓y_ntup, ↓y_nref, ↓y_t0, ↓y_t1, ↓y_t2, ↓y_t3, ↓y_m2, ↓y_m3, ↓y_len0, ↓y_len1, ↓y_len2, ↓y_len3, ↓y_len, ↓y_lenS, ↓y_itt, ↓y_iss, ↓y_iii, ↓y_iib, ↓y_i1, ↓y_i1b, ↓y_abs, ↓y_strI, ↓y_slt, ↓y_sls, ↓y_tys, ↓y_gs0, ↓y_gs1, ↓y_gs2, ↓y_gs3, ↓y_gs4, ↓y_gs5, ↓y_gs6, ↓y_gs7, ↓bIn_2, ↓bNotIn_2, ↓bEq_int, ↓bNe_int, wipeD, List.map_cons, List.map_nil, List.set_cons_zero, List.set_cons_succ, Option.some.injEq, exists_and_left, exists_eq_left', exists_eq_left, decide_true, decide_false, Bool.false_eq_true, reduceIte, Bool.not_true, Bool.not_false, List.length_cons, List.length_nil, Nat.reduceAdd, Nat.zero_add, line16, Nat.reduceLeDiff, Int.reduceEq, Int.reduceLT, Int.reduceLE, Int.reduceNeg, or_true, true_or, or_self, or_false, false_or, true_and, and_true, and_self, List.cons_append, List.nil_append, List.append_nil, forall_const, hz, h2, h3]
          refine ⟨a, g, 4, rfl, by omega, by omega, hD3, fun t M5 ht hD5 hK5 => ?_⟩
          have hK6 := hK4.trans hK5
          by_cases ht0 : ((t : Nat) : Int) = 0
          · simp only [↓x_seq, ↓x_next, ↓x_ret, ↓x_retN, ↓x_drop, ↓x_if, ↓x_asg, ↓x_false, ↓x_brk, ↓x_cnt, ↓x_g0, ↓x_v0, ↓x_g1, ↓x_v1, ↓x_g2, ↓x_v2, ↓x_g3, ↓x_v3, ↓x_g4, ↓x_v4, ↓x_g5, ↓x_v5, ↓x_g6, ↓x_v6, ↓x_g7, ↓x_v7, ↓x_g8, ↓x_v8, ↓x_g9, ↓x_v9, ↓x_g10, ↓x_v10, ↓x_g11, ↓x_v11, ↓x_g12, ↓x_v12, ↓x_g13, ↓x_v13, ↓x_g14, ↓x_v14, ↓x_g15, ↓x_v15, ↓x_g16, ↓x_v16, ↓x_g17, ↓x_v17, ↓x_g18, ↓x_v18, ↓x_g19, ↓x_v19, ↓x_gt2, ↓x_gt3, ↓x_gt4, ↓x_gt5, ↓x_gt6, ↓x_gc, ↓x_gn, ↓x_par2, ↓x_p2, ↓x_par3, ↓x_p3, ↓x_C, ↓x_op, ↓x_test, ↓x_chain, ↓x_andT, ↓x_orT, ↓x_notT, ↓x_ifE, ↓x_andV, ↓x_orV, ↓x_notV, ↓x_nil, ↓x_cons, ↓x_star, ↓x_tup, ↓x_lst, ↓x_callB, ↓x_call, ↓x_callK, ↓x_meth, ↓x_make, ↓x_fld, ↓x_fldS, ↓x_bm0, ↓x_bm, ↓x_sl, ↓x_nop, ↓x_prt, ↓x_neg, ↓x_revL, ↓x_lc, ↓x_for, ↓x_diSeq, ↓x_diEnum, ↓x_rng1, ↓y_addi, ↓y_adds, ↓y_addt, ↓y_int, ↓y_intC, ↓y_is, ↓y_isn, ↓y_nnon, ↓y_nbl, ↓y_nint, ↓y_nstr, ↓y_ntup, ↓y_nref, ↓y_t0, ↓y_t1, ↓y_t2, ↓y_t3, ↓y_m2, ↓y_m3, ↓y_len0, ↓y_len1, ↓y_len2, ↓y_len3, ↓y_len, ↓y_lenS, ↓y_itt, ↓y_iss, ↓y_iii, ↓y_iib, ↓y_i1, ↓y_i1b, ↓y_abs, ↓y_strI, ↓y_slt, ↓y_sls, ↓y_tys, ↓y_gs0, ↓y_gs1, ↓y_gs2, ↓y_gs3, ↓y_gs4, ↓y_gs5, ↓y_gs6, ↓y_gs7, ↓bIn_2, ↓bNotIn_2, ↓bEq_int, ↓bNe_int, wipeD, List.map_cons, List.map_nil, List.set_cons_zero, List.set_cons_succ, Option.some.injEq, exists_and_left, exists_eq_left', exists_eq_left, decide_true, decide_false, Bool.false_eq_true, reduceIte, Bool.not_true, Bool.not_false, List.length_cons, List.length_nil, Nat.reduceAdd, Nat.zero_add, line16, Nat.reduceLeDiff, Int.reduceEq, Int.reduceLT, Int.reduceLE, Int.reduceNeg, or_true, true_or, or_self, or_false, false_or, true_and, and_true, and_self, List.cons_append, List.nil_append, List.append_nil, forall_const, ht0]
            have := q (.inn rm []) M5 (by simp [okP, okPs, hr6]) (by simp [cP, cPs]; omega) hD5 hK6
            simp [pD, pDs, cP, cPs] at this
            exact Fg.now this
          · simp only [↓x_seq, ↓x_next, ↓x_ret, ↓x_retN, ↓x_drop, ↓x_if, ↓x_asg, ↓x_false, ↓x_brk, ↓x_cnt, ↓x_g0, ↓x_v0, ↓x_g1, ↓x_v1, ↓x_g2, ↓x_v2, ↓x_g3, ↓x_v3, ↓x_g4, ↓x_v4, ↓x_g5, ↓x_v5, ↓x_g6, ↓x_v6, ↓x_g7, ↓x_v7, ↓x_g8, ↓x_v8, ↓x_g9, ↓x_v9, ↓x_g10, ↓x_v10, ↓x_g11, ↓x_v11, ↓x_g12, ↓x_v12, ↓x_g13, ↓x_v13, ↓x_g14, ↓x_v14, ↓x_g15, ↓x_v15, ↓x_g16, ↓x_v16, ↓x_g17, ↓x_v17, ↓x_g18, ↓x_v18, ↓x_g19, ↓x_v19, ↓x_gt2, ↓x_gt3, ↓x_gt4, ↓x_gt5, ↓x_gt6, ↓x_gc, ↓x_gn, ↓x_par2, ↓x_p2, ↓x_par3, ↓x_p3, ↓x_C, ↓x_op, ↓x_test, ↓x_chain, ↓x_andT, ↓x_orT, ↓x_notT, ↓x_ifE, ↓x_andV, ↓x_orV, ↓x_notV, ↓x_nil, ↓x_cons, ↓x_star, ↓x_tup, ↓x_lst, ↓x_callB, ↓x_call, ↓x_callK, ↓x_meth, ↓x_make, ↓x_fld, ↓x_fldS, ↓x_bm0, ↓x_bm, ↓x_sl, ↓x_nop, ↓x_prt, ↓x_neg, ↓x_revL, ↓x_lc, ↓x_for, ↓x_diSeq, ↓x_diEnum, ↓x_rng1, ↓y_addi, ↓y_adds, ↓y_addt, ↓y_int, ↓y_intC, ↓y_is, ↓y_isn, ↓y_nnon, ↓y_nbl, ↓y_nint, ↓y_nstr, ↓y_ntup, ↓y_nref, ↓y_t0, ↓y_t1, ↓y_t2, ↓y_t3, ↓y_m2, ↓y_m3, ↓y_len0, ↓y_len1, ↓y_len2, ↓y_len3, ↓y_len, ↓y_lenS, ↓y_itt, ↓y_iss, ↓y_iii, ↓y_iib, ↓y_i1, ↓y_i1b, ↓y_abs, ↓y_strI, ↓y_slt, ↓y_sls, ↓y_tys, ↓y_gs0, ↓y_gs1, ↓y_gs2, ↓y_gs3, ↓y_gs4, ↓y_gs5, ↓y_gs6, ↓y_gs7, ↓bIn_2, ↓bNotIn_2, ↓bEq_int, ↓bNe_int, wipeD, List.map_cons, List.map_nil, List.set_cons_zero, List.set_cons_succ, Option.some.injEq, exists_and_left, exists_eq_left', exists_eq_left, decide_true, decide_false, Bool.false_eq_true, reduceIte, Bool.not_true, Bool.not_false, List.length_cons, List.length_nil, Nat.reduceAdd, Nat.zero_add, line16, Nat.reduceLeDiff, Int.reduceEq, Int.reduceLT, Int.reduceLE, Int.reduceNeg, or_true, true_or, or_self, or_false, false_or, true_and, and_true, and_self, List.cons_append, List.nil_append, List.append_nil, forall_const, ht0]
            have hR5 := hR.kp hK6
            simp only [hR5.at_]
            refine lcG_filter (fun x => match x with | .int i => decide (i ≠ (rm : Int)) | _ => false) (fun p l hp => (put_ne (ne_of hR5.at_ hp)).trans hR5.at_) (by rw [List.length_map, nI_len, line16]; omega) (fun i x M7 hx hs' R R' hRt hRf => ?_) fun c hc => ?_
            · rw [List.getElem?_map] at hx
              cases e7 : (nI rooms)[i]? with
              | none => rw [e7] at hx; cases hx
              | some y =>
                rw [e7] at hx; cases hx
                simp only [↓x_seq, ↓x_next, ↓x_ret, ↓x_retN, ↓x_drop, ↓x_if, ↓x_asg, ↓x_false, ↓x_brk, ↓x_cnt, ↓x_g0, ↓x_v0, ↓x_g1, ↓x_v1, ↓x_g2, ↓x_v2, ↓x_g3, ↓x_v3, ↓x_g4, ↓x_v4, ↓x_g5, ↓x_v5, ↓x_g6, ↓x_v6, ↓x_g7, ↓x_v7, ↓x_g8, ↓x_v8, ↓x_g9, ↓x_v9, ↓x_g10, ↓x_v10, ↓x_g11, ↓x_v11, ↓x_g12, ↓x_v12, ↓x_g13, ↓x_v13, ↓x_g14, ↓x_v14, ↓x_g15, ↓x_v15, ↓x_g16, ↓x_v16, ↓x_g17, ↓x_v17, ↓x_g18, ↓x_v18, ↓x_g19, ↓x_v19, ↓x_gt2, ↓x_gt3, ↓x_gt4, ↓x_gt5, ↓x_gt6, ↓x_gc, ↓x_gn, ↓x_par2, ↓x_p2, ↓x_par3, ↓x_p3, ↓x_C, ↓x_op, ↓x_test, ↓x_chain, ↓x_andT, ↓x_orT, ↓x_notT, ↓x_ifE, ↓x_andV, ↓x_orV, ↓x_notV, ↓x_nil, ↓x_cons, ↓x_star, ↓x_tup, ↓x_lst, ↓x_callB, ↓x_call, ↓x_callK, ↓x_meth, ↓x_make, ↓x_fld, ↓x_fldS, ↓x_bm0, ↓x_bm, ↓x_sl, ↓x_nop, ↓x_prt, ↓x_neg, ↓x_revL, ↓x_lc, ↓x_for, ↓x_diSeq, ↓x_diEnum, ↓x_rng1, ↓y_addi, ↓y_adds, ↓y_addt, ↓y_int, ↓y_intC, ↓y_is, ↓y_isn, ↓y_nnon, ↓y_nbl, ↓y_nint, ↓y_nstr, ↓y_ntup, ↓y_nref, ↓y_t0, ↓y_t1, ↓y_t2, ↓y_t3, ↓y_m2, ↓y_m3, ↓y_len0, ↓y_len1, ↓y_len2, ↓y_len3, ↓y_len, ↓y_lenS, ↓y_itt, ↓y_iss, ↓y_iii, ↓y_iib, ↓y_i1, ↓y_i1b, ↓y_abs, ↓y_strI, ↓y_slt, ↓y_sls, ↓y_tys, ↓y_gs0, ↓y_gs1, ↓y_gs2, ↓y_gs3, ↓y_gs4, ↓y_gs5, ↓y_gs6, ↓y_gs7, ↓bIn_2, ↓bNotIn_2, ↓bEq_int, ↓bNe_int, wipeD, List.map_cons, List.map_nil, List.set_cons_zero, List.set_cons_succ, Option.some.injEq, exists_and_left, exists_eq_left', exists_eq_left, decide_true, decide_false, Bool.false_eq_true, reduceIte, Bool.not_true, Bool.not_false, List.length_cons, List.length_nil, Nat.reduceAdd, Nat.zero_add, line16, Nat.reduceLeDiff, Int.reduceEq, Int.reduceLT, Int.reduceLE, Int.reduceNeg, or_true, true_or, or_self, or_false, false_or, true_and, and_true, and_self, List.cons_append, List.nil_append, List.append_nil, forall_const]
                by_cases hy : y = ((rm : Nat) : Int)
                · simp only [hy, ↓x_seq, ↓x_next, ↓x_ret, ↓x_retN, ↓x_drop, ↓x_if, ↓x_asg, ↓x_false, ↓x_brk, ↓x_cnt, ↓x_g0, ↓x_v0, ↓x_g1, ↓x_v1, ↓x_g2, ↓x_v2, ↓x_g3, ↓x_v3, ↓x_g4, ↓x_v4, ↓x_g5, ↓x_v5, ↓x_g6, ↓x_v6, ↓x_g7, ↓x_v7, ↓x_g8, ↓x_v8, ↓x_g9, ↓x_v9, ↓x_g10, ↓x_v10, ↓x_g11, ↓x_v11, ↓x_g12, ↓x_v12, ↓x_g13, ↓x_v13, ↓x_g14, ↓x_v14, ↓x_g15, ↓x_v15, ↓x_g16, ↓x_v16, ↓x_g17, ↓x_v17, ↓x_g18, ↓x_v18, ↓x_g19, ↓x_v19, ↓x_gt2, ↓x_gt3, ↓x_gt4, ↓x_gt5, ↓x_gt6, ↓x_gc, ↓x_gn, ↓x_par2, ↓x_p2, ↓x_par3, ↓x_p3, ↓x_C, ↓x_op, ↓x_test, ↓x_chain, ↓x_andT, ↓x_orT, ↓x_notT, ↓x_ifE, ↓x_andV, ↓x_orV, ↓x_notV, ↓x_nil, ↓x_cons, ↓x_star, ↓x_tup, ↓x_lst, ↓x_callB, ↓x_call, ↓x_callK, ↓x_meth, ↓x_make, ↓x_fld, ↓x_fldS, ↓x_bm0, ↓x_bm, ↓x_sl, ↓x_nop, ↓x_prt, ↓x_neg, ↓x_revL, ↓x_lc, ↓x_for, ↓x_diSeq, ↓x_diEnum, ↓x_rng1, ↓y_addi, ↓y_adds, ↓y_addt, ↓y_int, ↓y_intC, ↓y_is, ↓y_isn, ↓y_nnon, ↓y_nbl, ↓y_nint, ↓y_nstr, ↓y_ntup, ↓y_nref, ↓y_t0, ↓y_t1, ↓y_t2, ↓y_t3, ↓y_m2, ↓y_m3, ↓y_len0, ↓y_len1, ↓y_len2, ↓y_len3, ↓y_len, ↓y_lenS, ↓y_itt, ↓y_iss, ↓y_iii, ↓y_iib, ↓y_i1, ↓y_i1b, ↓y_abs, ↓y_strI, ↓y_slt, ↓y_sls, ↓y_tys, ↓y_gs0, ↓y_gs1, ↓y_gs2, ↓y_gs3, ↓y_gs4, ↓y_gs5, ↓y_gs6, ↓y_gs7, ↓bIn_2, ↓bNotIn_2, ↓bEq_int, ↓bNe_int, wipeD, List.map_cons, List.map_nil, List.set_cons_zero, List.set_cons_succ, Option.some.injEq, exists_and_left, exists_eq_left', exists_eq_left, decide_true, decide_false, Bool.false_eq_true, reduceIte, Bool.not_true, Bool.not_false, List.length_cons, List.length_nil, Nat.reduceAdd, Nat.zero_add, line16, Nat.reduceLeDiff, Int.reduceEq, Int.reduceLT, Int.reduceLE, Int.reduceNeg, or_true, true_or, or_self, or_false, false_or, true_and, and_true, and_self, List.cons_append, List.nil_append, List.append_nil, forall_const]
                  exact hRf (by simp [hy])
                · simp only [hy, ↓x_seq, ↓x_next, ↓x_ret, ↓x_retN, ↓x_drop, ↓x_if, ↓x_asg, ↓x_false, ↓x_brk, ↓x_cnt, ↓x_g0, ↓x_v0, ↓x_g1, ↓x_v1, ↓x_g2, ↓x_v2, ↓x_g3, ↓x_v3, ↓x_g4, ↓x_v4, ↓x_g5, ↓x_v5, ↓x_g6, ↓x_v6, ↓x_g7, ↓x_v7, ↓x_g8, ↓x_v8, ↓x_g9, ↓x_v9, ↓x_g10, ↓x_v10, ↓x_g11, ↓x_v11, ↓x_g12, ↓x_v12, ↓x_g13, ↓x_v13, ↓x_g14, ↓x_v14, ↓x_g15, ↓x_v15, ↓x_g16, ↓x_v16, ↓x_g17, ↓x_v17, ↓x_g18, ↓x_v18, ↓x_g19, ↓x_v19, ↓x_gt2, ↓x_gt3, ↓x_gt4, ↓x_gt5, ↓x_gt6, ↓x_gc, ↓x_gn, ↓x_par2, ↓x_p2, ↓x_par3, ↓x_p3, ↓x_C, ↓x_op, ↓x_test, ↓x_chain, ↓x_andT, ↓x_orT, ↓x_notT, ↓x_ifE, ↓x_andV, ↓x_orV, ↓x_notV, ↓x_nil, ↓x_cons, ↓x_star, ↓x_tup, ↓x_lst, ↓x_callB, ↓x_call, ↓x_callK, ↓x_meth, ↓x_make, ↓x_fld, ↓x_fldS, ↓x_bm0, ↓x_bm, ↓x_sl, ↓x_nop, ↓x_prt, ↓x_neg, ↓x_revL, ↓x_lc, ↓x_for, ↓x_diSeq, ↓x_diEnum, ↓x_rng1, ↓y_addi, ↓y_adds, ↓y_addt, ↓y_int, ↓y_intC, ↓y_is, ↓y_isn, ↓y_nnon, ↓y_nbl, ↓y_nint, ↓y_nstr, ↓y_ntup, ↓y_nref, ↓y_t0, ↓y_t1, ↓y_t2, ↓y_t3, ↓y_m2, ↓y_m3, ↓y_len0, ↓y_len1, ↓y_len2, ↓y_len3, ↓y_len, ↓y_lenS, ↓y_itt, ↓y_iss, ↓y_iii, ↓y_iib, ↓y_i1, ↓y_i1b, ↓y_abs, ↓y_strI, ↓y_slt, ↓y_sls, ↓y_tys, ↓y_gs0, ↓y_gs1, ↓y_gs2, ↓y_gs3, ↓y_gs4, ↓y_gs5, ↓y_gs6, ↓y_gs7, ↓bIn_2, ↓bNotIn_2, ↓bEq_int, ↓bNe_int, wipeD, List.map_cons, List.map_nil, List.set_cons_zero, List.set_cons_succ, Option.some.injEq, exists_and_left, exists_eq_left', exists_eq_left, decide_true, decide_false, Bool.false_eq_true, reduceIte, Bool.not_true, Bool.not_false, List.length_cons, List.length_nil, Nat.reduceAdd, Nat.zero_add, line16, Nat.reduceLeDiff, Int.reduceEq, Int.reduceLT, Int.reduceLE, Int.reduceNeg, or_true, true_or, or_self, or_false, false_or, true_and, and_true, and_self, List.cons_append, List.nil_append, List.append_nil, forall_const]
                  exact hRt (by simp [hy])
            · have hfl : ((nI rooms).map D.int).filter (fun x => match x with | .int i => decide (i ≠ (rm : Int)) | _ => false) = (nI (rooms.filter fun x => decide (x ≠ rm))).map D.int := by
                unfold nI
                rw [List.map_map, List.map_map, List.filter_map]
                congr 1
                apply List.filter_congr
                intro y _
                simp
                omega
              rw [hfl]
              have hcn := hD5.na hc
              have hD7 := hD5.kp_new (o := .lst ((nI (rooms.filter fun x => decide (x ≠ rm))).map D.int)) hc
              have hK7 : Kp a g M (put M5 c (.lst ((nI (rooms.filter fun x => decide (x ≠ rm))).map D.int))) := hK6.new2 hc
              refine ⟨hdl.1, a, g, c, rooms.filter fun x => decide (x ≠ rm), left - 1, ?_, by omega, by omega, ⟨put_same, hcn.1, hcn.2, fun y hy => hR.lt y (List.mem_filter.mp hy).1, Nat.le_trans (List.length_filter_le _ _) hR.len⟩, hD7, fun ps M8 hok hne8 hle hD8 hK8 => ?_⟩
              · rw [show (((left - 1 : Nat) : Nat) : Int) = ((left : Nat) : Int) - 1 by omega, show (((d - 1 : Nat) : Nat) : Int) = ((d : Nat) : Int) - 1 by omega]
              · simp only [↓x_seq, ↓x_next, ↓x_ret, ↓x_retN, ↓x_drop, ↓x_if, ↓x_asg, ↓x_false, ↓x_brk, ↓x_cnt, ↓x_g0, ↓x_v0, ↓x_g1, ↓x_v1, ↓x_g2, ↓x_v2, ↓x_g3, ↓x_v3, ↓x_g4, ↓x_v4, ↓x_g5, ↓x_v5, ↓x_g6, ↓x_v6, ↓x_g7, ↓x_v7, ↓x_g8, ↓x_v8, ↓x_g9, ↓x_v9, ↓x_g10, ↓x_v10, ↓x_g11, ↓x_v11, ↓x_g12, ↓x_v12, ↓x_g13, ↓x_v13, ↓x_g14, ↓x_v14, ↓x_g15, ↓x_v15, ↓x_g16, ↓x_v16, ↓x_g17, ↓x_v17, ↓x_g18, ↓x_v18, ↓x_g19, ↓x_v19, ↓x_gt2, ↓x_gt3, ↓x_gt4, ↓x_gt5, ↓x_gt6, ↓x_gc, ↓x_gn, ↓x_par2, ↓x_p2, ↓x_par3, ↓x_p3, ↓x_C, ↓x_op, ↓x_test, ↓x_chain, ↓x_andT, ↓x_orT, ↓x_notT, ↓x_ifE, ↓x_andV, ↓x_orV, ↓x_notV, ↓x_nil, ↓x_cons, ↓x_star, ↓x_tup, ↓x_lst, ↓x_callB, ↓x_call, ↓x_callK, ↓x_meth, ↓x_make, ↓x_fld, ↓x_fldS, ↓x_bm0, ↓x_bm, ↓x_sl, ↓x_nop, ↓x_prt, ↓x_neg, ↓x_revL, ↓x_lc, ↓x_for, ↓x_diSeq, ↓x_diEnum, ↓x_rng1, ↓y_addi, ↓y_adds, ↓y_addt, ↓y_int, ↓y_intC, ↓y_is, ↓y_isn, ↓y_nnon, ↓y_nbl, ↓y_nint, ↓y_nstr, ↓y_ntup, ↓y_nref, ↓y_t0, ↓y_t1, ↓y_t2, ↓y_t3, ↓y_m2, ↓y_m3, ↓y_len0, ↓y_len1, ↓y_len2, ↓y_len3, ↓y_len, ↓y_lenS, ↓y_itt, ↓y_iss, ↓y_iii, ↓y_iib, ↓y_i1, ↓y_i1b, ↓y_abs, ↓y_strI, ↓y_slt, ↓y_sls, ↓y_tys, ↓y_gs0, ↓y_gs1, ↓y_gs2, ↓y_gs3, ↓y_gs4, ↓y_gs5, ↓y_gs6, ↓y_gs7, ↓bIn_2, ↓bNotIn_2, ↓bEq_int, ↓bNe_int, wipeD, List.map_cons, List.map_nil, List.set_cons_zero, List.set_cons_succ, Option.some.injEq, exists_and_left, exists_eq_left', exists_eq_left, decide_true, decide_false, Bool.false_eq_true, reduceIte, Bool.not_true, Bool.not_false, List.length_cons, List.length_nil, Nat.reduceAdd, Nat.zero_add, line16, Nat.reduceLeDiff, Int.reduceEq, Int.reduceLT, Int.reduceLE, Int.reduceNeg, or_true, true_or, or_self, or_false, false_or, true_and, and_true, and_self, List.cons_append, List.nil_append, List.append_nil, forall_const]
                have := q (.inn rm ps) M8 (by simp [okP, hr6, hok]) (by simp [cP]; omega) hD8 (hK7.trans hK8)
                rw [show ((cP (.inn rm ps) : Nat) : Int) = ((cPs ps : Nat) : Int) + 1 by simp [cP]; omega] at this
                simp only [pD] at this
                exact Fg.now this
    · simp only [↓x_seq, ↓x_next, ↓x_ret, ↓x_retN, ↓x_drop, ↓x_if, ↓x_asg, ↓x_false, ↓x_brk, ↓x_cnt, ↓x_g0, ↓x_v0, ↓x_g1, ↓x_v1, ↓x_g2, ↓x_v2, ↓x_g3, ↓x_v3, ↓x_g4, ↓x_v4, ↓x_g5, ↓x_v5, ↓x_g6, ↓x_v6, ↓x_g7, ↓x_v7, ↓x_g8, ↓x_v8, ↓x_g9, ↓x_v9, ↓x_g10, ↓x_v10, ↓x_g11, ↓x_v11, ↓x_g12, ↓x_v12, ↓x_g13, ↓x_v13, ↓x_g14, ↓x_v14, ↓x_g15, ↓x_v15, ↓x_g16, ↓x_v16, ↓x_g17, ↓x_v17, ↓x_g18, ↓x_v18, ↓x_g19, ↓x_v19, ↓x_gt2, ↓x_gt3, ↓x_gt4, ↓x_gt5, ↓x_gt6, ↓x_gc, ↓x_gn, ↓x_par2, ↓x_p2, ↓x_par3, ↓x_p3, ↓x_C, ↓x_op, ↓x_test, ↓x_chain, ↓x_andT, ↓x_orT, ↓x_notT, ↓x_ifE, ↓x_andV, ↓x_orV, ↓x_notV, ↓x_nil, ↓x_cons, ↓x_star, ↓x_tup, ↓x_lst, ↓x_callB, ↓x_call, ↓x_callK, ↓x_meth, ↓x_make, ↓x_fld, ↓x_fldS, ↓x_bm0, ↓x_bm, ↓x_sl, ↓x_nop, ↓x_prt, ↓x_neg, ↓x_revL, ↓x_lc, ↓x_for, ↓x_diSeq, ↓x_diEnum, ↓x_rng1, ↓y_addi, ↓y_adds, ↓y_addt, ↓y_int, ↓y_intC, ↓y_is, ↓y_isn, ↓y_nnon, ↓y_nbl, ↓y_nint, ↓y_nstr, ↓y_ntup, ↓y_nref, ↓y_t0, ↓y_t1, ↓y_t2, ↓y_t3, ↓y_m2, ↓y_m3, ↓y_len0, ↓y_len1, ↓y_len2, ↓y_len3, ↓y_len, ↓y_lenS, ↓y_itt, ↓y_iss, ↓y_iii, ↓y_iib, ↓y_i1, ↓y_i1b, ↓y_abs, ↓y_strI, ↓y_slt, ↓y_sls, ↓y_tys, ↓y_gs0, ↓y_gs1, ↓y_gs2, ↓y_gs3, ↓y_gs4, ↓y_gs5, ↓y_gs6, ↓y_gs7, ↓bIn_2, ↓bNotIn_2, ↓bEq_int, ↓bNe_int, wipeD, List.map_cons, List.map_nil, List.set_cons_zero, List.set_cons_succ, Option.some.injEq, exists_and_left, exists_eq_left', exists_eq_left, decide_true, decide_false, Bool.false_eq_true, reduceIte, Bool.not_true, Bool.not_false, List.length_cons, List.length_nil, Nat.reduceAdd, Nat.zero_add, line16, Nat.reduceLeDiff, Int.reduceEq, Int.reduceLT, Int.reduceLE, Int.reduceNeg, or_true, true_or, or_self, or_false, false_or, true_and, and_true, and_self, List.cons_append, List.nil_append, List.append_nil, forall_const, h4]
      exact hN _ _ ⟨s, rfl, hD1, hK1, hs5, hs0⟩
  clear hs0 hs5 hK1 hD1
  rintro σ M1 ⟨s, rfl, hD1, hK1, hs5, hs0⟩
  -- again
  refine seq_cut (lpJ a g r left d M fun _ => True) (fun N hN => ?_) ?_
  · by_cases h4 : ((s : Nat) : Int) = 4
    · have hdl : 0 < d ∧ 1 < left := by
        by_cases h : 0 < d ∧ 1 < left
        · exact h
        · rw [hs0 h] at h4; cases h4
      simp only [↓x_seq, ↓x_next, ↓x_ret, ↓x_retN, ↓x_drop, ↓x_if, ↓x_asg, ↓x_false, ↓x_brk, ↓x_cnt, ↓x_g0, ↓x_v0, ↓x_g1, ↓x_v1, ↓x_g2, ↓x_v2, ↓x_g3, ↓x_v3, ↓x_g4, ↓x_v4, ↓x_g5, ↓x_v5, ↓x_g6, ↓x_v6, ↓x_g7, ↓x_v7, ↓x_g8, ↓x_v8, ↓x_g9, ↓x_v9, ↓x_g10, ↓x_v10, ↓x_g11, ↓x_v11, ↓x_g12, ↓x_v12, ↓x_g13, ↓x_v13, ↓x_g14, ↓x_v14, ↓x_g15, ↓x_v15, ↓x_g16, ↓x_v16, ↓x_g17, ↓x_v17, ↓x_g18, ↓x_v18, ↓x_g19, ↓x_v19, ↓x_gt2, ↓x_gt3, ↓x_gt4, ↓x_gt5, ↓x_gt6, ↓x_gc, ↓x_gn, ↓x_par2, ↓x_p2, ↓x_par3, ↓x_p3, ↓x_C, ↓x_op, ↓x_test, ↓x_chain, ↓x_andT, ↓x_orT, ↓x_notT, ↓x_ifE, ↓x_andV, ↓x_orV, ↓x_notV, ↓x_nil, ↓x_cons, ↓x_star, ↓x_tup, ↓x_lst, ↓x_callB, ↓x_call, ↓x_callK, ↓x_meth, ↓x_make, ↓x_fld, ↓x_fldS, ↓x_bm0, ↓x_bm, ↓x_sl, ↓x_nop, ↓x_prt, ↓x_neg, ↓x_revL, ↓x_lc, ↓x_for, ↓x_diSeq, ↓x_diEnum, ↓x_rng1, ↓y_addi, ↓y_adds, ↓y_addt, ↓y_int, ↓y_intC, ↓y_is, ↓y_isn, ↓y_nnon, ↓y_nbl, ↓y_nint, ↓y_nstr, ↓y_ntup, ↓y_nref, ↓y_t0, ↓y_t1, ↓y_t2, ↓y_t3, ↓y_m2, ↓y_m3, ↓y_len0, ↓y_len1, ↓y_len2, ↓y_len3, ↓y_len, ↓y_lenS, ↓y_itt, ↓y_iss, ↓y_iii, ↓y_iib, ↓y_i1, ↓y_i1b, ↓y_abs, ↓y_strI, ↓y_slt, ↓y_sls, ↓y_tys, ↓y_gs0, ↓y_gs1, ↓y_gs2, ↓y_gs3, ↓y_gs4, ↓y_gs5, ↓y_gs6, ↓y_gs7, ↓bIn_2, ↓bNotIn_2, ↓bEq_int, ↓bNe_int, wipeD, List.map_cons, List.map_nil, List.set_cons_zero, List.set_cons_succ, Option.some.injEq, exists_and_left, exists_eq_left', exists_eq_left, decide_true, decide_false, Bool.false_eq_true, reduceIte, Bool.not_true, Bool.not_false, List.length_cons, List.length_nil, Nat.reduceAdd, Nat.zero_add, line16, Nat.reduceLeDiff, Int.reduceEq, Int.reduceLT, Int.reduceLE, Int.reduceNeg, or_true, true_or, or_self, or_false, false_or, true_and, and_true, and_self, List.cons_append, List.nil_append, List.append_nil, forall_const, h4]
      refine ⟨hdl.1, a, g, r, rooms, left - 1, ?_, by omega, by omega, hR.kp hK1, hD1, fun ps M8 hok hne8 hle hD8 hK8 => ?_⟩
      · rw [show (((left - 1 : Nat) : Nat) : Int) = ((left : Nat) : Int) - 1 by omega, show (((d - 1 : Nat) : Nat) : Int) = ((d : Nat) : Int) - 1 by omega]
      · simp only [↓x_seq, ↓x_next, ↓x_ret, ↓x_retN, ↓x_drop, ↓x_if, ↓x_asg, ↓x_false, ↓x_brk, ↓x_cnt, ↓x_g0, ↓x_v0, ↓x_g1, ↓x_v1, ↓x_g2, ↓x_v2, ↓x_g3, ↓x_v3, ↓x_g4, ↓x_v4, ↓x_g5, ↓x_v5, ↓x_g6, ↓x_v6, ↓x_g7, ↓x_v7, ↓x_g8, ↓x_v8, ↓x_g9, ↓x_v9, ↓x_g10, ↓x_v10, ↓x_g11, ↓x_v11, ↓x_g12, ↓x_v12, ↓x_g13, ↓x_v13, ↓x_g14, ↓x_v14, ↓x_g15, ↓x_v15, ↓x_g16, ↓x_v16, ↓x_g17, ↓x_v17, ↓x_g18, ↓x_v18, ↓x_g19, ↓x_v19, ↓x_gt2, ↓x_gt3, ↓x_gt4, ↓x_gt5, ↓x_gt6, ↓x_gc, ↓x_gn, ↓x_par2, ↓x_p2, ↓x_par3, ↓x_p3, ↓x_C, ↓x_op, ↓x_test, ↓x_chain, ↓x_andT, ↓x_orT, ↓x_notT, ↓x_ifE, ↓x_andV, ↓x_orV, ↓x_notV, ↓x_nil, ↓x_cons, ↓x_star, ↓x_tup, ↓x_lst, ↓x_callB, ↓x_call, ↓x_callK, ↓x_meth, ↓x_make, ↓x_fld, ↓x_fldS, ↓x_bm0, ↓x_bm, ↓x_sl, ↓x_nop, ↓x_prt, ↓x_neg, ↓x_revL, ↓x_lc, ↓x_for, ↓x_diSeq, ↓x_diEnum, ↓x_rng1, ↓y_addi, ↓y_adds, ↓y_addt, ↓y_int, ↓y_intC, ↓y_is, ↓y_isn, ↓y_nnon, ↓y_nbl, ↓y_nint, ↓y_nstr, ↓y_ntup, ↓y_nref, ↓y_t0, ↓y_t1, ↓y_t2, ↓y_t3, ↓y_m2, ↓y_m3, ↓y_len0, ↓y_len1, ↓y_len2, ↓y_len3, ↓y_len, ↓y_lenS, ↓y_itt, ↓y_iss, ↓y_iii, ↓y_iib, ↓y_i1, ↓y_i1b, ↓y_abs, ↓y_strI, ↓y_slt, ↓y_sls, ↓y_tys, ↓y_gs0, ↓y_gs1, ↓y_gs2, ↓y_gs3, ↓y_gs4, ↓y_gs5, ↓y_gs6, ↓y_gs7, ↓bIn_2, ↓bNotIn_2, ↓bEq_int, ↓bNe_int, wipeD, List.map_cons, List.map_nil, List.set_cons_zero, List.set_cons_succ, Option.some.injEq, exists_and_left, exists_eq_left', exists_eq_left, decide_true, decide_false, Bool.false_eq_true, reduceIte, Bool.not_true, Bool.not_false, List.length_cons, List.length_nil, Nat.reduceAdd, Nat.zero_add, line16, Nat.reduceLeDiff, Int.reduceEq, Int.reduceLT, Int.reduceLE, Int.reduceNeg, or_true, true_or, or_self, or_false, false_or, true_and, and_true, and_self, List.cons_append, List.nil_append, List.append_nil, forall_const]
        have hie : ps.isEmpty = false := by cases ps <;> simp_all
        have := q (.again ps) M8 (by simp [okP, hok, hie]) (by simp [cP]; omega) hD8 (hK1.trans hK8)
        rw [show ((cP (.again ps) : Nat) : Int) = ((cPs ps : Nat) : Int) + 1 by simp [cP]; omega] at this
        simp only [pD] at this
        exact Fg.now this
    · simp only [↓x_seq, ↓x_next, ↓x_ret, ↓x_retN, ↓x_drop, ↓x_if, ↓x_asg, ↓x_false, ↓x_brk, ↓x_cnt, ↓x_g0, ↓x_v0, ↓x_g1, ↓x_v1, ↓x_g2, ↓x_v2, ↓x_g3, ↓x_v3, ↓x_g4, ↓x_v4, ↓x_g5, ↓x_v5, ↓x_g6, ↓x_v6, ↓x_g7, ↓x_v7, ↓x_g8, ↓x_v8, ↓x_g9, ↓x_v9, ↓x_g10, ↓x_v10, ↓x_g11, ↓x_v11, ↓x_g12, ↓x_v12, ↓x_g13, ↓x_v13, ↓x_g14, ↓x_v14, ↓x_g15, ↓x_v15, ↓x_g16, ↓x_v16, ↓x_g17, ↓x_v17, ↓x_g18, ↓x_v18, ↓x_g19, ↓x_v19, ↓x_gt2, ↓x_gt3, ↓x_gt4, ↓x_gt5, ↓x_gt6, ↓x_gc, ↓x_gn, ↓x_par2, ↓x_p2, ↓x_par3, ↓x_p3, ↓x_C, ↓x_op, ↓x_test, ↓x_chain, ↓x_andT, ↓x_orT, ↓x_notT, ↓x_ifE, ↓x_andV, ↓x_orV, ↓x_notV, ↓x_nil, ↓x_cons, ↓x_star, ↓x_tup, ↓x_lst, ↓x_callB, ↓x_call, ↓x_callK, ↓x_meth, ↓x_make, ↓x_fld, ↓x_fldS, ↓x_bm0, ↓x_bm, ↓x_sl, ↓x_nop, ↓x_prt, ↓x_neg, ↓x_revL, ↓x_lc, ↓x_for, ↓x_diSeq, ↓x_diEnum, ↓x_rng1, ↓y_addi, ↓y_adds, ↓y_addt, ↓y_int, ↓y_intC, ↓y_is, ↓y_isn, ↓y_nnon, ↓y_nbl, ↓y_nint, ↓y_nstr, ↓y_ntup, ↓y_nref, ↓y_t0, ↓y_t1, ↓y_t2, ↓y_t3, ↓y_m2, ↓y_m3, ↓y_len0, ↓y_len1, ↓y_len2, ↓y_len3, ↓y_len, ↓y_lenS, ↓y_itt, ↓y_iss, ↓y_iii, ↓y_iib, ↓y_i1, ↓y_i1b, ↓y_abs, ↓y_strI, ↓y_slt, ↓y_sls, ↓y_tys, ↓y_gs0, ↓y_gs1, ↓y_gs2, ↓y_gs3, ↓y_gs4, ↓y_gs5, ↓y_gs6, ↓y_gs7, ↓bIn_2, ↓bNotIn_2, ↓bEq_int, ↓bNe_int, wipeD, List.map_cons, List.map_nil, List.set_cons_zero, List.set_cons_succ, Option.some.injEq, exists_and_left, exists_eq_left', exists_eq_left, decide_true, decide_false, Bool.false_eq_true, reduceIte, Bool.not_true, Bool.not_false, List.length_cons, List.length_nil, Nat.reduceAdd, Nat.zero_add, line16, Nat.reduceLeDiff, Int.reduceEq, Int.reduceLT, Int.reduceLE, Int.reduceNeg, or_true, true_or, or_self, or_false, false_or, true_and, and_true, and_self, List.cons_append, List.nil_append, List.append_nil, forall_const, h4]
      exact hN _ _ ⟨s, rfl, hD1, hK1, trivial⟩
  clear hs0 hs5 hK1 hD1
  rintro σ M1 ⟨s, rfl, hD1, hK1, -⟩
  -- either
  simp only [↓x_seq, ↓x_next, ↓x_ret, ↓x_retN, ↓x_drop, ↓x_if, ↓x_asg, ↓x_false, ↓x_brk, ↓x_cnt, ↓x_g0, ↓x_v0, ↓x_g1, ↓x_v1, ↓x_g2, ↓x_v2, ↓x_g3, ↓x_v3, ↓x_g4, ↓x_v4, ↓x_g5, ↓x_v5, ↓x_g6, ↓x_v6, ↓x_g7, ↓x_v7, ↓x_g8, ↓x_v8, ↓x_g9, ↓x_v9, ↓x_g10, ↓x_v10, ↓x_g11, ↓x_v11, ↓x_g12, ↓x_v12, ↓x_g13, ↓x_v13, ↓x_g14, ↓x_v14, ↓x_g15, ↓x_v15, ↓x_g16, ↓x_v16, ↓x_g17, ↓x_v17, ↓x_g18, ↓x_v18, ↓x_g19, ↓x_v19, ↓x_gt2, ↓x_gt3, ↓x_gt4, ↓x_gt5, ↓x_gt6, ↓x_gc, ↓x_gn, ↓x_par2, ↓x_p2, ↓x_par3, ↓x_p3, ↓x_C, ↓x_op, ↓x_test, ↓x_chain, ↓x_andT, ↓x_orT, ↓x_notT, ↓x_ifE, ↓x_andV, ↓x_orV, ↓x_notV, ↓x_nil, ↓x_cons, ↓x_star, ↓x_tup, ↓x_lst, ↓x_callB, ↓x_call, ↓x_callK, ↓x_meth, ↓x_make, ↓x_fld, ↓x_fldS, ↓x_bm0, ↓x_bm, ↓x_sl, ↓x_nop, ↓x_prt, ↓x_neg, ↓x_revL, ↓x_lc, ↓x_for, ↓x_diSeq, ↓x_diEnum, ↓x_rng1, ↓y_addi, ↓y_adds, ↓y_addt, ↓y_int, ↓y_intC, ↓y_is, ↓y_isn, ↓y_nnon, ↓y_nbl, ↓y_nint, ↓y_nstr, ↓y_ntup, ↓y_nref, ↓y_t0, ↓y_t1, ↓y_t2, ↓y_t3, ↓y_m2, ↓y_m3, ↓y_len0, ↓y_len1, ↓y_len2, ↓y_len3, ↓y_len, ↓y_lenS, ↓y_itt, ↓y_iss, ↓y_iii, ↓y_iib, ↓y_i1, ↓y_i1b, ↓y_abs, ↓y_strI, ↓y_slt, ↓y_sls, ↓y_tys, ↓y_gs0, ↓y_gs1, ↓y_gs2, ↓y_gs3, ↓y_gs4, ↓y_gs5, ↓y_gs6, ↓y_gs7, ↓bIn_2, ↓bNotIn_2, ↓bEq_int, ↓bNe_int, wipeD, List.map_cons, List.map_nil, List.set_cons_zero, List.set_cons_succ, Option.some.injEq, exists_and_left, exists_eq_left', exists_eq_left, decide_true, decide_false, Bool.false_eq_true, reduceIte, Bool.not_true, Bool.not_false, List.length_cons, List.length_nil, Nat.reduceAdd, Nat.zero_add, line16, Nat.reduceLeDiff, Int.reduceEq, Int.reduceLT, Int.reduceLE, Int.reduceNeg, or_true, true_or, or_self, or_false, false_or, true_and, and_true, and_self, List.cons_append, List.nil_append, List.append_nil, forall_const]
  intro c hc
  have hcn := hD1.na hc
  have hD2 := hD1.kp_new (o := .lst []) hc
  have hK2 : Kp a g M (put M1 c (.lst [])) := hK1.new2 hc
  refine ⟨a, g, 4, rfl, by omega, by omega, hD2, fun n4 M2 hn4 hD3 hK3 => ?_⟩
  simp only [↓x_seq, ↓x_next, ↓x_ret, ↓x_retN, ↓x_drop, ↓x_if, ↓x_asg, ↓x_false, ↓x_brk, ↓x_cnt, ↓x_g0, ↓x_v0, ↓x_g1, ↓x_v1, ↓x_g2, ↓x_v2, ↓x_g3, ↓x_v3, ↓x_g4, ↓x_v4, ↓x_g5, ↓x_v5, ↓x_g6, ↓x_v6, ↓x_g7, ↓x_v7, ↓x_g8, ↓x_v8, ↓x_g9, ↓x_v9, ↓x_g10, ↓x_v10, ↓x_g11, ↓x_v11, ↓x_g12, ↓x_v12, ↓x_g13, ↓x_v13, ↓x_g14, ↓x_v14, ↓x_g15, ↓x_v15, ↓x_g16, ↓x_v16, ↓x_g17, ↓x_v17, ↓x_g18, ↓x_v18, ↓x_g19, ↓x_v19, ↓x_gt2, ↓x_gt3, ↓x_gt4, ↓x_gt5, ↓x_gt6, ↓x_gc, ↓x_gn, ↓x_par2, ↓x_p2, ↓x_par3, ↓x_p3, ↓x_C, ↓x_op, ↓x_test, ↓x_chain, ↓x_andT, ↓x_orT, ↓x_notT, ↓x_ifE, ↓x_andV, ↓x_orV, ↓x_notV, ↓x_nil, ↓x_cons, ↓x_star, ↓x_tup, ↓x_lst, ↓x_callB, ↓x_call, ↓x_callK, ↓x_meth, ↓x_make, ↓x_fld, ↓x_fldS, ↓x_bm0, ↓x_bm, ↓x_sl, ↓x_nop, ↓x_prt, ↓x_neg, ↓x_revL, ↓x_lc, ↓x_for, ↓x_diSeq, ↓x_diEnum, ↓x_rng1, ↓y_addi, ↓y_adds, ↓y_addt, ↓y_int, ↓y_intC, ↓y_is, ↓y_isn, ↓y_nnon, ↓y_nbl, ↓y_nint, ↓y_nstr, ↓y_ntup, ↓y_nref, ↓y_t0, ↓y_t1, ↓y_t2, ↓y_t3, ↓y_m2, ↓y_m3, ↓y_len0, ↓y_len1, ↓y_len2, ↓y_len3, ↓y_len, ↓y_lenS, ↓y_itt, ↓y_iss, ↓y_iii, ↓y_iib, ↓y_i1, ↓y_i1b, ↓y_abs, ↓y_strI, ↓y_slt, ↓y_sls, ↓y_tys, ↓y_gs0, ↓y_gs1, ↓y_gs2, ↓y_gs3, ↓y_gs4, ↓y_gs5, ↓y_gs6, ↓y_gs7, ↓bIn_2, ↓bNotIn_2, ↓bEq_int, ↓bNe_int, wipeD, List.map_cons, List.map_nil, List.set_cons_zero, List.set_cons_succ, Option.some.injEq, exists_and_left, exists_eq_left', exists_eq_left, decide_true, decide_false, Bool.false_eq_true, reduceIte, Bool.not_true, Bool.not_false, List.length_cons, List.length_nil, Nat.reduceAdd, Nat.zero_add, line16, Nat.reduceLeDiff, Int.reduceEq, Int.reduceLT, Int.reduceLE, Int.reduceNeg, or_true, true_or, or_self, or_false, false_or, true_and, and_true, and_self, List.cons_append, List.nil_append, List.append_nil, forall_const]
  refine ⟨a, g, 8, rfl, by omega, by omega, hD3, fun n8 M3 hn8 hD4 hK4 => ?_⟩
  simp only [↓x_seq, ↓x_next, ↓x_ret, ↓x_retN, ↓x_drop, ↓x_if, ↓x_asg, ↓x_false, ↓x_brk, ↓x_cnt, ↓x_g0, ↓x_v0, ↓x_g1, ↓x_v1, ↓x_g2, ↓x_v2, ↓x_g3, ↓x_v3, ↓x_g4, ↓x_v4, ↓x_g5, ↓x_v5, ↓x_g6, ↓x_v6, ↓x_g7, ↓x_v7, ↓x_g8, ↓x_v8, ↓x_g9, ↓x_v9, ↓x_g10, ↓x_v10, ↓x_g11, ↓x_v11, ↓x_g12, ↓x_v12, ↓x_g13, ↓x_v13, ↓x_g14, ↓x_v14, ↓x_g15, ↓x_v15, ↓x_g16, ↓x_v16, ↓x_g17, ↓x_v17, ↓x_g18, ↓x_v18, ↓x_g19, ↓x_v19, ↓x_gt2, ↓x_gt3, ↓x_gt4, ↓x_gt5, ↓x_gt6, ↓x_gc, ↓x_gn, ↓x_par2, ↓x_p2, ↓x_par3, ↓x_p3, ↓x_C, ↓x_op, ↓x_test, ↓x_chain, ↓x_andT, ↓x_orT, ↓x_notT, ↓x_ifE, ↓x_andV, ↓x_orV, ↓x_notV, ↓x_nil, ↓x_cons, ↓x_star, ↓x_tup, ↓x_lst, ↓x_callB, ↓x_call, ↓x_callK, ↓x_meth, ↓x_make, ↓x_fld, ↓x_fldS, ↓x_bm0, ↓x_bm, ↓x_sl, ↓x_nop, ↓x_prt, ↓x_neg, ↓x_revL, ↓x_lc, ↓x_for, ↓x_diSeq, ↓x_diEnum, ↓x_rng1, ↓y_addi, ↓y_adds, ↓y_addt, ↓y_int, ↓y_intC, ↓y_is, ↓y_isn, ↓y_nnon, ↓y_nbl, ↓y_nint, ↓y_nstr, ↓y_ntup, ↓y_nref, ↓y_t0, ↓y_t1, ↓y_t2, ↓y_t3, ↓y_m2, ↓y_m3, ↓y_len0, ↓y_len1, ↓y_len2, ↓y_len3, ↓y_len, ↓y_lenS, ↓y_itt, ↓y_iss, ↓y_iii, ↓y_iib, ↓y_i1, ↓y_i1b, ↓y_abs, ↓y_strI, ↓y_slt, ↓y_sls, ↓y_tys, ↓y_gs0, ↓y_gs1, ↓y_gs2, ↓y_gs3, ↓y_gs4, ↓y_gs5, ↓y_gs6, ↓y_gs7, ↓bIn_2, ↓bNotIn_2, ↓bEq_int, ↓bNe_int, wipeD, List.map_cons, List.map_nil, List.set_cons_zero, List.set_cons_succ, Option.some.injEq, exists_and_left, exists_eq_left', exists_eq_left, decide_true, decide_false, Bool.false_eq_true, reduceIte, Bool.not_true, Bool.not_false, List.length_cons, List.length_nil, Nat.reduceAdd, Nat.zero_add, line16, Nat.reduceLeDiff, Int.reduceEq, Int.reduceLT, Int.reduceLE, Int.reduceNeg, or_true, true_or, or_self, or_false, false_or, true_and, and_true, and_self, List.cons_append, List.nil_append, List.append_nil, forall_const]
  generalize hX : (2 + (if decide (((n4 : Nat) : Int) = 0) = true then (1 : Int) else 0) + (if decide (((n8 : Nat) : Int) = 0) = true then (1 : Int) else 0) : Int) = X
  have hX2 : 2 ≤ X ∧ X ≤ 4 := by rw [← hX]; split <;> split <;> omega
  refine ⟨by omega, by omega, ?_⟩
  have hK5 := hK2.trans (hK3.trans hK4)
  have hc3 : M3 c = some (.lst []) := hK4 _ _ hcn.1 hcn.2 (hK3 _ _ hcn.1 hcn.2 put_same)
  refine forG_A (List.range X.toNat) (fun i => .int (0 + ((i : Nat) : Int))) rfl (eiJ a g r c rooms left d M) ⟨[], none, none, none, none, s, rfl, rfl, rfl, by simp [cPss]; omega, hD4, hK5, hc3⟩ (fun _ _ _ _ => trivial) ?_ ?_
  · rintro i x σ M6 hx ⟨ls, s5, u6, u9, u10, s, rfl, hok, hli, hle, hD6, hK6, hc6⟩
    simp only [↓x_g9]
    refine seq_cut (fun σ M7 => σ = [some (.ref a), some (.ref r), some (.int ((left : Nat) : Int)), some (.int ((d : Nat) : Int)), some (.int ((s : Nat) : Int)), s5, some (.tup []), some (.int ((1 + cPss ls : Nat) : Int)), some (.ref c), some (.int (0 + ((x : Nat) : Int))), some (.int 0), none] ∧ M6 = M7) (fun N hN => ?_) ?_
    · simp only [↓x_seq, ↓x_next, ↓x_ret, ↓x_retN, ↓x_drop, ↓x_if, ↓x_asg, ↓x_false, ↓x_brk, ↓x_cnt, ↓x_g0, ↓x_v0, ↓x_g1, ↓x_v1, ↓x_g2, ↓x_v2, ↓x_g3, ↓x_v3, ↓x_g4, ↓x_v4, ↓x_g5, ↓x_v5, ↓x_g6, ↓x_v6, ↓x_g7, ↓x_v7, ↓x_g8, ↓x_v8, ↓x_g9, ↓x_v9, ↓x_g10, ↓x_v10, ↓x_g11, ↓x_v11, ↓x_g12, ↓x_v12, ↓x_g13, ↓x_v13, ↓x_g14, ↓x_v14, ↓x_g15, ↓x_v15, ↓x_g16, ↓x_v16, ↓x_g17, ↓x_v17, ↓x_g18, ↓x_v18, ↓x_g19, ↓x_v19, ↓x_gt2, ↓x_gt3, ↓x_gt4, ↓x_gt5, ↓x_gt6, ↓x_gc, ↓x_gn, ↓x_par2, ↓x_p2, ↓x_par3, ↓x_p3, ↓x_C, ↓x_op, ↓x_test, ↓x_chain, ↓x_andT, ↓x_orT, ↓x_notT, ↓x_ifE, ↓x_andV, ↓x_orV, ↓x_notV, ↓x_nil, ↓x_cons, ↓x_star, ↓x_tup, ↓x_lst, ↓x_callB, ↓x_call, ↓x_callK, ↓x_meth, ↓x_make, ↓x_fld, ↓x_fldS, ↓x_bm0, ↓x_bm, ↓x_sl, ↓x_nop, ↓x_prt, ↓x_neg, ↓x_revL, ↓x_lc, ↓x_for, ↓x_diSeq, ↓x_diEnum, ↓x_rng1, ↓y_addi, ↓y_adds, ↓y_addt, ↓y_int, ↓y_intC, ↓y_is, ↓y_isn, ↓y_nnon, ↓y_nbl, ↓y_nint, ↓y_nstr, ↓y_ntup, ↓y_nref, ↓y_t0, ↓y_t1, ↓y_t2, ↓y_t3, ↓y_m2, ↓y_m3, ↓y_len0, ↓y_len1, ↓y_len2, ↓y_len3, ↓y_len, ↓y_lenS, ↓y_itt, ↓y_iss, ↓y_iii, ↓y_iib, ↓y_i1, ↓y_i1b, ↓y_abs, ↓y_strI, ↓y_slt, ↓y_sls, ↓y_tys, ↓y_gs0, ↓y_gs1, ↓y_gs2, ↓y_gs3, ↓y_gs4, ↓y_gs5, ↓y_gs6, ↓y_gs7, ↓bIn_2, ↓bNotIn_2, ↓bEq_int, ↓bNe_int, wipeD, List.map_cons, List.map_nil, List.set_cons_zero, List.set_cons_succ, Option.some.injEq, exists_and_left, exists_eq_left', exists_eq_left, decide_true, decide_false, Bool.false_eq_true, reduceIte, Bool.not_true, Bool.not_false, List.length_cons, List.length_nil, Nat.reduceAdd, Nat.zero_add, line16, Nat.reduceLeDiff, Int.reduceEq, Int.reduceLT, Int.reduceLE, Int.reduceNeg, or_true, true_or, or_self, or_false, false_or, true_and, and_true, and_self, List.cons_append, List.nil_append, List.append_nil, forall_const]
      exact hN _ _ ⟨rfl, rfl⟩
    rintro σ M7 ⟨rfl, rfl⟩
    have hi4 : i < 4 := by
      have := (List.getElem?_eq_some_iff.mp hx).1
      rw [List.length_range] at this; omega
    -- own, more
    refine seq_cut (fun σ M7 => ∃ (own : List Part) (u9 : Option D), σ = [some (.ref a), some (.ref r), some (.int ((left : Nat) : Int)), some (.int ((d : Nat) : Int)), some (.int ((s : Nat) : Int)), s5, some (.tup (pDs own)), some (.int ((1 + cPss ls : Nat) : Int)), some (.ref c), u9, some (.int ((cPs own : Nat) : Int)), none] ∧ okPs own = true ∧ 1 + cPss ls + cPs own ≤ left ∧ Dk a g M7 ∧ Kp a g M M7 ∧ M7 c = some (.lst (ls.map fun l => .tup (pDs l)))) (fun N hN => ?_) ?_
    · have no : ∀ M7 u9, Dk a g M7 → Kp a g M6 M7 → N [some (.ref a), some (.ref r), some (.int ((left : Nat) : Int)), some (.int ((d : Nat) : Int)), some (.int ((s : Nat) : Int)), s5, some (.tup []), some (.int ((1 + cPss ls : Nat) : Int)), some (.ref c), u9, some (.int 0), none] M7 := fun M7 u9 h1 h2 =>
        hN _ _ ⟨[], u9, by simp [pDs, cPs], rfl, by simp [cPs]; exact hle, h1, hK6.trans h2, h2 _ _ hcn.1 hcn.2 hc6⟩
      have yes : ∀ M7 u9, Dk a g M7 → Kp a g M6 M7 → 0 < d → 1 + cPss ls < left → (0 < d ∧ sp_lparts (d - 1) [.ref a, .ref r, .int (((left : Nat) : Int) - ((1 + cPss ls : Nat) : Int)), .int (((d : Nat) : Int) - 1)] M7 (fun d1 M1 => dgTup 2 (dgCons (dgName 6) (dgCons (dgName 10) dgNil)) d1 [some (.ref a), some (.ref r), some (.int ((left : Nat) : Int)), some (.int ((d : Nat) : Int)), some (.int ((s : Nat) : Int)), s5, some (.tup []), some (.int ((1 + cPss ls : Nat) : Int)), some (.ref c), u9, some (.int 0), none] M1 N) dE0) := fun M7 u9 h1 h2 hd hlt => by
        refine ⟨hd, a, g, r, rooms, left - (1 + cPss ls), ?_, by omega, by omega, hR.kp (hK6.trans h2), h1, fun ps M8 hok8 hne8 hle8 hD8 hK8 => ?_⟩
        · rw [show (((left - (1 + cPss ls) : Nat) : Nat) : Int) = ((left : Nat) : Int) - ((1 + cPss ls : Nat) : Int) by omega, show (((d - 1 : Nat) : Nat) : Int) = ((d : Nat) : Int) - 1 by omega]
        · simp only [↓x_seq, ↓x_next, ↓x_ret, ↓x_retN, ↓x_drop, ↓x_if, ↓x_asg, ↓x_false, ↓x_brk, ↓x_cnt, ↓x_g0, ↓x_v0, ↓x_g1, ↓x_v1, ↓x_g2, ↓x_v2, ↓x_g3, ↓x_v3, ↓x_g4, ↓x_v4, ↓x_g5, ↓x_v5, ↓x_g6, ↓x_v6, ↓x_g7, ↓x_v7, ↓x_g8, ↓x_v8, ↓x_g9, ↓x_v9, ↓x_g10, ↓x_v10, ↓x_g11, ↓x_v11, ↓x_g12, ↓x_v12, ↓x_g13, ↓x_v13, ↓x_g14, ↓x_v14, ↓x_g15, ↓x_v15, ↓x_g16, ↓x_v16, ↓x_g17, ↓x_v17, ↓x_g18, ↓x_v18, ↓x_g19, ↓x_v19, ↓x_gt2, ↓x_gt3, ↓x_gt4, ↓x_gt5, ↓x_gt6, ↓x_gc, ↓x_gn, ↓x_par2, ↓x_p2, ↓x_par3, ↓x_p3, ↓x_C, ↓x_op, ↓x_test, ↓x_chain, ↓x_andT, ↓x_orT, ↓x_notT, ↓x_ifE, ↓x_andV, ↓x_orV, ↓x_notV, ↓x_nil, ↓x_cons, ↓x_star, ↓x_tup, ↓x_lst, ↓x_callB, ↓x_call, ↓x_callK, ↓x_meth, ↓x_make, ↓x_fld, ↓x_fldS, ↓x_bm0, ↓x_bm, ↓x_sl, ↓x_nop, ↓x_prt, ↓x_neg, ↓x_revL, ↓x_lc, ↓x_for, ↓x_diSeq, ↓x_diEnum, ↓x_rng1, ↓y_addi, ↓y_adds, ↓y_addt, ↓y_int, ↓y_intC, ↓y_is, ↓y_isn, ↓y_nnon, ↓y_nbl, ↓y_nint, ↓y_nstr, ↓y_ntup, ↓y_nref, ↓y_t0, ↓y_t1, ↓y_t2, ↓y_t3, ↓y_m2, ↓y_m3, ↓y_len0, ↓y_len1, ↓y_len2, ↓y_len3, ↓y_len, ↓y_lenS, ↓y_itt, ↓y_iss, ↓y_iii, ↓y_iib, ↓y_i1, ↓y_i1b, ↓y_abs, ↓y_strI, ↓y_slt, ↓y_sls, ↓y_tys, ↓y_gs0, ↓y_gs1, ↓y_gs2, ↓y_gs3, ↓y_gs4, ↓y_gs5, ↓y_gs6, ↓y_gs7, ↓bIn_2, ↓bNotIn_2, ↓bEq_int, ↓bNe_int, wipeD, List.map_cons, List.map_nil, List.set_cons_zero, List.set_cons_succ, Option.some.injEq, exists_and_left, exists_eq_left', exists_eq_left, decide_true, decide_false, Bool.false_eq_true, reduceIte, Bool.not_true, Bool.not_false, List.length_cons, List.length_nil, Nat.reduceAdd, Nat.zero_add, line16, Nat.reduceLeDiff, Int.reduceEq, Int.reduceLT, Int.reduceLE, Int.reduceNeg, or_true, true_or, or_self, or_false, false_or, true_and, and_true, and_self, List.cons_append, List.nil_append, List.append_nil, forall_const]
          exact hN _ _ ⟨ps, u9, rfl, hok8, by omega, hD8, (hK6.trans h2).trans hK8, hK8 _ _ hcn.1 hcn.2 (h2 _ _ hcn.1 hcn.2 hc6)⟩
      by_cases hlt : ((1 + cPss ls : Nat) : Int) < ((left : Nat) : Int)
      · simp only [↓x_seq, ↓x_next, ↓x_ret, ↓x_retN, ↓x_drop, ↓x_if, ↓x_asg, ↓x_false, ↓x_brk, ↓x_cnt, ↓x_g0, ↓x_v0, ↓x_g1, ↓x_v1, ↓x_g2, ↓x_v2, ↓x_g3, ↓x_v3, ↓x_g4, ↓x_v4, ↓x_g5, ↓x_v5, ↓x_g6, ↓x_v6, ↓x_g7, ↓x_v7, ↓x_g8, ↓x_v8, ↓x_g9, ↓x_v9, ↓x_g10, ↓x_v10, ↓x_g11, ↓x_v11, ↓x_g12, ↓x_v12, ↓x_g13, ↓x_v13, ↓x_g14, ↓x_v14, ↓x_g15, ↓x_v15, ↓x_g16, ↓x_v16, ↓x_g17, ↓x_v17, ↓x_g18, ↓x_v18, ↓x_g19, ↓x_v19, ↓x_gt2, ↓x_gt3, ↓x_gt4, ↓x_gt5, ↓x_gt6, ↓x_gc, ↓x_gn, ↓x_par2, ↓x_p2, ↓x_par3, ↓x_p3, ↓x_C, ↓x_op, ↓x_test, ↓x_chain, ↓x_andT, ↓x_orT, ↓x_notT, ↓x_ifE, ↓x_andV, ↓x_orV, ↓x_notV, ↓x_nil, ↓x_cons, ↓x_star, ↓x_tup, ↓x_lst, ↓x_callB, ↓x_call, ↓x_callK, ↓x_meth, ↓x_make, ↓x_fld, ↓x_fldS, ↓x_bm0, ↓x_bm, ↓x_sl, ↓x_nop, ↓x_prt, ↓x_neg, ↓x_revL, ↓x_lc, ↓x_for, ↓x_diSeq, ↓x_diEnum, ↓x_rng1, ↓y_addi, ↓y_adds, ↓y_addt, ↓y_int, ↓y_intC, ↓y_is, ↓y_isn, ↓y_nnon, ↓y_nbl, ↓y_nint, ↓y_nstr, ↓y_ntup, ↓y_nref, ↓y_t0, ↓y_t1, ↓y_t2, ↓y_t3, ↓y_m2, ↓y_m3, ↓y_len0, ↓y_len1, ↓y_len2, ↓y_len3, ↓y_len, ↓y_lenS, ↓y_itt, ↓y_iss, ↓y_iii, ↓y_iib, ↓y_i1, ↓y_i1b, ↓y_abs, ↓y_strI, ↓y_slt, ↓y_sls, ↓y_tys, ↓y_gs0, ↓y_gs1, ↓y_gs2, ↓y_gs3, ↓y_gs4, ↓y_gs5, ↓y_gs6, ↓y_gs7, ↓bIn_2, ↓bNotIn_2, ↓bEq_int, ↓bNe_int, wipeD, List.map_cons, List.map_nil, List.set_cons_zero, List.set_cons_succ, Option.some.injEq, exists_and_left, exists_eq_left', exists_eq_left, decide_true, decide_false, Bool.false_eq_true, reduceIte, Bool.not_true, Bool.not_false, List.length_cons, List.length_nil, Nat.reduceAdd, Nat.zero_add, line16, Nat.reduceLeDiff, Int.reduceEq, Int.reduceLT, Int.reduceLE, Int.reduceNeg, or_true, true_or, or_self, or_false, false_or, true_and, and_true, and_self, List.cons_append, List.nil_append, List.append_nil, forall_const, hlt]
        refine ⟨a, g, 4, rfl, by omega, by omega, hD6, fun n5 M7 hn5 hD7 hK7 => ?_⟩
        have tail : ∀ Z : Prop, Z → Z := fun _ h => h
        by_cases h5 : (0 : Int) < ((n5 : Nat) : Int)
        · simp only [↓x_seq, ↓x_next, ↓x_ret, ↓x_retN, ↓x_drop, ↓x_if, ↓x_asg, ↓x_false, ↓x_brk, ↓x_cnt, ↓x_g0, ↓x_v0, ↓x_g1, ↓x_v1, ↓x_g2, ↓x_v2, ↓x_g3, ↓x_v3, ↓x_g4, ↓x_v4, ↓x_g5, ↓x_v5, ↓x_g6, ↓x_v6, ↓x_g7, ↓x_v7, ↓x_g8, ↓x_v8, ↓x_g9, ↓x_v9, ↓x_g10, ↓x_v10, ↓x_g11, ↓x_v11, ↓x_g12, ↓x_v12, ↓x_g13, ↓x_v13, ↓x_g14, ↓x_v14, ↓x_g15, ↓x_v15, ↓x_g16, ↓x_v16, ↓x_g17, ↓x_v17, ↓x_g18, ↓x_v18, ↓x_g19, ↓x_v19, ↓x_gt2, ↓x_gt3, ↓x_gt4, ↓x_gt5, ↓x_gt6, ↓x_gc, ↓x_gn, ↓x_par2, ↓x_p2, ↓x_par3, ↓x_p3, ↓x_C, ↓x_op, ↓x_test, ↓x_chain, ↓x_andT, ↓x_orT, ↓x_notT, ↓x_ifE, ↓x_andV, ↓x_orV, ↓x_notV, ↓x_nil, ↓x_cons, ↓x_star, ↓x_tup, ↓x_lst, ↓x_callB, ↓x_call, ↓x_callK, ↓x_meth, ↓x_make, ↓x_fld, ↓x_fldS, ↓x_bm0, ↓x_bm, ↓x_sl, ↓x_nop, ↓x_prt, ↓x_neg, ↓x_revL, ↓x_lc, ↓x_for, ↓x_diSeq, ↓x_diEnum, ↓x_rng1, ↓y_addi, ↓y_adds, ↓y_addt, ↓y_int, ↓y_intC, ↓y_is, ↓y_isn, ↓y_nnon, ↓y_nbl, ↓y_nint, ↓y_nstr, ↓y_ntup, ↓y_nref, ↓y_t0, ↓y_t1, ↓y_t2, ↓y_t3, ↓y_m2, ↓y_m3, ↓y_len0, ↓y_len1, ↓y_len2, ↓y_len3, ↓y_len, ↓y_lenS, ↓y_itt, ↓y_iss, ↓y_iii, ↓y_iib, ↓y_i1, ↓y_i1b, ↓y_abs, ↓y_strI, ↓y_slt, ↓y_sls, ↓y_tys, ↓y_gs0, ↓y_gs1, ↓y_gs2, ↓y_gs3, ↓y_gs4, ↓y_gs5, ↓y_gs6, ↓y_gs7, ↓bIn_2, ↓bNotIn_2, ↓bEq_int, ↓bNe_int, wipeD, List.map_cons, List.map_nil, List.set_cons_zero, List.set_cons_succ, Option.some.injEq, exists_and_left, exists_eq_left', exists_eq_left, decide_true, decide_false, Bool.false_eq_true, reduceIte, Bool.not_true, Bool.not_false, List.length_cons, List.length_nil, Nat.reduceAdd, Nat.zero_add, line16, Nat.reduceLeDiff, Int.reduceEq, Int.reduceLT, Int.reduceLE, Int.reduceNeg, or_true, true_or, or_self, or_false, false_or, true_and, and_true, and_self, List.cons_append, List.nil_append, List.append_nil, forall_const, h5]
          intro e he
          rw [y_bNeR (hR.kp (hK6.trans hK7)) he]
          have hD8 := hD7.kp_new (o := .lst []) he
          have hK8 : Kp a g M6 (put M7 e (.lst [])) := hK7.new2 he
          cases hrm : rooms.isEmpty with
          | true => simp only [↓x_seq, ↓x_next, ↓x_ret, ↓x_retN, ↓x_drop, ↓x_if, ↓x_asg, ↓x_false, ↓x_brk, ↓x_cnt, ↓x_g0, ↓x_v0, ↓x_g1, ↓x_v1, ↓x_g2, ↓x_v2, ↓x_g3, ↓x_v3, ↓x_g4, ↓x_v4, ↓x_g5, ↓x_v5, ↓x_g6, ↓x_v6, ↓x_g7, ↓x_v7, ↓x_g8, ↓x_v8, ↓x_g9, ↓x_v9, ↓x_g10, ↓x_v10, ↓x_g11, ↓x_v11, ↓x_g12, ↓x_v12, ↓x_g13, ↓x_v13, ↓x_g14, ↓x_v14, ↓x_g15, ↓x_v15, ↓x_g16, ↓x_v16, ↓x_g17, ↓x_v17, ↓x_g18, ↓x_v18, ↓x_g19, ↓x_v19, ↓x_gt2, ↓x_gt3, ↓x_gt4, ↓x_gt5, ↓x_gt6, ↓x_gc, ↓x_gn, ↓x_par2, ↓x_p2, ↓x_par3, ↓x_p3, ↓x_C, ↓x_op, ↓x_test, ↓x_chain, ↓x_andT, ↓x_orT, ↓x_notT, ↓x_ifE, ↓x_andV, ↓x_orV, ↓x_notV, ↓x_nil, ↓x_cons, ↓x_star, ↓x_tup, ↓x_lst, ↓x_callB, ↓x_call, ↓x_callK, ↓x_meth, ↓x_make, ↓x_fld, ↓x_fldS, ↓x_bm0, ↓x_bm, ↓x_sl, ↓x_nop, ↓x_prt, ↓x_neg, ↓x_revL, ↓x_lc, ↓x_for, ↓x_diSeq, ↓x_diEnum, ↓x_rng1, ↓y_addi, ↓y_adds, ↓y_addt, ↓y_int, ↓y_intC, ↓y_is, ↓y_isn, ↓y_nnon, ↓y_nbl, ↓y_nint, ↓y_nstr, ↓y_ntup, ↓y_nref, ↓y_t0, ↓y_t1, ↓y_t2, ↓y_t3, ↓y_m2, ↓y_m3, ↓y_len0, ↓y_len1, ↓y_len2, ↓y_len3, ↓y_len, ↓y_lenS, ↓y_itt, ↓y_iss, ↓y_iii, ↓y_iib, ↓y_i1, ↓y_i1b, ↓y_abs, ↓y_strI, ↓y_slt, ↓y_sls, ↓y_tys, ↓y_gs0, ↓y_gs1, ↓y_gs2, ↓y_gs3, ↓y_gs4, ↓y_gs5, ↓y_gs6, ↓y_gs7, ↓bIn_2, ↓bNotIn_2, ↓bEq_int, ↓bNe_int, wipeD, List.map_cons, List.map_nil, List.set_cons_zero, List.set_cons_succ, Option.some.injEq, exists_and_left, exists_eq_left', exists_eq_left, decide_true, decide_false, Bool.false_eq_true, reduceIte, Bool.not_true, Bool.not_false, List.length_cons, List.length_nil, Nat.reduceAdd, Nat.zero_add, line16, Nat.reduceLeDiff, Int.reduceEq, Int.reduceLT, Int.reduceLE, Int.reduceNeg, or_true, true_or, or_self, or_false, false_or, true_and, and_true, and_self, List.cons_append, List.nil_append, List.append_nil, forall_const]; exact no _ _ hD8 hK8
          | false =>
            by_cases hd : (0 : Int) < ((d : Nat) : Int)
            · simp only [↓x_seq, ↓x_next, ↓x_ret, ↓x_retN, ↓x_drop, ↓x_if, ↓x_asg, ↓x_false, ↓x_brk, ↓x_cnt, ↓x_g0, ↓x_v0, ↓x_g1, ↓x_v1, ↓x_g2, ↓x_v2, ↓x_g3, ↓x_v3, ↓x_g4, ↓x_v4, ↓x_g5, ↓x_v5, ↓x_g6, ↓x_v6, ↓x_g7, ↓x_v7, ↓x_g8, ↓x_v8, ↓x_g9, ↓x_v9, ↓x_g10, ↓x_v10, ↓x_g11, ↓x_v11, ↓x_g12, ↓x_v12, ↓x_g13, ↓x_v13, ↓x_g14, ↓x_v14, ↓x_g15, ↓x_v15, ↓x_g16, ↓x_v16, ↓x_g17, ↓x_v17, ↓x_g18, ↓x_v18, ↓x_g19, ↓x_v19, ↓x_gt2, ↓x_gt3, ↓x_gt4, ↓x_gt5, ↓x_gt6, ↓x_gc, ↓x_gn, ↓x_par2, ↓x_p2, ↓x_par3, ↓x_p3, ↓x_C, ↓x_op, ↓x_test, ↓x_chain, ↓x_andT, ↓x_orT, ↓x_notT, ↓x_ifE, ↓x_andV, ↓x_orV, ↓x_notV, ↓x_nil, ↓x_cons, ↓x_star, ↓x_tup, ↓x_lst, ↓x_callB, ↓x_call, ↓x_callK, ↓x_meth, ↓x_make, ↓x_fld, ↓x_fldS, ↓x_bm0, ↓x_bm, ↓x_sl, ↓x_nop, ↓x_prt, ↓x_neg, ↓x_revL, ↓x_lc, ↓x_for, ↓x_diSeq, ↓x_diEnum, ↓x_rng1, ↓y_addi, ↓y_adds, ↓y_addt, ↓y_int, ↓y_intC, ↓y_is, ↓y_isn, ↓y_nnon, ↓y_nbl, ↓y_nint, ↓y_nstr, ↓y_ntup, ↓y_nref, ↓y_t0, ↓y_t1, ↓y_t2, ↓y_t3, ↓y_m2, ↓y_m3, ↓y_len0, ↓y_len1, ↓y_len2, ↓y_len3, ↓y_len, ↓y_lenS, ↓y_itt, ↓y_iss, ↓y_iii, ↓y_iib, ↓y_i1, ↓y_i1b, ↓y_abs, ↓y_strI, ↓y_slt, ↓y_sls, ↓y_tys, ↓y_gs0, ↓y_gs1, ↓y_gs2, ↓y_gs3, ↓y_gs4, ↓y_gs5, ↓y_gs6, ↓y_gs7, ↓bIn_2, ↓bNotIn_2, ↓bEq_int, ↓bNe_int, wipeD, List.map_cons, List.map_nil, List.set_cons_zero, List.set_cons_succ, Option.some.injEq, exists_and_left, exists_eq_left', exists_eq_left, decide_true, decide_false, Bool.false_eq_true, reduceIte, Bool.not_true, Bool.not_false, List.length_cons, List.length_nil, Nat.reduceAdd, Nat.zero_add, line16, Nat.reduceLeDiff, Int.reduceEq, Int.reduceLT, Int.reduceLE, Int.reduceNeg, or_true, true_or, or_self, or_false, false_or, true_and, and_true, and_self, List.cons_append, List.nil_append, List.append_nil, forall_const, hd]; exact yes _ _ hD8 hK8 (by omega) (by omega)
            · simp only [↓x_seq, ↓x_next, ↓x_ret, ↓x_retN, ↓x_drop, ↓x_if, ↓x_asg, ↓x_false, ↓x_brk, ↓x_cnt, ↓x_g0, ↓x_v0, ↓x_g1, ↓x_v1, ↓x_g2, ↓x_v2, ↓x_g3, ↓x_v3, ↓x_g4, ↓x_v4, ↓x_g5, ↓x_v5, ↓x_g6, ↓x_v6, ↓x_g7, ↓x_v7, ↓x_g8, ↓x_v8, ↓x_g9, ↓x_v9, ↓x_g10, ↓x_v10, ↓x_g11, ↓x_v11, ↓x_g12, ↓x_v12, ↓x_g13, ↓x_v13, ↓x_g14, ↓x_v14, ↓x_g15, ↓x_v15, ↓x_g16, ↓x_v16, ↓x_g17, ↓x_v17, ↓x_g18, ↓x_v18, ↓x_g19, ↓x_v19, ↓x_gt2, ↓x_gt3, ↓x_gt4, ↓x_gt5, ↓x_gt6, ↓x_gc, ↓x_gn, ↓x_par2, ↓x_p2, ↓x_par3, ↓x_p3, ↓x_C, ↓x_op, ↓x_test, ↓x_chain, ↓x_andT, ↓x_orT, ↓x_notT, ↓x_ifE, ↓x_andV, ↓x_orV, ↓x_notV, ↓x_nil, ↓x_cons, ↓x_star, ↓x_tup, ↓x_lst, ↓x_callB, ↓x_call, ↓x_callK, ↓x_meth, ↓x_make, ↓x_fld, ↓x_fldS, ↓x_bm0, ↓x_bm, ↓x_sl, ↓x_nop, ↓x_prt, ↓x_neg, ↓x_revL, ↓x_lc, ↓x_for, ↓x_diSeq, ↓x_diEnum, ↓x_rng1, ↓y_addi, ↓y_adds, ↓y_addt, ↓y_int, ↓y_intC, ↓y_is, ↓y_isn, ↓y_nnon, ↓y_nbl, ↓y_nint, ↓y_nstr, ↓y_ntup, ↓y_nref, ↓y_t0, ↓y_t1, ↓y_t2, ↓y_t3, ↓y_m2, ↓y_m3, ↓y_len0, ↓y_len1, ↓y_len2, ↓y_len3, ↓y_len, ↓y_lenS, ↓y_itt, ↓y_iss, ↓y_iii, ↓y_iib, ↓y_i1, ↓y_i1b, ↓y_abs, ↓y_strI, ↓y_slt, ↓y_sls, ↓y_tys, ↓y_gs0, ↓y_gs1, ↓y_gs2, ↓y_gs3, ↓y_gs4, ↓y_gs5, ↓y_gs6, ↓y_gs7, ↓bIn_2, ↓bNotIn_2, ↓bEq_int, ↓bNe_int, wipeD, List.map_cons, List.map_nil, List.set_cons_zero, List.set_cons_succ, Option.some.injEq, exists_and_left, exists_eq_left', exists_eq_left, decide_true, decide_false, Bool.false_eq_true, reduceIte, Bool.not_true, Bool.not_false, List.length_cons, List.length_nil, Nat.reduceAdd, Nat.zero_add, line16, Nat.reduceLeDiff, Int.reduceEq, Int.reduceLT, Int.reduceLE, Int.reduceNeg, or_true, true_or, or_self, or_false, false_or, true_and, and_true, and_self, List.cons_append, List.nil_append, List.append_nil, forall_const, hd]; exact no _ _ hD8 hK8
        · by_cases hx0 : (0 : Int) + ((x : Nat) : Int) = 0
          · simp only [↓x_seq, ↓x_next, ↓x_ret, ↓x_retN, ↓x_drop, ↓x_if, ↓x_asg, ↓x_false, ↓x_brk, ↓x_cnt, ↓x_g0, ↓x_v0, ↓x_g1, ↓x_v1, ↓x_g2, ↓x_v2, ↓x_g3, ↓x_v3, ↓x_g4, ↓x_v4, ↓x_g5, ↓x_v5, ↓x_g6, ↓x_v6, ↓x_g7, ↓x_v7, ↓x_g8, ↓x_v8, ↓x_g9, ↓x_v9, ↓x_g10, ↓x_v10, ↓x_g11, ↓x_v11, ↓x_g12, ↓x_v12, ↓x_g13, ↓x_v13, ↓x_g14, ↓x_v14, ↓x_g15, ↓x_v15, ↓x_g16, ↓x_v16, ↓x_g17, ↓x_v17, ↓x_g18, ↓x_v18, ↓x_g19, ↓x_v19, ↓x_gt2, ↓x_gt3, ↓x_gt4, ↓x_gt5, ↓x_gt6, ↓x_gc, ↓x_gn, ↓x_par2, ↓x_p2, ↓x_par3, ↓x_p3, ↓x_C, ↓x_op, ↓x_test, ↓x_chain, ↓x_andT, ↓x_orT, ↓x_notT, ↓x_ifE, ↓x_andV, ↓x_orV, ↓x_notV, ↓x_nil, ↓x_cons, ↓x_star, ↓x_tup, ↓x_lst, ↓x_callB, ↓x_call, ↓x_callK, ↓x_meth, ↓x_make, ↓x_fld, ↓x_fldS, ↓x_bm0, ↓x_bm, ↓x_sl, ↓x_nop, ↓x_prt, ↓x_neg, ↓x_revL, ↓x_lc, ↓x_for, ↓x_diSeq, ↓x_diEnum, ↓x_rng1, ↓y_addi, ↓y_adds, ↓y_addt, ↓y_int, ↓y_intC, ↓y_is, ↓y_isn, ↓y_nnon, ↓y_nbl, ↓y_nint, ↓y_nstr, ↓y_ntup, ↓y_nref, ↓y_t0, ↓y_t1, ↓y_t2, ↓y_t3, ↓y_m2, ↓y_m3, ↓y_len0, ↓y_len1, ↓y_len2, ↓y_len3, ↓y_len, ↓y_lenS, ↓y_itt, ↓y_iss, ↓y_iii, ↓y_iib, ↓y_i1, ↓y_i1b, ↓y_abs, ↓y_strI, ↓y_slt, ↓y_sls, ↓y_tys, ↓y_gs0, ↓y_gs1, ↓y_gs2, ↓y_gs3, ↓y_gs4, ↓y_gs5, ↓y_gs6, ↓y_gs7, ↓bIn_2, ↓bNotIn_2, ↓bEq_int, ↓bNe_int, wipeD, List.map_cons, List.map_nil, List.set_cons_zero, List.set_cons_succ, Option.some.injEq, exists_and_left, exists_eq_left', exists_eq_left, decide_true, decide_false, Bool.false_eq_true, reduceIte, Bool.not_true, Bool.not_false, List.length_cons, List.length_nil, Nat.reduceAdd, Nat.zero_add, line16, Nat.reduceLeDiff, Int.reduceEq, Int.reduceLT, Int.reduceLE, Int.reduceNeg, or_true, true_or, or_self, or_false, false_or, true_and, and_true, and_self, List.cons_append, List.nil_append, List.append_nil, forall_const, h5, hx0]
            intro e he
            rw [y_bNeR (hR.kp (hK6.trans hK7)) he]
            have hD8 := hD7.kp_new (o := .lst []) he
            have hK8 : Kp a g M6 (put M7 e (.lst [])) := hK7.new2 he
            cases hrm : rooms.isEmpty with
            | true => simp only [↓x_seq, ↓x_next, ↓x_ret, ↓x_retN, ↓x_drop, ↓x_if, ↓x_asg, ↓x_false, ↓x_brk, ↓x_cnt, ↓x_g0, ↓x_v0, ↓x_g1, ↓x_v1, ↓x_g2, ↓x_v2, ↓x_g3, ↓x_v3, ↓x_g4, ↓x_v4, ↓x_g5, ↓x_v5, ↓x_g6, ↓x_v6, ↓x_g7, ↓x_v7, ↓x_g8, ↓x_v8, ↓x_g9, ↓x_v9, ↓x_g10, ↓x_v10, ↓x_g11, ↓x_v11, ↓x_g12, ↓x_v12, ↓x_g13, ↓x_v13, ↓x_g14, ↓x_v14, ↓x_g15, ↓x_v15, ↓x_g16, ↓x_v16, ↓x_g17, ↓x_v17, ↓x_g18, ↓x_v18, ↓x_g19, ↓x_v19, ↓x_gt2, ↓x_gt3, ↓x_gt4, ↓x_gt5, ↓x_gt6, ↓x_gc, ↓x_gn, ↓x_par2, ↓x_p2, ↓x_par3, ↓x_p3, ↓x_C, ↓x_op, ↓x_test, ↓x_chain, ↓x_andT, ↓x_orT, ↓x_notT, ↓x_ifE, ↓x_andV, ↓x_orV, ↓x_notV, ↓x_nil, ↓x_cons, ↓x_star, ↓x_tup, ↓x_lst, ↓x_callB, ↓x_call, ↓x_callK, ↓x_meth, ↓x_make, ↓x_fld, ↓x_fldS, ↓x_bm0, ↓x_bm, ↓x_sl, ↓x_nop, ↓x_prt, ↓x_neg, ↓x_revL, ↓x_lc, ↓x_for, ↓x_diSeq, ↓x_diEnum, ↓x_rng1, ↓y_addi, ↓y_adds, ↓y_addt, ↓y_int, ↓y_intC, ↓y_is, ↓y_isn, ↓y_nnon, ↓y_nbl, ↓y_nint, ↓y_nstr, ↓y_ntup, ↓y_nref, ↓y_t0, ↓y_t1, ↓y_t2, ↓y_t3, ↓y_m2, ↓y_m3, ↓y_len0, ↓y_len1, ↓y_len2, ↓y_len3, ↓y_len, ↓y_lenS, ↓y_itt, ↓y_iss, ↓y_iii, ↓y_iib, ↓y_i1, ↓y_i1b, ↓y_abs, ↓y_strI, ↓y_slt, ↓y_sls, ↓y_tys, ↓y_gs0, ↓y_gs1, ↓y_gs2, ↓y_gs3, ↓y_gs4, ↓y_gs5, ↓y_gs6, ↓y_gs7, ↓bIn_2, ↓bNotIn_2, ↓bEq_int, ↓bNe_int, wipeD, List.map_cons, List.map_nil, List.set_cons_zero, List.set_cons_succ, Option.some.injEq, exists_and_left, exists_eq_left', exists_eq_left, decide_true, decide_false, Bool.false_eq_true, reduceIte, Bool.not_true, Bool.not_false, List.length_cons, List.length_nil, Nat.reduceAdd, Nat.zero_add, line16, Nat.reduceLeDiff, Int.reduceEq, Int.reduceLT, Int.reduceLE, Int.reduceNeg, or_true, true_or, or_self, or_false, false_or, true_and, and_true, and_self, List.cons_append, List.nil_append, List.append_nil, forall_const]; exact no _ _ hD8 hK8
            | false =>
              by_cases hd : (0 : Int) < ((d : Nat) : Int)
              · simp only [↓x_seq, ↓x_next, ↓x_ret, ↓x_retN, ↓x_drop, ↓x_if, ↓x_asg, ↓x_false, ↓x_brk, ↓x_cnt, ↓x_g0, ↓x_v0, ↓x_g1, ↓x_v1, ↓x_g2, ↓x_v2, ↓x_g3, ↓x_v3, ↓x_g4, ↓x_v4, ↓x_g5, ↓x_v5, ↓x_g6, ↓x_v6, ↓x_g7, ↓x_v7, ↓x_g8, ↓x_v8, ↓x_g9, ↓x_v9, ↓x_g10, ↓x_v10, ↓x_g11, ↓x_v11, ↓x_g12, ↓x_v12, ↓x_g13, ↓x_v13, ↓x_g14, ↓x_v14, ↓x_g15, ↓x_v15, ↓x_g16, ↓x_v16, ↓x_g17, ↓x_v17, ↓x_g18, ↓x_v18, ↓x_g19, ↓x_v19, ↓x_gt2, ↓x_gt3, ↓x_gt4, ↓x_gt5, ↓x_gt6, ↓x_gc, ↓x_gn, ↓x_par2, ↓x_p2, ↓x_par3, ↓x_p3, ↓x_C, ↓x_op, ↓x_test, ↓x_chain, ↓x_andT, ↓x_orT, ↓x_notT, ↓x_ifE, ↓x_andV, ↓x_orV, ↓x_notV, ↓x_nil, ↓x_cons, ↓x_star, ↓x_tup, ↓x_lst, ↓x_callB, ↓x_call, ↓x_callK, ↓x_meth, ↓x_make, ↓x_fld, ↓x_fldS, ↓x_bm0, ↓x_bm, ↓x_sl, ↓x_nop, ↓x_prt, ↓x_neg, ↓x_revL, ↓x_lc, ↓x_for, ↓x_diSeq, ↓x_diEnum, ↓x_rng1, ↓y_addi, ↓y_adds, ↓y_addt, ↓y_int, ↓y_intC, ↓y_is, ↓y_isn, ↓y_nnon, ↓y_nbl, ↓y_nint, ↓y_nstr, ↓y_ntup, ↓y_nref, ↓y_t0, ↓y_t1, ↓y_t2, ↓y_t3, ↓y_m2, ↓y_m3, ↓y_len0, ↓y_len1, ↓y_len2, ↓y_len3, ↓y_len, ↓y_lenS, ↓y_itt, ↓y_iss, ↓y_iii, ↓y_iib, ↓y_i1, ↓y_i1b, ↓y_abs, ↓y_strI, ↓y_slt, ↓y_sls, ↓y_tys, ↓y_gs0, ↓y_gs1, ↓y_gs2, ↓y_gs3, ↓y_gs4, ↓y_gs5, ↓y_gs6, ↓y_gs7, ↓bIn_2, ↓bNotIn_2, ↓bEq_int, ↓bNe_int, wipeD, List.map_cons, List.map_nil, List.set_cons_zero, List.set_cons_succ, Option.some.injEq, exists_and_left, exists_eq_left', exists_eq_left, decide_true, decide_false, Bool.false_eq_true, reduceIte, Bool.not_true, Bool.not_false, List.length_cons, List.length_nil, Nat.reduceAdd, Nat.zero_add, line16, Nat.reduceLeDiff, Int.reduceEq, Int.reduceLT, Int.reduceLE, Int.reduceNeg, or_true, true_or, or_self, or_false, false_or, true_and, and_true, and_self, List.cons_append, List.nil_append, List.append_nil, forall_const, hd]; exact yes _ _ hD8 hK8 (by omega) (by omega)
              · simp only [↓x_seq, ↓x_next, ↓x_ret, ↓x_retN, ↓x_drop, ↓x_if, ↓x_asg, ↓x_false, ↓x_brk, ↓x_cnt, ↓x_g0, ↓x_v0, ↓x_g1, ↓x_v1, ↓x_g2, ↓x_v2, ↓x_g3, ↓x_v3, ↓x_g4, ↓x_v4, ↓x_g5, ↓x_v5, ↓x_g6, ↓x_v6, ↓x_g7, ↓x_v7, ↓x_g8, ↓x_v8, ↓x_g9, ↓x_v9, ↓x_g10, ↓x_v10, ↓x_g11, ↓x_v11, ↓x_g12, ↓x_v12, ↓x_g13, ↓x_v13, ↓x_g14, ↓x_v14, ↓x_g15, ↓x_v15, ↓x_g16, ↓x_v16, ↓x_g17, ↓x_v17, ↓x_g18, ↓x_v18, ↓x_g19, ↓x_v19, ↓x_gt2, ↓x_gt3, ↓x_gt4, ↓x_gt5, ↓x_gt6, ↓x_gc, ↓x_gn, ↓x_par2, ↓x_p2, ↓x_par3, ↓x_p3, ↓x_C, ↓x_op, ↓x_test, ↓x_chain, ↓x_andT, ↓x_orT, ↓x_notT, ↓x_ifE, ↓x_andV, ↓x_orV, ↓x_notV, ↓x_nil, ↓x_cons, ↓x_star, ↓x_tup, ↓x_lst, ↓x_callB, ↓x_call, ↓x_callK, ↓x_meth, ↓x_make, ↓x_fld, ↓x_fldS, ↓x_bm0, ↓x_bm, ↓x_sl, ↓x_nop, ↓x_prt, ↓x_neg, ↓x_revL, ↓x_lc, ↓x_for, ↓x_diSeq, ↓x_diEnum, ↓x_rng1, ↓y_addi, ↓y_adds, ↓y_addt, ↓y_int, ↓y_intC, ↓y_is, ↓y_isn, ↓y_nnon, ↓y_nbl, ↓y_nint, ↓y_nstr, ↓y_ntup, ↓y_nref, ↓y_t0, ↓y_t1, ↓y_t2, ↓y_t3, ↓y_m2, ↓y_m3, ↓y_len0, ↓y_len1, ↓y_len2, ↓y_len3, ↓y_len, ↓y_lenS, ↓y_itt, ↓y_iss, ↓y_iii, ↓y_iib, ↓y_i1, ↓y_i1b, ↓y_abs, ↓y_strI, ↓y_slt, ↓y_sls, ↓y_tys, ↓y_gs0, ↓y_gs1, ↓y_gs2, ↓y_gs3, ↓y_gs4, ↓y_gs5, ↓y_gs6, ↓y_gs7, ↓bIn_2, ↓bNotIn_2, ↓bEq_int, ↓bNe_int, wipeD, List.map_cons, List.map_nil, List.set_cons_zero, List.set_cons_succ, Option.some.injEq, exists_and_left, exists_eq_left', exists_eq_left, decide_true, decide_false, Bool.false_eq_true, reduceIte, Bool.not_true, Bool.not_false, List.length_cons, List.length_nil, Nat.reduceAdd, Nat.zero_add, line16, Nat.reduceLeDiff, Int.reduceEq, Int.reduceLT, Int.reduceLE, Int.reduceNeg, or_true, true_or, or_self, or_false, false_or, true_and, and_true, and_self, List.cons_append, List.nil_append, List.append_nil, forall_const, hd]; exact no _ _ hD8 hK8
          · simp only [↓x_seq, ↓x_next, ↓x_ret, ↓x_retN, ↓x_drop, ↓x_if, ↓x_asg, ↓x_false, ↓x_brk, ↓x_cnt, ↓x_g0, ↓x_v0, ↓x_g1, ↓x_v1, ↓x_g2, ↓x_v2, ↓x_g3, ↓x_v3, ↓x_g4, ↓x_v4, ↓x_g5, ↓x_v5, ↓x_g6, ↓x_v6, ↓x_g7, ↓x_v7, ↓x_g8, ↓x_v8, ↓x_g9, ↓x_v9, ↓x_g10, ↓x_v10, ↓x_g11, ↓x_v11, ↓x_g12, ↓x_v12, ↓x_g13, ↓x_v13, ↓x_g14, ↓x_v14, ↓x_g15, ↓x_v15, ↓x_g16, ↓x_v16, ↓x_g17, ↓x_v17, ↓x_g18, ↓x_v18, ↓x_g19, ↓x_v19, ↓x_gt2, ↓x_gt3, ↓x_gt4, ↓x_gt5, ↓x_gt6, ↓x_gc, ↓x_gn, ↓x_par2, ↓x_p2, ↓x_par3, ↓x_p3, ↓x_C, ↓x_op, ↓x_test, ↓x_chain, ↓x_andT, ↓x_orT, ↓x_notT, ↓x_ifE, ↓x_andV, ↓x_orV, ↓x_notV, ↓x_nil, ↓x_cons, ↓x_star, ↓x_tup, ↓x_lst, ↓x_callB, ↓x_call, ↓x_callK, ↓x_meth, ↓x_make, ↓x_fld, ↓x_fldS, ↓x_bm0, ↓x_bm, ↓x_sl, ↓x_nop, ↓x_prt, ↓x_neg, ↓x_revL, ↓x_lc, ↓x_for, ↓x_diSeq, ↓x_diEnum, ↓x_rng1, ↓y_addi, ↓y_adds, ↓y_addt, ↓y_int, ↓y_intC, ↓y_is, ↓y_isn, ↓y_nnon, ↓y_nbl, ↓y_nint, ↓y_nstr, ↓y_ntup, ↓y_nref, ↓y_t0, ↓y_t1, ↓y_t2, ↓y_t3, ↓y_m2, ↓y_m3, ↓y_len0, ↓y_len1, ↓y_len2, ↓y_len3, ↓y_len, ↓y_lenS, ↓y_itt, ↓y_iss, ↓y_iii, ↓y_iib, ↓y_i1, ↓y_i1b, ↓y_abs, ↓y_strI, ↓y_slt, ↓y_sls, ↓y_tys, ↓y_gs0, ↓y_gs1, ↓y_gs2, ↓y_gs3, ↓y_gs4, ↓y_gs5, ↓y_gs6, ↓y_gs7, ↓bIn_2, ↓bNotIn_2, ↓bEq_int, ↓bNe_int, wipeD, List.map_cons, List.map_nil, List.set_cons_zero, List.set_cons_succ, Option.some.injEq, exists_and_left, exists_eq_left', exists_eq_left, decide_true, decide_false, Bool.false_eq_true, reduceIte, Bool.not_true, Bool.not_false, List.length_cons, List.length_nil, Nat.reduceAdd, Nat.zero_add, line16, Nat.reduceLeDiff, Int.reduceEq, Int.reduceLT, Int.reduceLE, Int.reduceNeg, or_true, true_or, or_self, or_false, false_or, true_and, and_true, and_self, List.cons_append, List.nil_append, List.append_nil, forall_const, h5, hx0]
            exact no _ _ hD7 hK7
      · simp only [↓x_seq, ↓x_next, ↓x_ret, ↓x_retN, ↓x_drop, ↓x_if, ↓x_asg, ↓x_false, ↓x_brk, ↓x_cnt, ↓x_g0, ↓x_v0, ↓x_g1, ↓x_v1, ↓x_g2, ↓x_v2, ↓x_g3, ↓x_v3, ↓x_g4, ↓x_v4, ↓x_g5, ↓x_v5, ↓x_g6, ↓x_v6, ↓x_g7, ↓x_v7, ↓x_g8, ↓x_v8, ↓x_g9, ↓x_v9, ↓x_g10, ↓x_v10, ↓x_g11, ↓x_v11, ↓x_g12, ↓x_v12, ↓x_g13, ↓x_v13, ↓x_g14, ↓x_v14, ↓x_g15, ↓x_v15, ↓x_g16, ↓x_v16, ↓x_g17, ↓x_v17, ↓x_g18, ↓x_v18, ↓x_g19, ↓x_v19, ↓x_gt2, ↓x_gt3, ↓x_gt4, ↓x_gt5, ↓x_gt6, ↓x_gc, ↓x_gn, ↓x_par2, ↓x_p2, ↓x_par3, ↓x_p3, ↓x_C, ↓x_op, ↓x_test, ↓x_chain, ↓x_andT, ↓x_orT, ↓x_notT, ↓x_ifE, ↓x_andV, ↓x_orV, ↓x_notV, ↓x_nil, ↓x_cons, ↓x_star, ↓x_tup, ↓x_lst, ↓x_callB, ↓x_call, ↓x_callK, ↓x_meth, ↓x_make, ↓x_fld, ↓x_fldS, ↓x_bm0, ↓x_bm, ↓x_sl, ↓x_nop, ↓x_prt, ↓x_neg, ↓x_revL, ↓x_lc, ↓x_for, ↓x_diSeq, ↓x_diEnum, ↓x_rng1, ↓y_addi, ↓y_adds, ↓y_addt, ↓y_int, ↓y_intC, ↓y_is, ↓y_isn, ↓y_nnon, ↓y_nbl, ↓y_nint, ↓y_nstr, ↓y_ntup, ↓y_nref, ↓y_t0, ↓y_t1, ↓y_t2, ↓y_t3, ↓y_m2, ↓y_m3, ↓y_len0, ↓y_len1, ↓y_len2, ↓y_len3, ↓y_len, ↓y_lenS, ↓y_itt, ↓y_iss, ↓y_iii, ↓y_iib, ↓y_i1, ↓y_i1b, ↓y_abs, ↓y_strI, ↓y_slt, ↓y_sls, ↓y_tys, ↓y_gs0, ↓y_gs1, ↓y_gs2, ↓y_gs3, ↓y_gs4, ↓y_gs5, ↓y_gs6, ↓y_gs7, ↓bIn_2, ↓bNotIn_2, ↓bEq_int, ↓bNe_int, wipeD, List.map_cons, List.map_nil, List.set_cons_zero, List.set_cons_succ, Option.some.injEq, exists_and_left, exists_eq_left', exists_eq_left, decide_true, decide_false, Bool.false_eq_true, reduceIte, Bool.not_true, Bool.not_false, List.length_cons, List.length_nil, Nat.reduceAdd, Nat.zero_add, line16, Nat.reduceLeDiff, Int.reduceEq, Int.reduceLT, Int.reduceLE, Int.reduceNeg, or_true, true_or, or_self, or_false, false_or, true_and, and_true, and_self, List.cons_append, List.nil_append, List.append_nil, forall_const, hlt]
        exact no _ _ hD6 Kp.refl
    rintro σ M8 ⟨own, v9, rfl, hoko, hle7, hD7, hK7, hc7⟩
    simp only [↓y_app hc7, ↓y_tyl hc7, ↓x_seq, ↓x_next, ↓x_ret, ↓x_retN, ↓x_drop, ↓x_if, ↓x_asg, ↓x_false, ↓x_brk, ↓x_cnt, ↓x_g0, ↓x_v0, ↓x_g1, ↓x_v1, ↓x_g2, ↓x_v2, ↓x_g3, ↓x_v3, ↓x_g4, ↓x_v4, ↓x_g5, ↓x_v5, ↓x_g6, ↓x_v6, ↓x_g7, ↓x_v7, ↓x_g8, ↓x_v8, ↓x_g9, ↓x_v9, ↓x_g10, ↓x_v10, ↓x_g11, ↓x_v11, ↓x_g12, ↓x_v12, ↓x_g13, ↓x_v13, ↓x_g14, ↓x_v14, ↓x_g15, ↓x_v15, ↓x_g16, ↓x_v16, ↓x_g17, ↓x_v17, ↓x_g18, ↓x_v18, ↓x_g19, ↓x_v19, ↓x_gt2, ↓x_gt3, ↓x_gt4, ↓x_gt5, ↓x_gt6, ↓x_gc, ↓x_gn, ↓x_par2, ↓x_p2, ↓x_par3, ↓x_p3, ↓x_C, ↓x_op, ↓x_test, ↓x_chain, ↓x_andT, ↓x_orT, ↓x_notT, ↓x_ifE, ↓x_andV, ↓x_orV, ↓x_notV, ↓x_nil, ↓x_cons, ↓x_star, ↓x_tup, ↓x_lst, ↓x_callB, ↓x_call, ↓x_callK, ↓x_meth, ↓x_make, ↓x_fld, ↓x_fldS, ↓x_bm0, ↓x_bm, ↓x_sl, ↓x_nop, ↓x_prt, ↓x_neg, ↓x_revL, ↓x_lc, ↓x_for, ↓x_diSeq, ↓x_diEnum, ↓x_rng1, ↓y_addi, ↓y_adds, ↓y_addt, ↓y_int, ↓y_intC, ↓y_is, ↓y_isn, ↓y_nnon, ↓y_nbl, ↓y_nint, ↓y_nstr, ↓y_ntup, ↓y_nref, ↓y_t0, ↓y_t1, ↓y_t2, ↓y_t3, ↓y_m2, ↓y_m3, ↓y_len0, ↓y_len1, ↓y_len2, ↓y_len3, ↓y_len, ↓y_lenS, ↓y_itt, ↓y_iss, ↓y_iii, ↓y_iib, ↓y_i1, ↓y_i1b, ↓y_abs, ↓y_strI, ↓y_slt, ↓y_sls, ↓y_tys, ↓y_gs0, ↓y_gs1, ↓y_gs2, ↓y_gs3, ↓y_gs4, ↓y_gs5, ↓y_gs6, ↓y_gs7, ↓bIn_2, ↓bNotIn_2, ↓bEq_int, ↓bNe_int, wipeD, List.map_cons, List.map_nil, List.set_cons_zero, List.set_cons_succ, Option.some.injEq, exists_and_left, exists_eq_left', exists_eq_left, decide_true, decide_false, Bool.false_eq_true, reduceIte, Bool.not_true, Bool.not_false, List.length_cons, List.length_nil, Nat.reduceAdd, Nat.zero_add, line16, Nat.reduceLeDiff, Int.reduceEq, Int.reduceLT, Int.reduceLE, Int.reduceNeg, or_true, true_or, or_self, or_false, false_or, true_and, and_true, and_self, List.cons_append, List.nil_append, List.append_nil, forall_const, List.length_map]
    refine ⟨by omega, ls ++ [own], s5, some (.tup (pDs own)), v9, some (.int ((cPs own : Nat) : Int)), s, ?_, ?_, by simp [hli], ?_, hD7.put hcn.1 hcn.2, ?_, ?_⟩
    · rw [cPss_app, show ((1 + (cPss ls + cPss [own]) : Nat) : Int) = ((1 + cPss ls : Nat) : Int) + ((cPs own : Nat) : Int) by simp [cPss]; omega]
    · rw [okPss_iff]; intro l hl
      rcases List.mem_append.mp hl with z | z
      · exact (okPss_iff ls).mp hok l z
      · rw [List.mem_singleton.mp z]; exact hoko
    · rw [cPss_app]; simp [cPss]; omega
    · have hcM : M c = none := by
        cases hq : M c with
        | none => rfl
        | some o => rw [hK1 _ _ hcn.1 hcn.2 hq] at hc; cases hc
      exact fun b o e1 e2 z => (put_ne (ne_of z hcM)).trans (hK7 b o e1 e2 z)
    · rw [put_same]; simp
  · rintro σ M6 ⟨ls, s5, u6, u9, u10, s, rfl, hok, hli, hle, hD6, hK6, hc6⟩
    simp only [↓x_seq, ↓x_next, ↓x_ret, ↓x_retN, ↓x_drop, ↓x_if, ↓x_asg, ↓x_false, ↓x_brk, ↓x_cnt, ↓x_g0, ↓x_v0, ↓x_g1, ↓x_v1, ↓x_g2, ↓x_v2, ↓x_g3, ↓x_v3, ↓x_g4, ↓x_v4, ↓x_g5, ↓x_v5, ↓x_g6, ↓x_v6, ↓x_g7, ↓x_v7, ↓x_g8, ↓x_v8, ↓x_g9, ↓x_v9, ↓x_g10, ↓x_v10, ↓x_g11, ↓x_v11, ↓x_g12, ↓x_v12, ↓x_g13, ↓x_v13, ↓x_g14, ↓x_v14, ↓x_g15, ↓x_v15, ↓x_g16, ↓x_v16, ↓x_g17, ↓x_v17, ↓x_g18, ↓x_v18, ↓x_g19, ↓x_v19, ↓x_gt2, ↓x_gt3, ↓x_gt4, ↓x_gt5, ↓x_gt6, ↓x_gc, ↓x_gn, ↓x_par2, ↓x_p2, ↓x_par3, ↓x_p3, ↓x_C, ↓x_op, ↓x_test, ↓x_chain, ↓x_andT, ↓x_orT, ↓x_notT, ↓x_ifE, ↓x_andV, ↓x_orV, ↓x_notV, ↓x_nil, ↓x_cons, ↓x_star, ↓x_tup, ↓x_lst, ↓x_callB, ↓x_call, ↓x_callK, ↓x_meth, ↓x_make, ↓x_fld, ↓x_fldS, ↓x_bm0, ↓x_bm, ↓x_sl, ↓x_nop, ↓x_prt, ↓x_neg, ↓x_revL, ↓x_lc, ↓x_for, ↓x_diSeq, ↓x_diEnum, ↓x_rng1, ↓y_addi, ↓y_adds, ↓y_addt, ↓y_int, ↓y_intC, ↓y_is, ↓y_isn, ↓y_nnon, ↓y_nbl, ↓y_nint, ↓y_nstr, ↓y_ntup, ↓y_nref, ↓y_t0, ↓y_t1, ↓y_t2, ↓y_t3, ↓y_m2, ↓y_m3, ↓y_len0, ↓y_len1, ↓y_len2, ↓y_len3, ↓y_len, ↓y_lenS, ↓y_itt, ↓y_iss, ↓y_iii, ↓y_iib, ↓y_i1, ↓y_i1b, ↓y_abs, ↓y_strI, ↓y_slt, ↓y_sls, ↓y_tys, ↓y_gs0, ↓y_gs1, ↓y_gs2, ↓y_gs3, ↓y_gs4, ↓y_gs5, ↓y_gs6, ↓y_gs7, ↓bIn_2, ↓bNotIn_2, ↓bEq_int, ↓bNe_int, wipeD, List.map_cons, List.map_nil, List.set_cons_zero, List.set_cons_succ, Option.some.injEq, exists_and_left, exists_eq_left', exists_eq_left, decide_true, decide_false, Bool.false_eq_true, reduceIte, Bool.not_true, Bool.not_false, List.length_cons, List.length_nil, Nat.reduceAdd, Nat.zero_add, line16, Nat.reduceLeDiff, Int.reduceEq, Int.reduceLT, Int.reduceLE, Int.reduceNeg, or_true, true_or, or_self, or_false, false_or, true_and, and_true, and_self, List.cons_append, List.nil_append, List.append_nil, forall_const]
    rw [List.length_range] at hli
    refine ⟨pDss ls, ?_, ?_⟩
    · show (match M6 c with | some (.lst l) => some l | _ => none) = _
      rw [hc6, pDss_map]
    · have := q (.either ls) M6 (by simp [okP, hok]; omega) (by simp [cP]; omega) hD6 hK6
      rw [show ((cP (.either ls) : Nat) : Int) = ((1 + cPss ls : Nat) : Int) by simp [cP]] at this
      simp only [pD] at this
      exact Fg.now this
end
end K76
namespace K76
open PySem PySem.Spec PyProof.Rows L2 DL
def lotsP : Part → List (List Part)
  | .inn _ own => [own]
  | .again own => [own]
  | .either lots => lots
theorem cP_lots (p : Part) : cP p = 1 + cPss (lotsP p) := by cases p <;> simp [cP, lotsP, cPss]
theorem iP_lots (p : Part) : iP p = isIn p + iPss (lotsP p) := by cases p <;> simp [iP, lotsP, iPss, isIn]
theorem ok_lots {p : Part} (h : okP p = true) : okPss (lotsP p) = true := by
  cases p <;> simp [okP] at h <;> simp [lotsP, okPss]
  · exact h.2
  · exact h.2
  · exact h.2
theorem lots_len {p : Part} (h : okP p = true) : (lotsP p).length ≤ 4 := by
  cases p <;> simp [okP] at h <;> simp [lotsP]
  exact h.1.2
theorem iPs_le : ∀ p : Part, True := fun _ => trivial
theorem cPs_snoc (a : List Part) (p : Part) : cPs (a ++ [p]) = cPs a + cP p := by rw [cPs_app]; simp [cPs]
theorem iPs_snoc (a : List Part) (p : Part) : iPs (a ++ [p]) = iPs a + iP p := by
  induction a with
  | nil => simp [iPs]
  | cons x xs ih => simp [iPs, ih]; omega
theorem cPss_snoc (a : List (List Part)) (l : List Part) : cPss (a ++ [l]) = cPss a + cPs l := by rw [cPss_app]; simp [cPss]
theorem iPss_snoc (a : List (List Part)) (l : List Part) : iPss (a ++ [l]) = iPss a + iPs l := by
  induction a with
  | nil => simp [iPss]
  | cons x xs ih => simp [iPss, ih]; omega
theorem take_snoc {α : Type} {l : List α} {i : Nat} {x : α} (h : l[i]? = some x) : l.take (i + 1) = l.take i ++ [x] := by rw [List.take_succ, h]; rfl
def cnI (s : D) (ps : List Part) (M : Mp) : Nat → Sg → Mp → Prop := fun i σ M' => ∃ (c : Addr) (u2 u3 u4 : Option D), σ = [some s, some (.ref c), u2, u3, u4] ∧ Sub M M' ∧ M c = none ∧ M' c = some (.lst [.int ((cPs (ps.take i) : Nat) : Int), .int ((iPs (ps.take i) : Nat) : Int)])
def cnJ (s p : D) (n m : Nat) (ls : List (List Part)) (M : Mp) : Nat → Sg → Mp → Prop := fun i σ M' => ∃ (c : Addr) (u3 u4 : Option D), σ = [some s, some (.ref c), some p, u3, u4] ∧ Sub M M' ∧ M c = none ∧ M' c = some (.lst [.int ((n + cPss (ls.take i) : Nat) : Int), .int ((m + iPss (ls.take i) : Nat) : Int)])
section
variable {P : Program} {w : World} {K : PySem.W.Frag} {mg : Str → Option Value} {base : Heap}
theorem ok_lparts (T : Tx K mg) : ∀ d : Nat, DFn P w K mg base CX0 (2 * d + 4) T.f__law_parts T.d__law_parts ["deck", "rooms", "left", "deep"] (sp_lparts d)
  | 0 => n_lparts T 0 (n_lpart T 0 ⟨fun ds M Q E h => absurd h.1 (by decide), fun A outer s H args us vs ds M Q E hr hg he hb hv hR hM h => absurd h.1 (by decide)⟩)
  | d + 1 => n_lparts T (d + 1) (n_lpart T (d + 1) ((ok_lparts T d).imp fun ds M Q E h => h.2))
def sp__law_parts : DSp := sp_lparts 5
theorem ok__law_parts (T : Tx K mg) : DFn P w K mg base CX0 14 T.f__law_parts T.d__law_parts ["deck", "rooms", "left", "deep"] sp__law_parts := ok_lparts T 5
def sp_count (n : Nat) : DSp := fun ds M Q E => ∃ ps : List Part, ds = [.tup (pDs ps)] ∧ okPs ps = true ∧ cPs ps ≤ n ∧ n ≤ 20 ∧ ∀ c M', M c = none → Sub M M' → M' c = some (.lst [.int ((cPs ps : Nat) : Int), .int ((iPs ps : Nat) : Int)]) → Q (.ref c) M'
theorem n__law_count (T : Tx K mg) (n : Nat) (hp : DFn P w K mg base CX0 n T.f__law_count T.d__law_count ["program"] (fun ds M Q E => 0 < n ∧ sp_count (n - 1) ds M Q E)) : DFn P w K mg base CX0 (n + 1) T.f__law_count T.d__law_count ["program"] (sp_count n) := by
  refine dfn_of (N := N__law_count) T.F__law_count sc__law_count (by decide) (fun ds M Q E h => ?_) (fun cdv A outer s H hr hgd => (dss_cons (ds_set (i := 1) sc__law_count.nd rfl (Or.inl rfl) (de_lst (da_cons de_int (da_cons de_int da_nil)))) (dss_cons (ds_for PassesOwn.never rfl (di_seq (de_var 0)) (dg_name (i := 2) sc__law_count.nd rfl (Or.inl rfl)) (dss_cons (ds_set (i := 1) sc__law_count.nd rfl (Or.inl rfl) (de_lst (da_cons (de_bin op_add4 tr_add (de_ix (hu_of hr) (de_var 1) de_int) de_int) (da_cons (de_bin op_add4 tr_add (de_ix (hu_of hr) (de_var 1) de_int) (de_callTy call_int1 tr_int1 rfl T.n_int bt_int (da_cons (de_cmp (op_eqD hr.units) tr_eq (de_ix (hu_of hr) (de_var 2) de_int) de_str (nomark _)) da_nil))) da_nil)))) (dss_one (ds_for PassesOwn.never rfl (di_seq (de_if (dt_cmp (op_eqD hr.units) tr_eq (de_ix (hu_of hr) (de_var 2) de_int) de_str (nomark _)) (de_ix (hu_of hr) (de_var 2) de_int) (de_tup (da_cons (de_ix (hu_of hr) (de_var 2) (de_neg de_int)) da_nil)))) (dg_name (i := 3) sc__law_count.nd rfl (Or.inl rfl)) (dss_cons (ds_set (i := 4) sc__law_count.nd rfl (Or.inl rfl) (de_call hp (hr.mono (by omega)) hgd rfl T.g__law_count T.F__law_count.kp T.b__law_count dpass0 (da_cons (de_var 3) da_nil))) (dss_one (ds_set (i := 1) sc__law_count.nd rfl (Or.inl rfl) (de_lst (da_cons (de_bin op_add4 tr_add (de_ix (hu_of hr) (de_var 1) de_int) (de_ix (hu_of hr) (de_var 4) de_int)) (da_cons (de_bin op_add4 tr_add (de_ix (hu_of hr) (de_var 1) de_int) (de_ix (hu_of hr) (de_var 4) de_int)) da_nil)))))))))) (dss_one (ds_ret (de_var 1)))))) ?_
  · obtain ⟨_, rfl, _⟩ := h; rfl
  rintro ds M Q E ⟨ps, rfl, hp, hc, hn, q⟩
  rw [st__law_count]
  simp only [↓x_seq, ↓x_next, ↓x_ret, ↓x_retN, ↓x_drop, ↓x_if, ↓x_asg, ↓x_false, ↓x_brk, ↓x_cnt, ↓x_g0, ↓x_v0, ↓x_g1, ↓x_v1, ↓x_g2, ↓x_v2, ↓x_g3, ↓x_v3, ↓x_g4, ↓x_v4, ↓x_g5, ↓x_v5, ↓x_g6, ↓x_v6, ↓x_g7, ↓x_v7, ↓x_g8, ↓x_v8, ↓x_g9, ↓x_v9, ↓x_g10, ↓x_v10, ↓x_g11, ↓x_v11, ↓x_g12, ↓x_v12, ↓x_g13, ↓x_v13, ↓x_g14, ↓x_v14, ↓x_g15, ↓x_v15, ↓x_g16, ↓x_v16, ↓x_g17, ↓x_v17, ↓x_g18, ↓x_v18, ↓x_g19, ↓x_v19, ↓x_gt2, ↓x_gt3, ↓x_gt4, ↓x_gt5, ↓x_gt6, ↓x_gc, ↓x_gn, ↓x_par2, ↓x_p2, ↓x_par3, ↓x_p3, ↓x_C, ↓x_op, ↓x_test, ↓x_chain, ↓x_andT, ↓x_orT, ↓x_notT, ↓x_ifE, ↓x_andV, ↓x_orV, ↓x_notV, ↓x_nil, ↓x_cons, ↓x_star, ↓x_tup, ↓x_lst, ↓x_callB, ↓x_call, ↓x_callK, ↓x_meth, ↓x_make, ↓x_fld, ↓x_fldS, ↓x_bm0, ↓x_bm, ↓x_sl, ↓x_nop, ↓x_prt, ↓x_neg, ↓x_revL, ↓x_lc, ↓x_for, ↓x_diSeq, ↓x_diEnum, ↓x_rng1, ↓y_addi, ↓y_adds, ↓y_addt, ↓y_int, ↓y_intC, ↓y_is, ↓y_isn, ↓y_nnon, ↓y_nbl, ↓y_nint, ↓y_nstr, ↓y_ntup, ↓y_nref, ↓y_t0, ↓y_t1, ↓y_t2, ↓y_t3, ↓y_m2, ↓y_m3, ↓y_len0, ↓y_len1, ↓y_len2, ↓y_len3, ↓y_len, ↓y_lenS, ↓y_itt, ↓y_iss, ↓y_iii, ↓y_iib, ↓y_i1, ↓y_i1b, ↓y_abs, ↓y_strI, ↓y_slt, ↓y_sls, ↓y_tys, ↓y_gs0, ↓y_gs1, ↓y_gs2, ↓y_gs3, ↓y_gs4, ↓y_gs5, ↓y_gs6, ↓y_gs7, ↓bIn_2, ↓bNotIn_2, ↓bEq_int, ↓bNe_int, wipeD, List.map_cons, List.map_nil, List.set_cons_zero, List.set_cons_succ, Option.some.injEq, exists_and_left, exists_eq_left', exists_eq_left, decide_true, decide_false, Bool.false_eq_true, reduceIte, Bool.not_true, Bool.not_false, List.length_cons, List.length_nil, Nat.reduceAdd, Nat.zero_add, line16, Nat.reduceLeDiff, Int.reduceEq, Int.reduceLT, Int.reduceLE, Int.reduceNeg, or_true, true_or, or_self, or_false, false_or, true_and, and_true, and_self, List.cons_append, List.nil_append, List.append_nil, forall_const]
  intro c0 hc0
  have hokm := (okPs_iff ps).mp hp
  refine forG_A ps pD (pDs_map ps) (cnI (.tup (pDs ps)) ps M) ⟨c0, none, none, none, rfl, Sub.putNew hc0, hc0, put_same⟩ (fun _ _ _ _ => trivial) ?_ ?_
  · rintro i p σ M1 hx ⟨c, u2, u3, u4, rfl, hS, hMc, hc1⟩
    have hmem := List.mem_of_getElem? hx
    have hpo := hokm p hmem
    have hcp := cPs_mem hmem
    have hcl := cP_lots p
    have hil := iP_lots p
    simp only [↓x_g2]
    refine seq_cut (cnJ (.tup (pDs ps)) (pD p) (cPs (ps.take i) + 1) (iPs (ps.take i) + isIn p) (lotsP p) M 0) (fun N hN => ?_) ?_
    · cases p with
      | inn r own =>
        rw [show pD (.inn r own) = .tup [.str "in", .int (r : Int), .tup (pDs own)] by rw [pD]] at hN ⊢
        simp only [↓bEq_str so_in so_in, ↓y_ixl hc1, atI_0, atI_1, ↓x_seq, ↓x_next, ↓x_ret, ↓x_retN, ↓x_drop, ↓x_if, ↓x_asg, ↓x_false, ↓x_brk, ↓x_cnt, ↓x_g0, ↓x_v0, ↓x_g1, ↓x_v1, ↓x_g2, ↓x_v2, ↓x_g3, ↓x_v3, ↓x_g4, ↓x_v4, ↓x_g5, ↓x_v5, ↓x_g6, ↓x_v6, ↓x_g7, ↓x_v7, ↓x_g8, ↓x_v8, ↓x_g9, ↓x_v9, ↓x_g10, ↓x_v10, ↓x_g11, ↓x_v11, ↓x_g12, ↓x_v12, ↓x_g13, ↓x_v13, ↓x_g14, ↓x_v14, ↓x_g15, ↓x_v15, ↓x_g16, ↓x_v16, ↓x_g17, ↓x_v17, ↓x_g18, ↓x_v18, ↓x_g19, ↓x_v19, ↓x_gt2, ↓x_gt3, ↓x_gt4, ↓x_gt5, ↓x_gt6, ↓x_gc, ↓x_gn, ↓x_par2, ↓x_p2, ↓x_par3, ↓x_p3, ↓x_C, ↓x_op, ↓x_test, ↓x_chain, ↓x_andT, ↓x_orT, ↓x_notT, ↓x_ifE, ↓x_andV, ↓x_orV, ↓x_notV, ↓x_nil, ↓x_cons, ↓x_star, ↓x_tup, ↓x_lst, ↓x_callB, ↓x_call, ↓x_callK, ↓x_meth, ↓x_make, ↓x_fld, ↓x_fldS, ↓x_bm0, ↓x_bm, ↓x_sl, ↓x_nop, ↓x_prt, ↓x_neg, ↓x_revL, ↓x_lc, ↓x_for, ↓x_diSeq, ↓x_diEnum, ↓x_rng1, ↓y_addi, ↓y_adds, ↓y_addt, ↓y_int, ↓y_intC, ↓y_is, ↓y_isn, ↓y_nnon, ↓y_nbl, ↓y_nint, ↓y_nstr, ↓y_ntup, ↓y_nref, ↓y_t0, ↓y_t1, ↓y_t2, ↓y_t3, ↓y_m2, ↓y_m3, ↓y_len0, ↓y_len1, ↓y_len2, ↓y_len3, ↓y_len, ↓y_lenS, ↓y_itt, ↓y_iss, ↓y_iii, ↓y_iib, ↓y_i1, ↓y_i1b, ↓y_abs, ↓y_strI, ↓y_slt, ↓y_sls, ↓y_tys, ↓y_gs0, ↓y_gs1, ↓y_gs2, ↓y_gs3, ↓y_gs4, ↓y_gs5, ↓y_gs6, ↓y_gs7, ↓bIn_2, ↓bNotIn_2, ↓bEq_int, ↓bNe_int, wipeD, List.map_cons, List.map_nil, List.set_cons_zero, List.set_cons_succ, Option.some.injEq, exists_and_left, exists_eq_left', exists_eq_left, decide_true, decide_false, Bool.false_eq_true, reduceIte, Bool.not_true, Bool.not_false, List.length_cons, List.length_nil, Nat.reduceAdd, Nat.zero_add, line16, Nat.reduceLeDiff, Int.reduceEq, Int.reduceLT, Int.reduceLE, Int.reduceNeg, or_true, true_or, or_self, or_false, false_or, true_and, and_true, and_self, List.cons_append, List.nil_append, List.append_nil, forall_const]
        intro d hd
        exact hN _ _ ⟨d, _, _, rfl, hS.new hd, hS.nn hd, by rw [put_same]; simp [cPss, iPss, isIn]⟩
      | again own =>
        rw [show pD (.again own) = .tup [.str "again", .tup (pDs own)] by rw [pD]] at hN ⊢
        simp only [↓bEq_str so_again so_in, ne_ai, ↓y_ixl hc1, atI_0, atI_1, ↓x_seq, ↓x_next, ↓x_ret, ↓x_retN, ↓x_drop, ↓x_if, ↓x_asg, ↓x_false, ↓x_brk, ↓x_cnt, ↓x_g0, ↓x_v0, ↓x_g1, ↓x_v1, ↓x_g2, ↓x_v2, ↓x_g3, ↓x_v3, ↓x_g4, ↓x_v4, ↓x_g5, ↓x_v5, ↓x_g6, ↓x_v6, ↓x_g7, ↓x_v7, ↓x_g8, ↓x_v8, ↓x_g9, ↓x_v9, ↓x_g10, ↓x_v10, ↓x_g11, ↓x_v11, ↓x_g12, ↓x_v12, ↓x_g13, ↓x_v13, ↓x_g14, ↓x_v14, ↓x_g15, ↓x_v15, ↓x_g16, ↓x_v16, ↓x_g17, ↓x_v17, ↓x_g18, ↓x_v18, ↓x_g19, ↓x_v19, ↓x_gt2, ↓x_gt3, ↓x_gt4, ↓x_gt5, ↓x_gt6, ↓x_gc, ↓x_gn, ↓x_par2, ↓x_p2, ↓x_par3, ↓x_p3, ↓x_C, ↓x_op, ↓x_test, ↓x_chain, ↓x_andT, ↓x_orT, ↓x_notT, ↓x_ifE, ↓x_andV, ↓x_orV, ↓x_notV, ↓x_nil, ↓x_cons, ↓x_star, ↓x_tup, ↓x_lst, ↓x_callB, ↓x_call, ↓x_callK, ↓x_meth, ↓x_make, ↓x_fld, ↓x_fldS, ↓x_bm0, ↓x_bm, ↓x_sl, ↓x_nop, ↓x_prt, ↓x_neg, ↓x_revL, ↓x_lc, ↓x_for, ↓x_diSeq, ↓x_diEnum, ↓x_rng1, ↓y_addi, ↓y_adds, ↓y_addt, ↓y_int, ↓y_intC, ↓y_is, ↓y_isn, ↓y_nnon, ↓y_nbl, ↓y_nint, ↓y_nstr, ↓y_ntup, ↓y_nref, ↓y_t0, ↓y_t1, ↓y_t2, ↓y_t3, ↓y_m2, ↓y_m3, ↓y_len0, ↓y_len1, ↓y_len2, ↓y_len3, ↓y_len, ↓y_lenS, ↓y_itt, ↓y_iss, ↓y_iii, ↓y_iib, ↓y_i1, ↓y_i1b, ↓y_abs, ↓y_strI, ↓y_slt, ↓y_sls, ↓y_tys, ↓y_gs0, ↓y_gs1, ↓y_gs2, ↓y_gs3, ↓y_gs4, ↓y_gs5, ↓y_gs6, ↓y_gs7, ↓bIn_2, ↓bNotIn_2, ↓bEq_int, ↓bNe_int, wipeD, List.map_cons, List.map_nil, List.set_cons_zero, List.set_cons_succ, Option.some.injEq, exists_and_left, exists_eq_left', exists_eq_left, decide_true, decide_false, Bool.false_eq_true, reduceIte, Bool.not_true, Bool.not_false, List.length_cons, List.length_nil, Nat.reduceAdd, Nat.zero_add, line16, Nat.reduceLeDiff, Int.reduceEq, Int.reduceLT, Int.reduceLE, Int.reduceNeg, or_true, true_or, or_self, or_false, false_or, true_and, and_true, and_self, List.cons_append, List.nil_append, List.append_nil, forall_const]
        intro d hd
        exact hN _ _ ⟨d, _, _, rfl, hS.new hd, hS.nn hd, by rw [put_same]; simp [cPss, iPss, isIn]⟩
      | either lots =>
        rw [show pD (.either lots) = .tup [.str "either", .tup (pDss lots)] by rw [pD]] at hN ⊢
        simp only [↓bEq_str so_either so_in, ne_ei, ↓y_ixl hc1, atI_0, atI_1, ↓x_seq, ↓x_next, ↓x_ret, ↓x_retN, ↓x_drop, ↓x_if, ↓x_asg, ↓x_false, ↓x_brk, ↓x_cnt, ↓x_g0, ↓x_v0, ↓x_g1, ↓x_v1, ↓x_g2, ↓x_v2, ↓x_g3, ↓x_v3, ↓x_g4, ↓x_v4, ↓x_g5, ↓x_v5, ↓x_g6, ↓x_v6, ↓x_g7, ↓x_v7, ↓x_g8, ↓x_v8, ↓x_g9, ↓x_v9, ↓x_g10, ↓x_v10, ↓x_g11, ↓x_v11, ↓x_g12, ↓x_v12, ↓x_g13, ↓x_v13, ↓x_g14, ↓x_v14, ↓x_g15, ↓x_v15, ↓x_g16, ↓x_v16, ↓x_g17, ↓x_v17, ↓x_g18, ↓x_v18, ↓x_g19, ↓x_v19, ↓x_gt2, ↓x_gt3, ↓x_gt4, ↓x_gt5, ↓x_gt6, ↓x_gc, ↓x_gn, ↓x_par2, ↓x_p2, ↓x_par3, ↓x_p3, ↓x_C, ↓x_op, ↓x_test, ↓x_chain, ↓x_andT, ↓x_orT, ↓x_notT, ↓x_ifE, ↓x_andV, ↓x_orV, ↓x_notV, ↓x_nil, ↓x_cons, ↓x_star, ↓x_tup, ↓x_lst, ↓x_callB, ↓x_call, ↓x_callK, ↓x_meth, ↓x_make, ↓x_fld, ↓x_fldS, ↓x_bm0, ↓x_bm, ↓x_sl, ↓x_nop, ↓x_prt, ↓x_neg, ↓x_revL, ↓x_lc, ↓x_for, ↓x_diSeq, ↓x_diEnum, ↓x_rng1, ↓y_addi, ↓y_adds, ↓y_addt, ↓y_int, ↓y_intC, ↓y_is, ↓y_isn, ↓y_nnon, ↓y_nbl, ↓y_nint, ↓y_nstr, ↓y_ntup, ↓y_nref, ↓y_t0, ↓y_t1, ↓y_t2, ↓y_t3, ↓y_m2, ↓y_m3, ↓y_len0, ↓y_len1, ↓y_len2, ↓y_len3, ↓y_len, ↓y_lenS, ↓y_itt, ↓y_iss, ↓y_iii, ↓y_iib, ↓y_i1, ↓y_i1b, ↓y_abs, ↓y_strI, ↓y_slt, ↓y_sls, ↓y_tys, ↓y_gs0, ↓y_gs1, ↓y_gs2, ↓y_gs3, ↓y_gs4, ↓y_gs5, ↓y_gs6, ↓y_gs7, ↓bIn_2, ↓bNotIn_2, ↓bEq_int, ↓bNe_int, wipeD, List.map_cons, List.map_nil, List.set_cons_zero, List.set_cons_succ, Option.some.injEq, exists_and_left, exists_eq_left', exists_eq_left, decide_true, decide_false, Bool.false_eq_true, reduceIte, Bool.not_true, Bool.not_false, List.length_cons, List.length_nil, Nat.reduceAdd, Nat.zero_add, line16, Nat.reduceLeDiff, Int.reduceEq, Int.reduceLT, Int.reduceLE, Int.reduceNeg, or_true, true_or, or_self, or_false, false_or, true_and, and_true, and_self, List.cons_append, List.nil_append, List.append_nil, forall_const]
        intro d hd
        exact hN _ _ ⟨d, _, _, rfl, hS.new hd, hS.nn hd, by rw [put_same]; simp [cPss, iPss, isIn]⟩
    · rintro σ M2 ⟨c2, u3, u4, rfl, hS2, hMc2, hc2⟩
      have main : ∀ (items : List D), items = (lotsP p).map (fun l => D.tup (pDs l)) → forG items (fun _ => True) M2 (dgName 3) (dSeq (dAsg (dCall (fun ds M Q E => 0 < n ∧ sp_count (n - 1) ds M Q E) dE0 (dCons (dVar 3) dNil)) (dgName 4)) (dAsg (dLst (dCons (dOp bAdd (dOp bIx (dVar 1) (dC (.int 0))) (dOp bIx (dVar 4) (dC (.int 0)))) (dCons (dOp bAdd (dOp bIx (dVar 1) (dC (.int 1))) (dOp bIx (dVar 4) (dC (.int 1)))) dNil))) (dgName 1))) { nx := cnI (.tup (pDs ps)) ps M (i + 1), rt := Fg Q, bk := fun _ _ => False, ct := cnI (.tup (pDs ps)) ps M (i + 1) } [some (.tup (pDs ps)), some (.ref c2), some (pD p), u3, u4] := fun items he => by
        refine forG_A (lotsP p) (fun l => .tup (pDs l)) he (cnJ (.tup (pDs ps)) (pD p) (cPs (ps.take i) + 1) (iPs (ps.take i) + isIn p) (lotsP p) M) ⟨c2, u3, u4, rfl, hS2, hMc2, hc2⟩ (fun _ _ _ _ => trivial) ?_ ?_
        · rintro j l σ M3 hl ⟨c3, u3, u4, rfl, hS3, hMc3, hc3⟩
          have hlm := List.mem_of_getElem? hl
          have hcm := cPss_mem hlm
          simp only [↓x_seq, ↓x_next, ↓x_ret, ↓x_retN, ↓x_drop, ↓x_if, ↓x_asg, ↓x_false, ↓x_brk, ↓x_cnt, ↓x_g0, ↓x_v0, ↓x_g1, ↓x_v1, ↓x_g2, ↓x_v2, ↓x_g3, ↓x_v3, ↓x_g4, ↓x_v4, ↓x_g5, ↓x_v5, ↓x_g6, ↓x_v6, ↓x_g7, ↓x_v7, ↓x_g8, ↓x_v8, ↓x_g9, ↓x_v9, ↓x_g10, ↓x_v10, ↓x_g11, ↓x_v11, ↓x_g12, ↓x_v12, ↓x_g13, ↓x_v13, ↓x_g14, ↓x_v14, ↓x_g15, ↓x_v15, ↓x_g16, ↓x_v16, ↓x_g17, ↓x_v17, ↓x_g18, ↓x_v18, ↓x_g19, ↓x_v19, ↓x_gt2, ↓x_gt3, ↓x_gt4, ↓x_gt5, ↓x_gt6, ↓x_gc, ↓x_gn, ↓x_par2, ↓x_p2, ↓x_par3, ↓x_p3, ↓x_C, ↓x_op, ↓x_test, ↓x_chain, ↓x_andT, ↓x_orT, ↓x_notT, ↓x_ifE, ↓x_andV, ↓x_orV, ↓x_notV, ↓x_nil, ↓x_cons, ↓x_star, ↓x_tup, ↓x_lst, ↓x_callB, ↓x_call, ↓x_callK, ↓x_meth, ↓x_make, ↓x_fld, ↓x_fldS, ↓x_bm0, ↓x_bm, ↓x_sl, ↓x_nop, ↓x_prt, ↓x_neg, ↓x_revL, ↓x_lc, ↓x_for, ↓x_diSeq, ↓x_diEnum, ↓x_rng1, ↓y_addi, ↓y_adds, ↓y_addt, ↓y_int, ↓y_intC, ↓y_is, ↓y_isn, ↓y_nnon, ↓y_nbl, ↓y_nint, ↓y_nstr, ↓y_ntup, ↓y_nref, ↓y_t0, ↓y_t1, ↓y_t2, ↓y_t3, ↓y_m2, ↓y_m3, ↓y_len0, ↓y_len1, ↓y_len2, ↓y_len3, ↓y_len, ↓y_lenS, ↓y_itt, ↓y_iss, ↓y_iii, ↓y_iib, ↓y_i1, ↓y_i1b, ↓y_abs, ↓y_strI, ↓y_slt, ↓y_sls, ↓y_tys, ↓y_gs0, ↓y_gs1, ↓y_gs2, ↓y_gs3, ↓y_gs4, ↓y_gs5, ↓y_gs6, ↓y_gs7, ↓bIn_2, ↓bNotIn_2, ↓bEq_int, ↓bNe_int, wipeD, List.map_cons, List.map_nil, List.set_cons_zero, List.set_cons_succ, Option.some.injEq, exists_and_left, exists_eq_left', exists_eq_left, decide_true, decide_false, Bool.false_eq_true, reduceIte, Bool.not_true, Bool.not_false, List.length_cons, List.length_nil, Nat.reduceAdd, Nat.zero_add, line16, Nat.reduceLeDiff, Int.reduceEq, Int.reduceLT, Int.reduceLE, Int.reduceNeg, or_true, true_or, or_self, or_false, false_or, true_and, and_true, and_self, List.cons_append, List.nil_append, List.append_nil, forall_const]
          refine ⟨by omega, l, rfl, (okPss_iff _).mp (ok_lots hpo) l hlm, by omega, by omega, fun c4 M4 hc4 hS4 hv4 => ?_⟩
          have hc34 := hS4 _ _ hc3
          simp only [↓y_ixl hc34, ↓y_ixl hv4, atI_0, atI_1, ↓x_seq, ↓x_next, ↓x_ret, ↓x_retN, ↓x_drop, ↓x_if, ↓x_asg, ↓x_false, ↓x_brk, ↓x_cnt, ↓x_g0, ↓x_v0, ↓x_g1, ↓x_v1, ↓x_g2, ↓x_v2, ↓x_g3, ↓x_v3, ↓x_g4, ↓x_v4, ↓x_g5, ↓x_v5, ↓x_g6, ↓x_v6, ↓x_g7, ↓x_v7, ↓x_g8, ↓x_v8, ↓x_g9, ↓x_v9, ↓x_g10, ↓x_v10, ↓x_g11, ↓x_v11, ↓x_g12, ↓x_v12, ↓x_g13, ↓x_v13, ↓x_g14, ↓x_v14, ↓x_g15, ↓x_v15, ↓x_g16, ↓x_v16, ↓x_g17, ↓x_v17, ↓x_g18, ↓x_v18, ↓x_g19, ↓x_v19, ↓x_gt2, ↓x_gt3, ↓x_gt4, ↓x_gt5, ↓x_gt6, ↓x_gc, ↓x_gn, ↓x_par2, ↓x_p2, ↓x_par3, ↓x_p3, ↓x_C, ↓x_op, ↓x_test, ↓x_chain, ↓x_andT, ↓x_orT, ↓x_notT, ↓x_ifE, ↓x_andV, ↓x_orV, ↓x_notV, ↓x_nil, ↓x_cons, ↓x_star, ↓x_tup, ↓x_lst, ↓x_callB, ↓x_call, ↓x_callK, ↓x_meth, ↓x_make, ↓x_fld, ↓x_fldS, ↓x_bm0, ↓x_bm, ↓x_sl, ↓x_nop, ↓x_prt, ↓x_neg, ↓x_revL, ↓x_lc, ↓x_for, ↓x_diSeq, ↓x_diEnum, ↓x_rng1, ↓y_addi, ↓y_adds, ↓y_addt, ↓y_int, ↓y_intC, ↓y_is, ↓y_isn, ↓y_nnon, ↓y_nbl, ↓y_nint, ↓y_nstr, ↓y_ntup, ↓y_nref, ↓y_t0, ↓y_t1, ↓y_t2, ↓y_t3, ↓y_m2, ↓y_m3, ↓y_len0, ↓y_len1, ↓y_len2, ↓y_len3, ↓y_len, ↓y_lenS, ↓y_itt, ↓y_iss, ↓y_iii, ↓y_iib, ↓y_i1, ↓y_i1b, ↓y_abs, ↓y_strI, ↓y_slt, ↓y_sls, ↓y_tys, ↓y_gs0, ↓y_gs1, ↓y_gs2, ↓y_gs3, ↓y_gs4, ↓y_gs5, ↓y_gs6, ↓y_gs7, ↓bIn_2, ↓bNotIn_2, ↓bEq_int, ↓bNe_int, wipeD, List.map_cons, List.map_nil, List.set_cons_zero, List.set_cons_succ, Option.some.injEq, exists_and_left, exists_eq_left', exists_eq_left, decide_true, decide_false, Bool.false_eq_true, reduceIte, Bool.not_true, Bool.not_false, List.length_cons, List.length_nil, Nat.reduceAdd, Nat.zero_add, line16, Nat.reduceLeDiff, Int.reduceEq, Int.reduceLT, Int.reduceLE, Int.reduceNeg, or_true, true_or, or_self, or_false, false_or, true_and, and_true, and_self, List.cons_append, List.nil_append, List.append_nil, forall_const]
          intro d hd
          refine ⟨d, _, _, rfl, (hS3.trans hS4).new hd, (hS3.trans hS4).nn hd, ?_⟩
          rw [put_same, take_snoc hl, cPss_snoc, iPss_snoc]
          rw [show ((cPs (ps.take i) + 1 + (cPss ((lotsP p).take j) + cPs l) : Nat) : Int) = ((cPs (ps.take i) + 1 + cPss ((lotsP p).take j) : Nat) : Int) + ((cPs l : Nat) : Int) by omega, show ((iPs (ps.take i) + isIn p + (iPss ((lotsP p).take j) + iPs l) : Nat) : Int) = ((iPs (ps.take i) + isIn p + iPss ((lotsP p).take j) : Nat) : Int) + ((iPs l : Nat) : Int) by omega]
        · rintro σ M3 ⟨c3, u3, u4, rfl, hS3, hMc3, hc3⟩
          refine ⟨c3, _, _, _, rfl, hS3, hMc3, ?_⟩
          rw [hc3, List.take_length, take_snoc hx, cPs_snoc, iPs_snoc, hcl, hil]
          rw [show cPs (ps.take i) + 1 + cPss (lotsP p) = cPs (ps.take i) + (1 + cPss (lotsP p)) by omega, show iPs (ps.take i) + isIn p + iPss (lotsP p) = iPs (ps.take i) + (isIn p + iPss (lotsP p)) by omega]
      cases p with
      | inn r own =>
        rw [show pD (.inn r own) = .tup [.str "in", .int (r : Int), .tup (pDs own)] by rw [pD]] at main ⊢
        simp only [↓bEq_str so_in so_either, ne_ie, ↓x_seq, ↓x_next, ↓x_ret, ↓x_retN, ↓x_drop, ↓x_if, ↓x_asg, ↓x_false, ↓x_brk, ↓x_cnt, ↓x_g0, ↓x_v0, ↓x_g1, ↓x_v1, ↓x_g2, ↓x_v2, ↓x_g3, ↓x_v3, ↓x_g4, ↓x_v4, ↓x_g5, ↓x_v5, ↓x_g6, ↓x_v6, ↓x_g7, ↓x_v7, ↓x_g8, ↓x_v8, ↓x_g9, ↓x_v9, ↓x_g10, ↓x_v10, ↓x_g11, ↓x_v11, ↓x_g12, ↓x_v12, ↓x_g13, ↓x_v13, ↓x_g14, ↓x_v14, ↓x_g15, ↓x_v15, ↓x_g16, ↓x_v16, ↓x_g17, ↓x_v17, ↓x_g18, ↓x_v18, ↓x_g19, ↓x_v19, ↓x_gt2, ↓x_gt3, ↓x_gt4, ↓x_gt5, ↓x_gt6, ↓x_gc, ↓x_gn, ↓x_par2, ↓x_p2, ↓x_par3, ↓x_p3, ↓x_C, ↓x_op, ↓x_test, ↓x_chain, ↓x_andT, ↓x_orT, ↓x_notT, ↓x_ifE, ↓x_andV, ↓x_orV, ↓x_notV, ↓x_nil, ↓x_cons, ↓x_star, ↓x_tup, ↓x_lst, ↓x_callB, ↓x_call, ↓x_callK, ↓x_meth, ↓x_make, ↓x_fld, ↓x_fldS, ↓x_bm0, ↓x_bm, ↓x_sl, ↓x_nop, ↓x_prt, ↓x_neg, ↓x_revL, ↓x_lc, ↓x_for, ↓x_diSeq, ↓x_diEnum, ↓x_rng1, ↓y_addi, ↓y_adds, ↓y_addt, ↓y_int, ↓y_intC, ↓y_is, ↓y_isn, ↓y_nnon, ↓y_nbl, ↓y_nint, ↓y_nstr, ↓y_ntup, ↓y_nref, ↓y_t0, ↓y_t1, ↓y_t2, ↓y_t3, ↓y_m2, ↓y_m3, ↓y_len0, ↓y_len1, ↓y_len2, ↓y_len3, ↓y_len, ↓y_lenS, ↓y_itt, ↓y_iss, ↓y_iii, ↓y_iib, ↓y_i1, ↓y_i1b, ↓y_abs, ↓y_strI, ↓y_slt, ↓y_sls, ↓y_tys, ↓y_gs0, ↓y_gs1, ↓y_gs2, ↓y_gs3, ↓y_gs4, ↓y_gs5, ↓y_gs6, ↓y_gs7, ↓bIn_2, ↓bNotIn_2, ↓bEq_int, ↓bNe_int, wipeD, List.map_cons, List.map_nil, List.set_cons_zero, List.set_cons_succ, Option.some.injEq, exists_and_left, exists_eq_left', exists_eq_left, decide_true, decide_false, Bool.false_eq_true, reduceIte, Bool.not_true, Bool.not_false, List.length_cons, List.length_nil, Nat.reduceAdd, Nat.zero_add, line16, Nat.reduceLeDiff, Int.reduceEq, Int.reduceLT, Int.reduceLE, Int.reduceNeg, or_true, true_or, or_self, or_false, false_or, true_and, and_true, and_self, List.cons_append, List.nil_append, List.append_nil, forall_const]
        exact main _ (by simp [lotsP])
      | again own =>
        rw [show pD (.again own) = .tup [.str "again", .tup (pDs own)] by rw [pD]] at main ⊢
        simp only [↓bEq_str so_again so_either, ne_ae, ↓x_seq, ↓x_next, ↓x_ret, ↓x_retN, ↓x_drop, ↓x_if, ↓x_asg, ↓x_false, ↓x_brk, ↓x_cnt, ↓x_g0, ↓x_v0, ↓x_g1, ↓x_v1, ↓x_g2, ↓x_v2, ↓x_g3, ↓x_v3, ↓x_g4, ↓x_v4, ↓x_g5, ↓x_v5, ↓x_g6, ↓x_v6, ↓x_g7, ↓x_v7, ↓x_g8, ↓x_v8, ↓x_g9, ↓x_v9, ↓x_g10, ↓x_v10, ↓x_g11, ↓x_v11, ↓x_g12, ↓x_v12, ↓x_g13, ↓x_v13, ↓x_g14, ↓x_v14, ↓x_g15, ↓x_v15, ↓x_g16, ↓x_v16, ↓x_g17, ↓x_v17, ↓x_g18, ↓x_v18, ↓x_g19, ↓x_v19, ↓x_gt2, ↓x_gt3, ↓x_gt4, ↓x_gt5, ↓x_gt6, ↓x_gc, ↓x_gn, ↓x_par2, ↓x_p2, ↓x_par3, ↓x_p3, ↓x_C, ↓x_op, ↓x_test, ↓x_chain, ↓x_andT, ↓x_orT, ↓x_notT, ↓x_ifE, ↓x_andV, ↓x_orV, ↓x_notV, ↓x_nil, ↓x_cons, ↓x_star, ↓x_tup, ↓x_lst, ↓x_callB, ↓x_call, ↓x_callK, ↓x_meth, ↓x_make, ↓x_fld, ↓x_fldS, ↓x_bm0, ↓x_bm, ↓x_sl, ↓x_nop, ↓x_prt, ↓x_neg, ↓x_revL, ↓x_lc, ↓x_for, ↓x_diSeq, ↓x_diEnum, ↓x_rng1, ↓y_addi, ↓y_adds, ↓y_addt, ↓y_int, ↓y_intC, ↓y_is, ↓y_isn, ↓y_nnon, ↓y_nbl, ↓y_nint, ↓y_nstr, ↓y_ntup, ↓y_nref, ↓y_t0, ↓y_t1, ↓y_t2, ↓y_t3, ↓y_m2, ↓y_m3, ↓y_len0, ↓y_len1, ↓y_len2, ↓y_len3, ↓y_len, ↓y_lenS, ↓y_itt, ↓y_iss, ↓y_iii, ↓y_iib, ↓y_i1, ↓y_i1b, ↓y_abs, ↓y_strI, ↓y_slt, ↓y_sls, ↓y_tys, ↓y_gs0, ↓y_gs1, ↓y_gs2, ↓y_gs3, ↓y_gs4, ↓y_gs5, ↓y_gs6, ↓y_gs7, ↓bIn_2, ↓bNotIn_2, ↓bEq_int, ↓bNe_int, wipeD, List.map_cons, List.map_nil, List.set_cons_zero, List.set_cons_succ, Option.some.injEq, exists_and_left, exists_eq_left', exists_eq_left, decide_true, decide_false, Bool.false_eq_true, reduceIte, Bool.not_true, Bool.not_false, List.length_cons, List.length_nil, Nat.reduceAdd, Nat.zero_add, line16, Nat.reduceLeDiff, Int.reduceEq, Int.reduceLT, Int.reduceLE, Int.reduceNeg, or_true, true_or, or_self, or_false, false_or, true_and, and_true, and_self, List.cons_append, List.nil_append, List.append_nil, forall_const]
        exact main _ (by simp [lotsP])
      | either lots =>
        rw [show pD (.either lots) = .tup [.str "either", .tup (pDss lots)] by rw [pD]] at main ⊢
        simp only [↓bEq_str so_either so_either, ↓x_seq, ↓x_next, ↓x_ret, ↓x_retN, ↓x_drop, ↓x_if, ↓x_asg, ↓x_false, ↓x_brk, ↓x_cnt, ↓x_g0, ↓x_v0, ↓x_g1, ↓x_v1, ↓x_g2, ↓x_v2, ↓x_g3, ↓x_v3, ↓x_g4, ↓x_v4, ↓x_g5, ↓x_v5, ↓x_g6, ↓x_v6, ↓x_g7, ↓x_v7, ↓x_g8, ↓x_v8, ↓x_g9, ↓x_v9, ↓x_g10, ↓x_v10, ↓x_g11, ↓x_v11, ↓x_g12, ↓x_v12, ↓x_g13, ↓x_v13, ↓x_g14, ↓x_v14, ↓x_g15, ↓x_v15, ↓x_g16, ↓x_v16, ↓x_g17, ↓x_v17, ↓x_g18, ↓x_v18, ↓x_g19, ↓x_v19, ↓x_gt2, ↓x_gt3, ↓x_gt4, ↓x_gt5, ↓x_gt6, ↓x_gc, ↓x_gn, ↓x_par2, ↓x_p2, ↓x_par3, ↓x_p3, ↓x_C, ↓x_op, ↓x_test, ↓x_chain, ↓x_andT, ↓x_orT, ↓x_notT, ↓x_ifE, ↓x_andV, ↓x_orV, ↓x_notV, ↓x_nil, ↓x_cons, ↓x_star, ↓x_tup, ↓x_lst, ↓x_callB, ↓x_call, ↓x_callK, ↓x_meth, ↓x_make, ↓x_fld, ↓x_fldS, ↓x_bm0, ↓x_bm, ↓x_sl, ↓x_nop, ↓x_prt, ↓x_neg, ↓x_revL, ↓x_lc, ↓x_for, ↓x_diSeq, ↓x_diEnum, ↓x_rng1, ↓y_addi, ↓y_adds, ↓y_addt, ↓y_int, ↓y_intC, ↓y_is, ↓y_isn, ↓y_nnon, ↓y_nbl, ↓y_nint, ↓y_nstr, ↓y_ntup, ↓y_nref, ↓y_t0, ↓y_t1, ↓y_t2, ↓y_t3, ↓y_m2, ↓y_m3, ↓y_len0, ↓y_len1, ↓y_len2, ↓y_len3, ↓y_len, ↓y_lenS, ↓y_itt, ↓y_iss, ↓y_iii, ↓y_iib, ↓y_i1, ↓y_i1b, ↓y_abs, ↓y_strI, ↓y_slt, ↓y_sls, ↓y_tys, ↓y_gs0, ↓y_gs1, ↓y_gs2, ↓y_gs3, ↓y_gs4, ↓y_gs5, ↓y_gs6, ↓y_gs7, ↓bIn_2, ↓bNotIn_2, ↓bEq_int, ↓bNe_int, wipeD, List.map_cons, List.map_nil, List.set_cons_zero, List.set_cons_succ, Option.some.injEq, exists_and_left, exists_eq_left', exists_eq_left, decide_true, decide_false, Bool.false_eq_true, reduceIte, Bool.not_true, Bool.not_false, List.length_cons, List.length_nil, Nat.reduceAdd, Nat.zero_add, line16, Nat.reduceLeDiff, Int.reduceEq, Int.reduceLT, Int.reduceLE, Int.reduceNeg, or_true, true_or, or_self, or_false, false_or, true_and, and_true, and_self, List.cons_append, List.nil_append, List.append_nil, forall_const]
        exact main _ (by rw [pDss_map]; rfl)
  · rintro σ M1 ⟨c, u2, u3, u4, rfl, hS, hMc, hc1⟩
    rw [List.take_length] at hc1
    simp only [↓x_seq, ↓x_next, ↓x_ret, ↓x_retN, ↓x_drop, ↓x_if, ↓x_asg, ↓x_false, ↓x_brk, ↓x_cnt, ↓x_g0, ↓x_v0, ↓x_g1, ↓x_v1, ↓x_g2, ↓x_v2, ↓x_g3, ↓x_v3, ↓x_g4, ↓x_v4, ↓x_g5, ↓x_v5, ↓x_g6, ↓x_v6, ↓x_g7, ↓x_v7, ↓x_g8, ↓x_v8, ↓x_g9, ↓x_v9, ↓x_g10, ↓x_v10, ↓x_g11, ↓x_v11, ↓x_g12, ↓x_v12, ↓x_g13, ↓x_v13, ↓x_g14, ↓x_v14, ↓x_g15, ↓x_v15, ↓x_g16, ↓x_v16, ↓x_g17, ↓x_v17, ↓x_g18, ↓x_v18, ↓x_g19, ↓x_v19, ↓x_gt2, ↓x_gt3, ↓x_gt4, ↓x_gt5, ↓x_gt6, ↓x_gc, ↓x_gn, ↓x_par2, ↓x_p2, ↓x_par3, ↓x_p3, ↓x_C, ↓x_op, ↓x_test, ↓x_chain, ↓x_andT, ↓x_orT, ↓x_notT, ↓x_ifE, ↓x_andV, ↓x_orV, ↓x_notV, ↓x_nil, ↓x_cons, ↓x_star, ↓x_tup, ↓x_lst, ↓x_callB, ↓x_call, ↓x_callK, ↓x_meth, ↓x_make, ↓x_fld, ↓x_fldS, ↓x_bm0, ↓x_bm, ↓x_sl, ↓x_nop, ↓x_prt, ↓x_neg, ↓x_revL, ↓x_lc, ↓x_for, ↓x_diSeq, ↓x_diEnum, ↓x_rng1, ↓y_addi, ↓y_adds, ↓y_addt, ↓y_int, ↓y_intC, ↓y_is, ↓y_isn, ↓y_nnon, ↓y_nbl, ↓y_nint, ↓y_nstr, ↓y_ntup, ↓y_nref, ↓y_t0, ↓y_t1, ↓y_t2, ↓y_t3, ↓y_m2, ↓y_m3, ↓y_len0, ↓y_len1, ↓y_len2, ↓y_len3, ↓y_len, ↓y_lenS, ↓y_itt, ↓y_iss, ↓y_iii, ↓y_iib, ↓y_i1, ↓y_i1b, ↓y_abs, ↓y_strI, ↓y_slt, ↓y_sls, ↓y_tys, ↓y_gs0, ↓y_gs1, ↓y_gs2, ↓y_gs3, ↓y_gs4, ↓y_gs5, ↓y_gs6, ↓y_gs7, ↓bIn_2, ↓bNotIn_2, ↓bEq_int, ↓bNe_int, wipeD, List.map_cons, List.map_nil, List.set_cons_zero, List.set_cons_succ, Option.some.injEq, exists_and_left, exists_eq_left', exists_eq_left, decide_true, decide_false, Bool.false_eq_true, reduceIte, Bool.not_true, Bool.not_false, List.length_cons, List.length_nil, Nat.reduceAdd, Nat.zero_add, line16, Nat.reduceLeDiff, Int.reduceEq, Int.reduceLT, Int.reduceLE, Int.reduceNeg, or_true, true_or, or_self, or_false, false_or, true_and, and_true, and_self, List.cons_append, List.nil_append, List.append_nil, forall_const]
    exact Fg.now (q c M1 hMc hS hc1)
end
end K76
namespace K76
open PySem PySem.Spec PyProof.Rows L2 DL
section
variable {P : Program} {w : World} {K : PySem.W.Frag} {mg : Str → Option Value} {base : Heap}
theorem ok_count (T : Tx K mg) : ∀ n : Nat, DFn P w K mg base CX0 (n + 1) T.f__law_count T.d__law_count ["program"] (sp_count n)
  | 0 => n__law_count T 0 ⟨fun ds M Q E h => absurd h.1 (by decide), fun A outer s H args us vs ds M Q E hr hg he hb hv hR hM h => absurd h.1 (by decide)⟩
  | n + 1 => n__law_count T (n + 1) ((ok_count T n).imp fun ds M Q E h => h.2)
def sp__law_count : DSp := sp_count 15
theorem ok__law_count (T : Tx K mg) : DFn P w K mg base CX0 16 T.f__law_count T.d__law_count ["program"] sp__law_count := ok_count T 15
def sp__law_program : DSp := fun ds M Q E => ∃ (a g : Addr) (many : Nat), ds = [.ref a, .int ((many : Nat) : Int), .int 12] ∧ 1 ≤ many ∧ many ≤ 6 ∧ Dk a g M ∧ ∀ (ps : List Part) M', okPs ps = true → ps ≠ [] → cPs ps ≤ 12 → Dk a g M' → Kp a g M M' → Q (.tup (pDs ps)) M'
theorem ok__law_program (T : Tx K mg) : DFn P w K mg base CX0 17 T.f__law_program T.d__law_program ["deck", "many", "left"] sp__law_program := by
  refine dfn_of (N := N__law_program) T.F__law_program sc__law_program (by decide) (fun ds M Q E h => ?_) (fun cdv A outer s H hr hgd => (dss_cons (ds_asg (de_call (ok__law_parts T) (hr.mono (by omega)) hgd rfl T.g__law_parts T.F__law_parts.kp T.b__law_parts dpass0 (da_cons (de_var 0) (da_cons (de_listRg rfl rfl T.n_list rfl T.n_range (de_var 1)) (da_cons (de_var 2) (da_cons de_int da_nil))))) (dg_tup (n := 2) rfl (dgs_cons (dg_name (i := 3) sc__law_program.nd rfl (Or.inl rfl)) (dgs_cons (dg_name (i := 4) sc__law_program.nd rfl (Or.inl rfl)) dgs_nil)))) (dss_cons (ds_if (dt_cmp (op_eqD hr.units) tr_eq (de_ix (hu_of hr) (de_call (ok__law_count T) (hr.mono (by omega)) hgd rfl T.g__law_count T.F__law_count.kp T.b__law_count dpass0 (da_cons (de_var 3) da_nil)) de_int) de_int (nomark _)) (dss_one (ds_set (i := 3) sc__law_program.nd rfl (Or.inl rfl) (de_tup (da_cons (de_tup (da_cons de_str (da_cons (de_call (ok__law_draw T) (hr.mono (by omega)) hgd rfl T.g__law_draw T.F__law_draw.kp T.b__law_draw dpass0 (da_cons (de_var 0) (da_cons (de_var 1) da_nil))) (da_cons (de_tup da_nil) da_nil)))) da_nil)))) dss_nil) (dss_one (ds_ret (de_var 3)))))) ?_
  · obtain ⟨_, _, _, rfl, _⟩ := h; rfl
  rintro ds M Q E ⟨a, g, many, rfl, h1, h2, hD, q⟩
  rw [st__law_program]
  simp only [↓x_seq, ↓x_next, ↓x_ret, ↓x_retN, ↓x_drop, ↓x_if, ↓x_asg, ↓x_false, ↓x_brk, ↓x_cnt, ↓x_g0, ↓x_v0, ↓x_g1, ↓x_v1, ↓x_g2, ↓x_v2, ↓x_g3, ↓x_v3, ↓x_g4, ↓x_v4, ↓x_g5, ↓x_v5, ↓x_g6, ↓x_v6, ↓x_g7, ↓x_v7, ↓x_g8, ↓x_v8, ↓x_g9, ↓x_v9, ↓x_g10, ↓x_v10, ↓x_g11, ↓x_v11, ↓x_g12, ↓x_v12, ↓x_g13, ↓x_v13, ↓x_g14, ↓x_v14, ↓x_g15, ↓x_v15, ↓x_g16, ↓x_v16, ↓x_g17, ↓x_v17, ↓x_g18, ↓x_v18, ↓x_g19, ↓x_v19, ↓x_gt2, ↓x_gt3, ↓x_gt4, ↓x_gt5, ↓x_gt6, ↓x_gc, ↓x_gn, ↓x_par2, ↓x_p2, ↓x_par3, ↓x_p3, ↓x_C, ↓x_op, ↓x_test, ↓x_chain, ↓x_andT, ↓x_orT, ↓x_notT, ↓x_ifE, ↓x_andV, ↓x_orV, ↓x_notV, ↓x_nil, ↓x_cons, ↓x_star, ↓x_tup, ↓x_lst, ↓x_callB, ↓x_call, ↓x_callK, ↓x_meth, ↓x_make, ↓x_fld, ↓x_fldS, ↓x_bm0, ↓x_bm, ↓x_sl, ↓x_nop, ↓x_prt, ↓x_neg, ↓x_revL, ↓x_lc, ↓x_for, ↓x_diSeq, ↓x_diEnum, ↓x_rng1, ↓y_addi, ↓y_adds, ↓y_addt, ↓y_int, ↓y_intC, ↓y_is, ↓y_isn, ↓y_nnon, ↓y_nbl, ↓y_nint, ↓y_nstr, ↓y_ntup, ↓y_nref, ↓y_t0, ↓y_t1, ↓y_t2, ↓y_t3, ↓y_m2, ↓y_m3, ↓y_len0, ↓y_len1, ↓y_len2, ↓y_len3, ↓y_len, ↓y_lenS, ↓y_itt, ↓y_iss, ↓y_iii, ↓y_iib, ↓y_i1, ↓y_i1b, ↓y_abs, ↓y_strI, ↓y_slt, ↓y_sls, ↓y_tys, ↓y_gs0, ↓y_gs1, ↓y_gs2, ↓y_gs3, ↓y_gs4, ↓y_gs5, ↓y_gs6, ↓y_gs7, ↓bIn_2, ↓bNotIn_2, ↓bEq_int, ↓bNe_int, wipeD, List.map_cons, List.map_nil, List.set_cons_zero, List.set_cons_succ, Option.some.injEq, exists_and_left, exists_eq_left', exists_eq_left, decide_true, decide_false, Bool.false_eq_true, reduceIte, Bool.not_true, Bool.not_false, List.length_cons, List.length_nil, Nat.reduceAdd, Nat.zero_add, line16, Nat.reduceLeDiff, Int.reduceEq, Int.reduceLT, Int.reduceLE, Int.reduceNeg, Int.cast_ofNat_Int, or_true, true_or, or_self, or_false, false_or, true_and, and_true, and_self, List.cons_append, List.nil_append, List.append_nil, forall_const, dListRg]
  refine ⟨by omega, by omega, fun c hc => ?_⟩
  have hcn := hD.na hc
  refine ⟨a, g, c, List.range many, 12, rfl, by omega, by omega, ⟨?_, hcn.1, hcn.2, fun x hx => by have := List.mem_range.mp hx; omega, by rw [List.length_range]; omega⟩, hD.kp_new hc, fun ps M1 hok hne hle hD1 hK1 => ?_⟩
  · rw [put_same, Int.toNat_natCast]; unfold nI; rw [List.map_map]; rfl
  have hK2 : Kp a g M M1 := (Kp.refl.new2 hc).trans hK1
  simp only [↓x_seq, ↓x_next, ↓x_ret, ↓x_retN, ↓x_drop, ↓x_if, ↓x_asg, ↓x_false, ↓x_brk, ↓x_cnt, ↓x_g0, ↓x_v0, ↓x_g1, ↓x_v1, ↓x_g2, ↓x_v2, ↓x_g3, ↓x_v3, ↓x_g4, ↓x_v4, ↓x_g5, ↓x_v5, ↓x_g6, ↓x_v6, ↓x_g7, ↓x_v7, ↓x_g8, ↓x_v8, ↓x_g9, ↓x_v9, ↓x_g10, ↓x_v10, ↓x_g11, ↓x_v11, ↓x_g12, ↓x_v12, ↓x_g13, ↓x_v13, ↓x_g14, ↓x_v14, ↓x_g15, ↓x_v15, ↓x_g16, ↓x_v16, ↓x_g17, ↓x_v17, ↓x_g18, ↓x_v18, ↓x_g19, ↓x_v19, ↓x_gt2, ↓x_gt3, ↓x_gt4, ↓x_gt5, ↓x_gt6, ↓x_gc, ↓x_gn, ↓x_par2, ↓x_p2, ↓x_par3, ↓x_p3, ↓x_C, ↓x_op, ↓x_test, ↓x_chain, ↓x_andT, ↓x_orT, ↓x_notT, ↓x_ifE, ↓x_andV, ↓x_orV, ↓x_notV, ↓x_nil, ↓x_cons, ↓x_star, ↓x_tup, ↓x_lst, ↓x_callB, ↓x_call, ↓x_callK, ↓x_meth, ↓x_make, ↓x_fld, ↓x_fldS, ↓x_bm0, ↓x_bm, ↓x_sl, ↓x_nop, ↓x_prt, ↓x_neg, ↓x_revL, ↓x_lc, ↓x_for, ↓x_diSeq, ↓x_diEnum, ↓x_rng1, ↓y_addi, ↓y_adds, ↓y_addt, ↓y_int, ↓y_intC, ↓y_is, ↓y_isn, ↓y_nnon, ↓y_nbl, ↓y_nint, ↓y_nstr, ↓y_ntup, ↓y_nref, ↓y_t0, ↓y_t1, ↓y_t2, ↓y_t3, ↓y_m2, ↓y_m3, ↓y_len0, ↓y_len1, ↓y_len2, ↓y_len3, ↓y_len, ↓y_lenS, ↓y_itt, ↓y_iss, ↓y_iii, ↓y_iib, ↓y_i1, ↓y_i1b, ↓y_abs, ↓y_strI, ↓y_slt, ↓y_sls, ↓y_tys, ↓y_gs0, ↓y_gs1, ↓y_gs2, ↓y_gs3, ↓y_gs4, ↓y_gs5, ↓y_gs6, ↓y_gs7, ↓bIn_2, ↓bNotIn_2, ↓bEq_int, ↓bNe_int, wipeD, List.map_cons, List.map_nil, List.set_cons_zero, List.set_cons_succ, Option.some.injEq, exists_and_left, exists_eq_left', exists_eq_left, decide_true, decide_false, Bool.false_eq_true, reduceIte, Bool.not_true, Bool.not_false, List.length_cons, List.length_nil, Nat.reduceAdd, Nat.zero_add, line16, Nat.reduceLeDiff, Int.reduceEq, Int.reduceLT, Int.reduceLE, Int.reduceNeg, Int.cast_ofNat_Int, or_true, true_or, or_self, or_false, false_or, true_and, and_true, and_self, List.cons_append, List.nil_append, List.append_nil, forall_const]
  refine ⟨ps, rfl, hok, by omega, by omega, fun e M2 he hS hv => ?_⟩
  have hD2 := hD1.sub hS
  have hK3 : Kp a g M M2 := hK2.trans (Kp.sub hS)
  simp only [↓y_ixl hv, atI_1, ↓x_seq, ↓x_next, ↓x_ret, ↓x_retN, ↓x_drop, ↓x_if, ↓x_asg, ↓x_false, ↓x_brk, ↓x_cnt, ↓x_g0, ↓x_v0, ↓x_g1, ↓x_v1, ↓x_g2, ↓x_v2, ↓x_g3, ↓x_v3, ↓x_g4, ↓x_v4, ↓x_g5, ↓x_v5, ↓x_g6, ↓x_v6, ↓x_g7, ↓x_v7, ↓x_g8, ↓x_v8, ↓x_g9, ↓x_v9, ↓x_g10, ↓x_v10, ↓x_g11, ↓x_v11, ↓x_g12, ↓x_v12, ↓x_g13, ↓x_v13, ↓x_g14, ↓x_v14, ↓x_g15, ↓x_v15, ↓x_g16, ↓x_v16, ↓x_g17, ↓x_v17, ↓x_g18, ↓x_v18, ↓x_g19, ↓x_v19, ↓x_gt2, ↓x_gt3, ↓x_gt4, ↓x_gt5, ↓x_gt6, ↓x_gc, ↓x_gn, ↓x_par2, ↓x_p2, ↓x_par3, ↓x_p3, ↓x_C, ↓x_op, ↓x_test, ↓x_chain, ↓x_andT, ↓x_orT, ↓x_notT, ↓x_ifE, ↓x_andV, ↓x_orV, ↓x_notV, ↓x_nil, ↓x_cons, ↓x_star, ↓x_tup, ↓x_lst, ↓x_callB, ↓x_call, ↓x_callK, ↓x_meth, ↓x_make, ↓x_fld, ↓x_fldS, ↓x_bm0, ↓x_bm, ↓x_sl, ↓x_nop, ↓x_prt, ↓x_neg, ↓x_revL, ↓x_lc, ↓x_for, ↓x_diSeq, ↓x_diEnum, ↓x_rng1, ↓y_addi, ↓y_adds, ↓y_addt, ↓y_int, ↓y_intC, ↓y_is, ↓y_isn, ↓y_nnon, ↓y_nbl, ↓y_nint, ↓y_nstr, ↓y_ntup, ↓y_nref, ↓y_t0, ↓y_t1, ↓y_t2, ↓y_t3, ↓y_m2, ↓y_m3, ↓y_len0, ↓y_len1, ↓y_len2, ↓y_len3, ↓y_len, ↓y_lenS, ↓y_itt, ↓y_iss, ↓y_iii, ↓y_iib, ↓y_i1, ↓y_i1b, ↓y_abs, ↓y_strI, ↓y_slt, ↓y_sls, ↓y_tys, ↓y_gs0, ↓y_gs1, ↓y_gs2, ↓y_gs3, ↓y_gs4, ↓y_gs5, ↓y_gs6, ↓y_gs7, ↓bIn_2, ↓bNotIn_2, ↓bEq_int, ↓bNe_int, wipeD, List.map_cons, List.map_nil, List.set_cons_zero, List.set_cons_succ, Option.some.injEq, exists_and_left, exists_eq_left', exists_eq_left, decide_true, decide_false, Bool.false_eq_true, reduceIte, Bool.not_true, Bool.not_false, List.length_cons, List.length_nil, Nat.reduceAdd, Nat.zero_add, line16, Nat.reduceLeDiff, Int.reduceEq, Int.reduceLT, Int.reduceLE, Int.reduceNeg, Int.cast_ofNat_Int, or_true, true_or, or_self, or_false, false_or, true_and, and_true, and_self, List.cons_append, List.nil_append, List.append_nil, forall_const]
  by_cases hz : ((iPs ps : Nat) : Int) = 0
  · simp only [hz, ↓x_seq, ↓x_next, ↓x_ret, ↓x_retN, ↓x_drop, ↓x_if, ↓x_asg, ↓x_false, ↓x_brk, ↓x_cnt, ↓x_g0, ↓x_v0, ↓x_g1, ↓x_v1, ↓x_g2, ↓x_v2, ↓x_g3, ↓x_v3, ↓x_g4, ↓x_v4, ↓x_g5, ↓x_v5, ↓x_g6, ↓x_v6, ↓x_g7, ↓x_v7, ↓x_g8, ↓x_v8, ↓x_g9, ↓x_v9, ↓x_g10, ↓x_v10, ↓x_g11, ↓x_v11, ↓x_g12, ↓x_v12, ↓x_g13, ↓x_v13, ↓x_g14, ↓x_v14, ↓x_g15, ↓x_v15, ↓x_g16, ↓x_v16, ↓x_g17, ↓x_v17, ↓x_g18, ↓x_v18, ↓x_g19, ↓x_v19, ↓x_gt2, ↓x_gt3, ↓x_gt4, ↓x_gt5, ↓x_gt6, ↓x_gc, ↓x_gn, ↓x_par2, ↓x_p2, ↓x_par3, ↓x_p3, ↓x_C, ↓x_op, ↓x_test, ↓x_chain, ↓x_andT, ↓x_orT, ↓x_notT, ↓x_ifE, ↓x_andV, ↓x_orV, ↓x_notV, ↓x_nil, ↓x_cons, ↓x_star, ↓x_tup, ↓x_lst, ↓x_callB, ↓x_call, ↓x_callK, ↓x_meth, ↓x_make, ↓x_fld, ↓x_fldS, ↓x_bm0, ↓x_bm, ↓x_sl, ↓x_nop, ↓x_prt, ↓x_neg, ↓x_revL, ↓x_lc, ↓x_for, ↓x_diSeq, ↓x_diEnum, ↓x_rng1, ↓y_addi, ↓y_adds, ↓y_addt, ↓y_int, ↓y_intC, ↓y_is, ↓y_isn, ↓y_nnon, ↓y_nbl, ↓y_nint, ↓y_nstr, ↓y_ntup, ↓y_nref, ↓y_t0, ↓y_t1, ↓y_t2, ↓y_t3, ↓y_m2, ↓y_m3, ↓y_len0, ↓y_len1, ↓y_len2, ↓y_len3, ↓y_len, ↓y_lenS, ↓y_itt, ↓y_iss, ↓y_iii, ↓y_iib, ↓y_i1, ↓y_i1b, ↓y_abs, ↓y_strI, ↓y_slt, ↓y_sls, ↓y_tys, ↓y_gs0, ↓y_gs1, ↓y_gs2, ↓y_gs3, ↓y_gs4, ↓y_gs5, ↓y_gs6, ↓y_gs7, ↓bIn_2, ↓bNotIn_2, ↓bEq_int, ↓bNe_int, wipeD, List.map_cons, List.map_nil, List.set_cons_zero, List.set_cons_succ, Option.some.injEq, exists_and_left, exists_eq_left', exists_eq_left, decide_true, decide_false, Bool.false_eq_true, reduceIte, Bool.not_true, Bool.not_false, List.length_cons, List.length_nil, Nat.reduceAdd, Nat.zero_add, line16, Nat.reduceLeDiff, Int.reduceEq, Int.reduceLT, Int.reduceLE, Int.reduceNeg, Int.cast_ofNat_Int, or_true, true_or, or_self, or_false, false_or, true_and, and_true, and_self, List.cons_append, List.nil_append, List.append_nil, forall_const]
    refine ⟨a, g, many, rfl, h1, by omega, hD2, fun r M3 hr hD3 hK4 => ?_⟩
    have := q [.inn r []] M3 (by simp [okPs, okP]; omega) (by simp) (by simp [cPs, cP]) hD3 (hK3.trans hK4)
    simp only [pDs, pD] at this
    simp only [↓x_seq, ↓x_next, ↓x_ret, ↓x_retN, ↓x_drop, ↓x_if, ↓x_asg, ↓x_false, ↓x_brk, ↓x_cnt, ↓x_g0, ↓x_v0, ↓x_g1, ↓x_v1, ↓x_g2, ↓x_v2, ↓x_g3, ↓x_v3, ↓x_g4, ↓x_v4, ↓x_g5, ↓x_v5, ↓x_g6, ↓x_v6, ↓x_g7, ↓x_v7, ↓x_g8, ↓x_v8, ↓x_g9, ↓x_v9, ↓x_g10, ↓x_v10, ↓x_g11, ↓x_v11, ↓x_g12, ↓x_v12, ↓x_g13, ↓x_v13, ↓x_g14, ↓x_v14, ↓x_g15, ↓x_v15, ↓x_g16, ↓x_v16, ↓x_g17, ↓x_v17, ↓x_g18, ↓x_v18, ↓x_g19, ↓x_v19, ↓x_gt2, ↓x_gt3, ↓x_gt4, ↓x_gt5, ↓x_gt6, ↓x_gc, ↓x_gn, ↓x_par2, ↓x_p2, ↓x_par3, ↓x_p3, ↓x_C, ↓x_op, ↓x_test, ↓x_chain, ↓x_andT, ↓x_orT, ↓x_notT, ↓x_ifE, ↓x_andV, ↓x_orV, ↓x_notV, ↓x_nil, ↓x_cons, ↓x_star, ↓x_tup, ↓x_lst, ↓x_callB, ↓x_call, ↓x_callK, ↓x_meth, ↓x_make, ↓x_fld, ↓x_fldS, ↓x_bm0, ↓x_bm, ↓x_sl, ↓x_nop, ↓x_prt, ↓x_neg, ↓x_revL, ↓x_lc, ↓x_for, ↓x_diSeq, ↓x_diEnum, ↓x_rng1, ↓y_addi, ↓y_adds, ↓y_addt, ↓y_int, ↓y_intC, ↓y_is, ↓y_isn, ↓y_nnon, ↓y_nbl, ↓y_nint, ↓y_nstr, ↓y_ntup, ↓y_nref, ↓y_t0, ↓y_t1, ↓y_t2, ↓y_t3, ↓y_m2, ↓y_m3, ↓y_len0, ↓y_len1, ↓y_len2, ↓y_len3, ↓y_len, ↓y_lenS, ↓y_itt, ↓y_iss, ↓y_iii, ↓y_iib, ↓y_i1, ↓y_i1b, ↓y_abs, ↓y_strI, ↓y_slt, ↓y_sls, ↓y_tys, ↓y_gs0, ↓y_gs1, ↓y_gs2, ↓y_gs3, ↓y_gs4, ↓y_gs5, ↓y_gs6, ↓y_gs7, ↓bIn_2, ↓bNotIn_2, ↓bEq_int, ↓bNe_int, wipeD, List.map_cons, List.map_nil, List.set_cons_zero, List.set_cons_succ, Option.some.injEq, exists_and_left, exists_eq_left', exists_eq_left, decide_true, decide_false, Bool.false_eq_true, reduceIte, Bool.not_true, Bool.not_false, List.length_cons, List.length_nil, Nat.reduceAdd, Nat.zero_add, line16, Nat.reduceLeDiff, Int.reduceEq, Int.reduceLT, Int.reduceLE, Int.reduceNeg, Int.cast_ofNat_Int, or_true, true_or, or_self, or_false, false_or, true_and, and_true, and_self, List.cons_append, List.nil_append, List.append_nil, forall_const]
    exact Fg.now this
  · simp only [hz, ↓x_seq, ↓x_next, ↓x_ret, ↓x_retN, ↓x_drop, ↓x_if, ↓x_asg, ↓x_false, ↓x_brk, ↓x_cnt, ↓x_g0, ↓x_v0, ↓x_g1, ↓x_v1, ↓x_g2, ↓x_v2, ↓x_g3, ↓x_v3, ↓x_g4, ↓x_v4, ↓x_g5, ↓x_v5, ↓x_g6, ↓x_v6, ↓x_g7, ↓x_v7, ↓x_g8, ↓x_v8, ↓x_g9, ↓x_v9, ↓x_g10, ↓x_v10, ↓x_g11, ↓x_v11, ↓x_g12, ↓x_v12, ↓x_g13, ↓x_v13, ↓x_g14, ↓x_v14, ↓x_g15, ↓x_v15, ↓x_g16, ↓x_v16, ↓x_g17, ↓x_v17, ↓x_g18, ↓x_v18, ↓x_g19, ↓x_v19, ↓x_gt2, ↓x_gt3, ↓x_gt4, ↓x_gt5, ↓x_gt6, ↓x_gc, ↓x_gn, ↓x_par2, ↓x_p2, ↓x_par3, ↓x_p3, ↓x_C, ↓x_op, ↓x_test, ↓x_chain, ↓x_andT, ↓x_orT, ↓x_notT, ↓x_ifE, ↓x_andV, ↓x_orV, ↓x_notV, ↓x_nil, ↓x_cons, ↓x_star, ↓x_tup, ↓x_lst, ↓x_callB, ↓x_call, ↓x_callK, ↓x_meth, ↓x_make, ↓x_fld, ↓x_fldS, ↓x_bm0, ↓x_bm, ↓x_sl, ↓x_nop, ↓x_prt, ↓x_neg, ↓x_revL, ↓x_lc, ↓x_for, ↓x_diSeq, ↓x_diEnum, ↓x_rng1, ↓y_addi, ↓y_adds, ↓y_addt, ↓y_int, ↓y_intC, ↓y_is, ↓y_isn, ↓y_nnon, ↓y_nbl, ↓y_nint, ↓y_nstr, ↓y_ntup, ↓y_nref, ↓y_t0, ↓y_t1, ↓y_t2, ↓y_t3, ↓y_m2, ↓y_m3, ↓y_len0, ↓y_len1, ↓y_len2, ↓y_len3, ↓y_len, ↓y_lenS, ↓y_itt, ↓y_iss, ↓y_iii, ↓y_iib, ↓y_i1, ↓y_i1b, ↓y_abs, ↓y_strI, ↓y_slt, ↓y_sls, ↓y_tys, ↓y_gs0, ↓y_gs1, ↓y_gs2, ↓y_gs3, ↓y_gs4, ↓y_gs5, ↓y_gs6, ↓y_gs7, ↓bIn_2, ↓bNotIn_2, ↓bEq_int, ↓bNe_int, wipeD, List.map_cons, List.map_nil, List.set_cons_zero, List.set_cons_succ, Option.some.injEq, exists_and_left, exists_eq_left', exists_eq_left, decide_true, decide_false, Bool.false_eq_true, reduceIte, Bool.not_true, Bool.not_false, List.length_cons, List.length_nil, Nat.reduceAdd, Nat.zero_add, line16, Nat.reduceLeDiff, Int.reduceEq, Int.reduceLT, Int.reduceLE, Int.reduceNeg, Int.cast_ofNat_Int, or_true, true_or, or_self, or_false, false_or, true_and, and_true, and_self, List.cons_append, List.nil_append, List.append_nil, forall_const]
    exact Fg.now (q ps M2 hok hne hle hD2 hK3)
def sp__law_lots : DSp := fun ds M Q E => ∃ p : Part, ds = [.int 6, pD p] ∧ okP p = true ∧ cP p ≤ 13 ∧ ∀ c M', M c = none → Sub M M' → M' c = some (.lst ((lotsP p).map fun l => .tup (pDs l))) → Q (.ref c) M'
theorem ok__law_lots (T : Tx K mg) : DFn P w K mg base CX0 1 T.f__law_lots T.d__law_lots ["many", "part"] sp__law_lots := by
  refine dfn_of (N := N__law_lots) T.F__law_lots sc__law_lots (by decide) (fun ds M Q E h => ?_) (fun cdv A outer s H hr hgd => (dss_cons (ds_if (DW.dt (dw_or (dt_not (dt_val (de_callB call_isi tr_isi rfl T.n_isinstance bt_isinstance (da_cons (de_var 1) (da_cons (de_bty rfl T.n_tuple bt_tuple) da_nil))))) (dw_or (dt_cmp (op_eqD hr.units) tr_eq (de_var 1) (de_tup da_nil) (nomark _)) (dw_or1 (dt_not (dt_val (de_callB call_isi tr_isi rfl T.n_isinstance bt_isinstance (da_cons (de_ix (hu_of hr) (de_var 1) de_int) (da_cons (de_bty rfl T.n_str bt_str) da_nil))))))))) (dss_one (ds_ret de_non)) dss_nil) (dss_cons (ds_if (DW.dt (dw_and (dt_cmp (op_eqD hr.units) tr_eq (de_ix (hu_of hr) (de_var 1) de_int) de_str (nomark _)) (dw_and (dt_cmp (op_eqD hr.units) tr_eq (de_callB call_len tr_len rfl T.n_len bt_len (da_cons (de_var 1) da_nil)) de_int (nomark _)) (dw_and1 (dt_val (de_callB call_isi tr_isi rfl T.n_isinstance bt_isinstance (da_cons (de_ix (hu_of hr) (de_var 1) de_int) (da_cons (de_bty rfl T.n_tuple bt_tuple) da_nil)))))))) (dss_cons (ds_set (i := 2) sc__law_lots.nd rfl (Or.inl rfl) (de_and (de_callB call_isi tr_isi rfl T.n_isinstance bt_isinstance (da_cons (de_ix (hu_of hr) (de_var 1) de_int) (da_cons (de_bty rfl T.n_int bt_int) da_nil))) (de_and (de_not (de_callB call_isi tr_isi rfl T.n_isinstance bt_isinstance (da_cons (de_ix (hu_of hr) (de_var 1) de_int) (da_cons (de_bty rfl T.n_bool bt_bool) da_nil)))) (de_one (de_chain op_le op_lt tr_intB tr_intB de_int (de_ix (hu_of hr) (de_var 1) de_int) (de_var 0)))))) (dss_one (ds_ret (de_if (dt_val (de_var 2)) (de_lst (da_cons (de_ix (hu_of hr) (de_var 1) de_int) da_nil)) de_non)))) dss_nil) (dss_cons (ds_if (DW.dt (dw_or (dt_cmp (op_neD hr.units) tr_ne (de_callB call_len tr_len rfl T.n_len bt_len (da_cons (de_var 1) da_nil)) de_int (nomark _)) (dw_or1 (dt_not (dt_val (de_callB call_isi tr_isi rfl T.n_isinstance bt_isinstance (da_cons (de_ix (hu_of hr) (de_var 1) de_int) (da_cons (de_bty rfl T.n_tuple bt_tuple) da_nil)))))))) (dss_one (ds_ret de_non)) dss_nil) (dss_cons (ds_if (dt_cmp (op_eqD hr.units) tr_eq (de_ix (hu_of hr) (de_var 1) de_int) de_str (nomark _)) (dss_one (ds_ret (de_if (dt_cmp (op_neD hr.units) tr_ne (de_ix (hu_of hr) (de_var 1) de_int) (de_tup da_nil) (nomark _)) (de_lst (da_cons (de_ix (hu_of hr) (de_var 1) de_int) da_nil)) de_non))) dss_nil) (dss_cons (ds_if (DW.dt (dw_and (dt_cmp (op_eqD hr.units) tr_eq (de_ix (hu_of hr) (de_var 1) de_int) de_str (nomark _)) (dw_and (dt_chain op_le op_le tr_intB tr_intB de_int (de_callB call_len tr_len rfl T.n_len bt_len (da_cons (de_ix (hu_of hr) (de_var 1) de_int) da_nil)) de_int) (dw_and1 (dt_val (de_callB (cr_all rfl) tr_all rfl T.n_all bt_all (da_cons (de_lc (own := [("own", 3)]) rfl sc__law_lots.nd (di_seq (de_ix (hu_of hr) (de_var 1) de_int)) (blkOk_by (N := N__law_lots) (sc := defScope s__law_lots) (by decide +kernel)) (fun _ _ _ _ _ => (pg_name (i := 3) sc__law_lots.nd rfl (by first | exact Or.inl rfl | exact Or.inr rfl))) dgr_name (only_name (by decide)) (fun _ _ _ _ _ => (de_callB call_isi tr_isi rfl T.n_isinstance bt_isinstance (da_cons (de_var 3) (da_cons (de_bty rfl T.n_tuple bt_tuple) da_nil))))) da_nil))))))) (dss_one (ds_ret (de_callTy call_list_of tr_list rfl T.n_list bt_list (da_cons (de_ix (hu_of hr) (de_var 1) de_int) da_nil)))) dss_nil) (dss_one (ds_ret de_non)))))))) ?_
  · obtain ⟨_, rfl, _⟩ := h; rfl
  rintro ds M Q E ⟨p, rfl, hp, hc, q⟩
  rw [st__law_lots]
  have ne3 : ∀ (a b c : D), bEq (.tup [a, b, c]) (.tup []) = bEq (.tup [a, b, c]) (.tup []) := fun _ _ _ => rfl
  cases p with
  | inn r own =>
    have hr : r < 6 := by simp [okP] at hp; exact hp.1
    have hsh : SeqAt.shaped (.tuple [.str "in", .int (r : Int), .tuple (pPs own)]) = true := by
      have h1 := lay_p (.inn r own); have h2 := dep_p (.inn r own)
      rw [pP] at h1 h2
      simp only [SeqAt.shaped, h1, Bool.true_and, decide_eq_true_eq]; omega
    have hE : ∀ Q', bEq (.tup [.str "in", .int (r : Int), .tup (pDs own)]) (.tup []) M Q' = Q' (.bl false) M := fun Q' => bEq_tnil (ps := [.str "in", .int (r : Int), .tuple (pPs own)]) (by simp [toPs, toP, toP_ps]) hsh
    have e1 : (0 : Int) ≤ (r : Int) := by omega
    have e2 : (r : Int) < 6 := by omega
    rw [show pD (.inn r own) = .tup [.str "in", .int (r : Int), .tup (pDs own)] by rw [pD]]
    simp only [↓hE, ↓bEq_str so_in so_in, e1, e2, ↓x_seq, ↓x_next, ↓x_ret, ↓x_retN, ↓x_drop, ↓x_if, ↓x_asg, ↓x_false, ↓x_brk, ↓x_cnt, ↓x_g0, ↓x_v0, ↓x_g1, ↓x_v1, ↓x_g2, ↓x_v2, ↓x_g3, ↓x_v3, ↓x_g4, ↓x_v4, ↓x_g5, ↓x_v5, ↓x_g6, ↓x_v6, ↓x_g7, ↓x_v7, ↓x_g8, ↓x_v8, ↓x_g9, ↓x_v9, ↓x_g10, ↓x_v10, ↓x_g11, ↓x_v11, ↓x_g12, ↓x_v12, ↓x_g13, ↓x_v13, ↓x_g14, ↓x_v14, ↓x_g15, ↓x_v15, ↓x_g16, ↓x_v16, ↓x_g17, ↓x_v17, ↓x_g18, ↓x_v18, ↓x_g19, ↓x_v19, ↓x_gt2, ↓x_gt3, ↓x_gt4, ↓x_gt5, ↓x_gt6, ↓x_gc, ↓x_gn, ↓x_par2, ↓x_p2, ↓x_par3, ↓x_p3, ↓x_C, ↓x_op, ↓x_test, ↓x_chain, ↓x_andT, ↓x_orT, ↓x_notT, ↓x_ifE, ↓x_andV, ↓x_orV, ↓x_notV, ↓x_nil, ↓x_cons, ↓x_star, ↓x_tup, ↓x_lst, ↓x_callB, ↓x_call, ↓x_callK, ↓x_meth, ↓x_make, ↓x_fld, ↓x_fldS, ↓x_bm0, ↓x_bm, ↓x_sl, ↓x_nop, ↓x_prt, ↓x_neg, ↓x_revL, ↓x_lc, ↓x_for, ↓x_diSeq, ↓x_diEnum, ↓x_rng1, ↓y_addi, ↓y_adds, ↓y_addt, ↓y_int, ↓y_intC, ↓y_is, ↓y_isn, ↓y_nnon, ↓y_nbl, ↓y_nint, ↓y_nstr, ↓y_ntup, ↓y_nref, ↓y_t0, ↓y_t1, ↓y_t2, ↓y_t3, ↓y_m2, ↓y_m3, ↓y_len0, ↓y_len1, ↓y_len2, ↓y_len3, ↓y_len, ↓y_lenS, ↓y_itt, ↓y_iss, ↓y_iii, ↓y_iib, ↓y_i1, ↓y_i1b, ↓y_abs, ↓y_strI, ↓y_slt, ↓y_sls, ↓y_tys, ↓y_gs0, ↓y_gs1, ↓y_gs2, ↓y_gs3, ↓y_gs4, ↓y_gs5, ↓y_gs6, ↓y_gs7, ↓bIn_2, ↓bNotIn_2, ↓bEq_int, ↓bNe_int, wipeD, List.map_cons, List.map_nil, List.set_cons_zero, List.set_cons_succ, Option.some.injEq, exists_and_left, exists_eq_left', exists_eq_left, decide_true, decide_false, Bool.false_eq_true, reduceIte, Bool.not_true, Bool.not_false, List.length_cons, List.length_nil, Nat.reduceAdd, Nat.zero_add, line16, Nat.reduceLeDiff, Int.reduceEq, Int.reduceLT, Int.reduceLE, Int.reduceNeg, Int.cast_ofNat_Int, or_true, true_or, or_self, or_false, false_or, true_and, and_true, and_self, List.cons_append, List.nil_append, List.append_nil, forall_const]
    intro c hc0
    exact Fg.now (q c _ hc0 (Sub.putNew hc0) (by rw [put_same]; simp [lotsP]))
  | again own =>
    have h0 : own.isEmpty = false := by simp [okP] at hp; cases own <;> simp_all
    have hc' : cPs own ≤ 20 := by simp [cP] at hc; omega
    have hsh : SeqAt.shaped (.tuple [.str "again", .tuple (pPs own)]) = true := by
      have h1 := lay_p (.again own); have h2 := dep_p (.again own)
      rw [pP] at h1 h2
      simp only [SeqAt.shaped, h1, Bool.true_and, decide_eq_true_eq]; omega
    have hE : ∀ Q', bEq (.tup [.str "again", .tup (pDs own)]) (.tup []) M Q' = Q' (.bl false) M := fun Q' => bEq_tnil (ps := [.str "again", .tuple (pPs own)]) (by simp [toPs, toP, toP_ps]) hsh
    rw [show pD (.again own) = .tup [.str "again", .tup (pDs own)] by rw [pD]]
    simp only [↓hE, ↓bEq_str so_again so_in, ↓bEq_str so_again so_again, ne_ai, ↓bNe_pnil hc', h0, ↓x_seq, ↓x_next, ↓x_ret, ↓x_retN, ↓x_drop, ↓x_if, ↓x_asg, ↓x_false, ↓x_brk, ↓x_cnt, ↓x_g0, ↓x_v0, ↓x_g1, ↓x_v1, ↓x_g2, ↓x_v2, ↓x_g3, ↓x_v3, ↓x_g4, ↓x_v4, ↓x_g5, ↓x_v5, ↓x_g6, ↓x_v6, ↓x_g7, ↓x_v7, ↓x_g8, ↓x_v8, ↓x_g9, ↓x_v9, ↓x_g10, ↓x_v10, ↓x_g11, ↓x_v11, ↓x_g12, ↓x_v12, ↓x_g13, ↓x_v13, ↓x_g14, ↓x_v14, ↓x_g15, ↓x_v15, ↓x_g16, ↓x_v16, ↓x_g17, ↓x_v17, ↓x_g18, ↓x_v18, ↓x_g19, ↓x_v19, ↓x_gt2, ↓x_gt3, ↓x_gt4, ↓x_gt5, ↓x_gt6, ↓x_gc, ↓x_gn, ↓x_par2, ↓x_p2, ↓x_par3, ↓x_p3, ↓x_C, ↓x_op, ↓x_test, ↓x_chain, ↓x_andT, ↓x_orT, ↓x_notT, ↓x_ifE, ↓x_andV, ↓x_orV, ↓x_notV, ↓x_nil, ↓x_cons, ↓x_star, ↓x_tup, ↓x_lst, ↓x_callB, ↓x_call, ↓x_callK, ↓x_meth, ↓x_make, ↓x_fld, ↓x_fldS, ↓x_bm0, ↓x_bm, ↓x_sl, ↓x_nop, ↓x_prt, ↓x_neg, ↓x_revL, ↓x_lc, ↓x_for, ↓x_diSeq, ↓x_diEnum, ↓x_rng1, ↓y_addi, ↓y_adds, ↓y_addt, ↓y_int, ↓y_intC, ↓y_is, ↓y_isn, ↓y_nnon, ↓y_nbl, ↓y_nint, ↓y_nstr, ↓y_ntup, ↓y_nref, ↓y_t0, ↓y_t1, ↓y_t2, ↓y_t3, ↓y_m2, ↓y_m3, ↓y_len0, ↓y_len1, ↓y_len2, ↓y_len3, ↓y_len, ↓y_lenS, ↓y_itt, ↓y_iss, ↓y_iii, ↓y_iib, ↓y_i1, ↓y_i1b, ↓y_abs, ↓y_strI, ↓y_slt, ↓y_sls, ↓y_tys, ↓y_gs0, ↓y_gs1, ↓y_gs2, ↓y_gs3, ↓y_gs4, ↓y_gs5, ↓y_gs6, ↓y_gs7, ↓bIn_2, ↓bNotIn_2, ↓bEq_int, ↓bNe_int, wipeD, List.map_cons, List.map_nil, List.set_cons_zero, List.set_cons_succ, Option.some.injEq, exists_and_left, exists_eq_left', exists_eq_left, decide_true, decide_false, Bool.false_eq_true, reduceIte, Bool.not_true, Bool.not_false, List.length_cons, List.length_nil, Nat.reduceAdd, Nat.zero_add, line16, Nat.reduceLeDiff, Int.reduceEq, Int.reduceLT, Int.reduceLE, Int.reduceNeg, Int.cast_ofNat_Int, or_true, true_or, or_self, or_false, false_or, true_and, and_true, and_self, List.cons_append, List.nil_append, List.append_nil, forall_const]
    intro c hc0
    exact Fg.now (q c _ hc0 (Sub.putNew hc0) (by rw [put_same]; simp [lotsP]))
  | either lots =>
    have h0 : 2 ≤ lots.length ∧ lots.length ≤ 4 := by simp [okP] at hp; exact hp.1
    have hsh : SeqAt.shaped (.tuple [.str "either", .tuple (pPss lots)]) = true := by
      have h1 := lay_p (.either lots); have h2 := dep_p (.either lots)
      rw [pP] at h1 h2
      simp only [SeqAt.shaped, h1, Bool.true_and, decide_eq_true_eq]; omega
    have hE : ∀ Q', bEq (.tup [.str "either", .tup (pDss lots)]) (.tup []) M Q' = Q' (.bl false) M := fun Q' => bEq_tnil (ps := [.str "either", .tuple (pPss lots)]) (by simp [toPs, toP, toP_pss]) hsh
    have e1 : (2 : Int) ≤ ((pDss lots).length : Nat) := by rw [pDss_length]; omega
    have e2 : (((pDss lots).length : Nat) : Int) ≤ 4 := by rw [pDss_length]; omega
    rw [show pD (.either lots) = .tup [.str "either", .tup (pDss lots)] by rw [pD]]
    simp only [↓hE, ↓bEq_str so_either so_in, ↓bEq_str so_either so_again, ↓bEq_str so_either so_either, ne_ei, ne_ea, e1, e2, ↓x_seq, ↓x_next, ↓x_ret, ↓x_retN, ↓x_drop, ↓x_if, ↓x_asg, ↓x_false, ↓x_brk, ↓x_cnt, ↓x_g0, ↓x_v0, ↓x_g1, ↓x_v1, ↓x_g2, ↓x_v2, ↓x_g3, ↓x_v3, ↓x_g4, ↓x_v4, ↓x_g5, ↓x_v5, ↓x_g6, ↓x_v6, ↓x_g7, ↓x_v7, ↓x_g8, ↓x_v8, ↓x_g9, ↓x_v9, ↓x_g10, ↓x_v10, ↓x_g11, ↓x_v11, ↓x_g12, ↓x_v12, ↓x_g13, ↓x_v13, ↓x_g14, ↓x_v14, ↓x_g15, ↓x_v15, ↓x_g16, ↓x_v16, ↓x_g17, ↓x_v17, ↓x_g18, ↓x_v18, ↓x_g19, ↓x_v19, ↓x_gt2, ↓x_gt3, ↓x_gt4, ↓x_gt5, ↓x_gt6, ↓x_gc, ↓x_gn, ↓x_par2, ↓x_p2, ↓x_par3, ↓x_p3, ↓x_C, ↓x_op, ↓x_test, ↓x_chain, ↓x_andT, ↓x_orT, ↓x_notT, ↓x_ifE, ↓x_andV, ↓x_orV, ↓x_notV, ↓x_nil, ↓x_cons, ↓x_star, ↓x_tup, ↓x_lst, ↓x_callB, ↓x_call, ↓x_callK, ↓x_meth, ↓x_make, ↓x_fld, ↓x_fldS, ↓x_bm0, ↓x_bm, ↓x_sl, ↓x_nop, ↓x_prt, ↓x_neg, ↓x_revL, ↓x_lc, ↓x_for, ↓x_diSeq, ↓x_diEnum, ↓x_rng1, ↓y_addi, ↓y_adds, ↓y_addt, ↓y_int, ↓y_intC, ↓y_is, ↓y_isn, ↓y_nnon, ↓y_nbl, ↓y_nint, ↓y_nstr, ↓y_ntup, ↓y_nref, ↓y_t0, ↓y_t1, ↓y_t2, ↓y_t3, ↓y_m2, ↓y_m3, ↓y_len0, ↓y_len1, ↓y_len2, ↓y_len3, ↓y_len, ↓y_lenS, ↓y_itt, ↓y_iss, ↓y_iii, ↓y_iib, ↓y_i1, ↓y_i1b, ↓y_abs, ↓y_strI, ↓y_slt, ↓y_sls, ↓y_tys, ↓y_gs0, ↓y_gs1, ↓y_gs2, ↓y_gs3, ↓y_gs4, ↓y_gs5, ↓y_gs6, ↓y_gs7, ↓bIn_2, ↓bNotIn_2, ↓bEq_int, ↓bNe_int, wipeD, List.map_cons, List.map_nil, List.set_cons_zero, List.set_cons_succ, Option.some.injEq, exists_and_left, exists_eq_left', exists_eq_left, decide_true, decide_false, Bool.false_eq_true, reduceIte, Bool.not_true, Bool.not_false, List.length_cons, List.length_nil, Nat.reduceAdd, Nat.zero_add, line16, Nat.reduceLeDiff, Int.reduceEq, Int.reduceLT, Int.reduceLE, Int.reduceNeg, Int.cast_ofNat_Int, or_true, true_or, or_self, or_false, false_or, true_and, and_true, and_self, List.cons_append, List.nil_append, List.append_nil, forall_const]
    refine lcG_mapA lots (fun l => .tup (pDs l)) (fun _ => .bl true) (pDss_map lots) (fun _ _ _ => trivial) (by omega) (fun l hl M' hs R hR => ?_) fun e he => ?_
    · simp only [↓x_seq, ↓x_next, ↓x_ret, ↓x_retN, ↓x_drop, ↓x_if, ↓x_asg, ↓x_false, ↓x_brk, ↓x_cnt, ↓x_g0, ↓x_v0, ↓x_g1, ↓x_v1, ↓x_g2, ↓x_v2, ↓x_g3, ↓x_v3, ↓x_g4, ↓x_v4, ↓x_g5, ↓x_v5, ↓x_g6, ↓x_v6, ↓x_g7, ↓x_v7, ↓x_g8, ↓x_v8, ↓x_g9, ↓x_v9, ↓x_g10, ↓x_v10, ↓x_g11, ↓x_v11, ↓x_g12, ↓x_v12, ↓x_g13, ↓x_v13, ↓x_g14, ↓x_v14, ↓x_g15, ↓x_v15, ↓x_g16, ↓x_v16, ↓x_g17, ↓x_v17, ↓x_g18, ↓x_v18, ↓x_g19, ↓x_v19, ↓x_gt2, ↓x_gt3, ↓x_gt4, ↓x_gt5, ↓x_gt6, ↓x_gc, ↓x_gn, ↓x_par2, ↓x_p2, ↓x_par3, ↓x_p3, ↓x_C, ↓x_op, ↓x_test, ↓x_chain, ↓x_andT, ↓x_orT, ↓x_notT, ↓x_ifE, ↓x_andV, ↓x_orV, ↓x_notV, ↓x_nil, ↓x_cons, ↓x_star, ↓x_tup, ↓x_lst, ↓x_callB, ↓x_call, ↓x_callK, ↓x_meth, ↓x_make, ↓x_fld, ↓x_fldS, ↓x_bm0, ↓x_bm, ↓x_sl, ↓x_nop, ↓x_prt, ↓x_neg, ↓x_revL, ↓x_lc, ↓x_for, ↓x_diSeq, ↓x_diEnum, ↓x_rng1, ↓y_addi, ↓y_adds, ↓y_addt, ↓y_int, ↓y_intC, ↓y_is, ↓y_isn, ↓y_nnon, ↓y_nbl, ↓y_nint, ↓y_nstr, ↓y_ntup, ↓y_nref, ↓y_t0, ↓y_t1, ↓y_t2, ↓y_t3, ↓y_m2, ↓y_m3, ↓y_len0, ↓y_len1, ↓y_len2, ↓y_len3, ↓y_len, ↓y_lenS, ↓y_itt, ↓y_iss, ↓y_iii, ↓y_iib, ↓y_i1, ↓y_i1b, ↓y_abs, ↓y_strI, ↓y_slt, ↓y_sls, ↓y_tys, ↓y_gs0, ↓y_gs1, ↓y_gs2, ↓y_gs3, ↓y_gs4, ↓y_gs5, ↓y_gs6, ↓y_gs7, ↓bIn_2, ↓bNotIn_2, ↓bEq_int, ↓bNe_int, wipeD, List.map_cons, List.map_nil, List.set_cons_zero, List.set_cons_succ, Option.some.injEq, exists_and_left, exists_eq_left', exists_eq_left, decide_true, decide_false, Bool.false_eq_true, reduceIte, Bool.not_true, Bool.not_false, List.length_cons, List.length_nil, Nat.reduceAdd, Nat.zero_add, line16, Nat.reduceLeDiff, Int.reduceEq, Int.reduceLT, Int.reduceLE, Int.reduceNeg, Int.cast_ofNat_Int, or_true, true_or, or_self, or_false, false_or, true_and, and_true, and_self, List.cons_append, List.nil_append, List.append_nil, forall_const]; exact hR
    · refine ⟨List.replicate lots.length true, ?_, ?_⟩
      · rw [put_same]; simp [List.map_const']
      · simp only [show (List.replicate lots.length true).all id = true by simp, ↓x_seq, ↓x_next, ↓x_ret, ↓x_retN, ↓x_drop, ↓x_if, ↓x_asg, ↓x_false, ↓x_brk, ↓x_cnt, ↓x_g0, ↓x_v0, ↓x_g1, ↓x_v1, ↓x_g2, ↓x_v2, ↓x_g3, ↓x_v3, ↓x_g4, ↓x_v4, ↓x_g5, ↓x_v5, ↓x_g6, ↓x_v6, ↓x_g7, ↓x_v7, ↓x_g8, ↓x_v8, ↓x_g9, ↓x_v9, ↓x_g10, ↓x_v10, ↓x_g11, ↓x_v11, ↓x_g12, ↓x_v12, ↓x_g13, ↓x_v13, ↓x_g14, ↓x_v14, ↓x_g15, ↓x_v15, ↓x_g16, ↓x_v16, ↓x_g17, ↓x_v17, ↓x_g18, ↓x_v18, ↓x_g19, ↓x_v19, ↓x_gt2, ↓x_gt3, ↓x_gt4, ↓x_gt5, ↓x_gt6, ↓x_gc, ↓x_gn, ↓x_par2, ↓x_p2, ↓x_par3, ↓x_p3, ↓x_C, ↓x_op, ↓x_test, ↓x_chain, ↓x_andT, ↓x_orT, ↓x_notT, ↓x_ifE, ↓x_andV, ↓x_orV, ↓x_notV, ↓x_nil, ↓x_cons, ↓x_star, ↓x_tup, ↓x_lst, ↓x_callB, ↓x_call, ↓x_callK, ↓x_meth, ↓x_make, ↓x_fld, ↓x_fldS, ↓x_bm0, ↓x_bm, ↓x_sl, ↓x_nop, ↓x_prt, ↓x_neg, ↓x_revL, ↓x_lc, ↓x_for, ↓x_diSeq, ↓x_diEnum, ↓x_rng1, ↓y_addi, ↓y_adds, ↓y_addt, ↓y_int, ↓y_intC, ↓y_is, ↓y_isn, ↓y_nnon, ↓y_nbl, ↓y_nint, ↓y_nstr, ↓y_ntup, ↓y_nref, ↓y_t0, ↓y_t1, ↓y_t2, ↓y_t3, ↓y_m2, ↓y_m3, ↓y_len0, ↓y_len1, ↓y_len2, ↓y_len3, ↓y_len, ↓y_lenS, ↓y_itt, ↓y_iss, ↓y_iii, ↓y_iib, ↓y_i1, ↓y_i1b, ↓y_abs, ↓y_strI, ↓y_slt, ↓y_sls, ↓y_tys, ↓y_gs0, ↓y_gs1, ↓y_gs2, ↓y_gs3, ↓y_gs4, ↓y_gs5, ↓y_gs6, ↓y_gs7, ↓bIn_2, ↓bNotIn_2, ↓bEq_int, ↓bNe_int, wipeD, List.map_cons, List.map_nil, List.set_cons_zero, List.set_cons_succ, Option.some.injEq, exists_and_left, exists_eq_left', exists_eq_left, decide_true, decide_false, Bool.false_eq_true, reduceIte, Bool.not_true, Bool.not_false, List.length_cons, List.length_nil, Nat.reduceAdd, Nat.zero_add, line16, Nat.reduceLeDiff, Int.reduceEq, Int.reduceLT, Int.reduceLE, Int.reduceNeg, Int.cast_ofNat_Int, or_true, true_or, or_self, or_false, false_or, true_and, and_true, and_self, List.cons_append, List.nil_append, List.append_nil, forall_const]
        refine ⟨pDss lots, rfl, fun c hc0 => ?_⟩
        exact Fg.now (q c _ ((Sub.putNew he).nn hc0) ((Sub.putNew he).new hc0) (by rw [put_same, pDss_map]; rfl))
end
end K76
namespace K76
open PySem PySem.Spec PyProof.Rows L2 DL
def CNT (np ni : Int) : MO := .dk [(.inr "parts", .int np), (.inr "ins", .int ni)]
section
variable {k : Addr} {np ni : Int} {M : Mp} {Q : D → Mp → Prop}
theorem c_parts (h : M k = some (CNT np ni)) : bIx (.ref k) (.str "parts") M Q = Q (.int np) M := by
  rw [y_ixd h]; exact propext ⟨fun ⟨d, e, q⟩ => by cases e; exact q, fun q => ⟨_, rfl, q⟩⟩
theorem c_ins (h : M k = some (CNT np ni)) : bIx (.ref k) (.str "ins") M Q = Q (.int ni) M := by
  rw [y_ixd h]; exact propext ⟨fun ⟨d, e, q⟩ => by cases e; exact q, fun q => ⟨_, rfl, q⟩⟩
theorem c_setp (h : M k = some (CNT np ni)) {t : Int} {σ : Sg} {N : Sg → Mp → Prop} : dgSub (dC (.ref k)) (dC (.str "parts")) (.int t) σ M N = N σ (put M k (CNT t ni)) := by
  show (match M k with | some (.lst l) => _ | some (.dk kvs) => _ | _ => False) = _
  rw [h]
  exact propext ⟨fun ⟨k, e, _, q⟩ => by cases e; exact q, fun q => ⟨_, rfl, by simp [line16], q⟩⟩
theorem c_seti (h : M k = some (CNT np ni)) {t : Int} {σ : Sg} {N : Sg → Mp → Prop} : dgSub (dC (.ref k)) (dC (.str "ins")) (.int t) σ M N = N σ (put M k (CNT np t)) := by
  show (match M k with | some (.lst l) => _ | some (.dk kvs) => _ | _ => False) = _
  rw [h]
  exact propext ⟨fun ⟨k, e, _, q⟩ => by cases e; exact q, fun q => ⟨_, rfl, by simp [line16], q⟩⟩
end
def fitR (rooms : List Nat) : Part → Bool
  | .inn r _ => !rooms.contains r
  | _ => true
theorem ck_split (rooms : List Nat) (deep : Nat) (p : Part) : ckP rooms deep p = (fitR rooms p && decide (deep ≤ 5) && ckPss (inRooms rooms p) (deep + 1) (lotsP p)) := by
  cases p <;> simp [ckP, fitR, inRooms, lotsP, ckPss]
theorem SubX.trans {a : Addr} {M M1 M2 : Mp} (h : SubX a M M1) (h2 : SubX a M1 M2) : SubX a M M2 := fun b o e z => h2 b o e (h b o e z)
theorem SubX.sub {a : Addr} {M M1 : Mp} (h : Sub M M1) : SubX a M M1 := fun b o _ z => h b o z
theorem SubX.nn {a b : Addr} {M M1 : Mp} (h : SubX a M M1) (hb : b ≠ a) (z : M1 b = none) : M b = none := by
  cases e : M b with
  | none => rfl
  | some o => rw [h b o hb e] at z; cases z
def feI (s1 s2 w : D) (deep : Nat) (k : Addr) (np ni : Nat) (rooms : List Nat) (ps : List Part) (M : Mp) : Nat → Sg → Mp → Prop := fun i σ M' => ∃ (u6 u7 u8 u9 u10 u11 u12 u13 u14 : Option D), σ = [some (.int 6), some s1, some s2, some w, some (.int ((deep : Nat) : Int)), some (.ref k), u6, u7, u8, u9, u10, u11, u12, u13, u14] ∧ SubX k M M' ∧ M' k = some (CNT ((np + cPs (ps.take i) : Nat) : Int) ((ni + iPs (ps.take i) : Nat) : Int)) ∧ ckPs rooms deep (ps.take i) = true
def feJ (s1 s2 w : D) (deep : Nat) (k c : Addr) (np ni : Nat) (rooms : List Nat) (s6 s7 s8 : D) (ls : List (List Part)) (M : Mp) : Nat → Sg → Mp → Prop := fun j σ M' => ∃ (u10 u11 u12 u13 u14 : Option D), σ = [some (.int 6), some s1, some s2, some w, some (.int ((deep : Nat) : Int)), some (.ref k), some s6, some s7, some s8, some (.ref c), u10, u11, u12, u13, u14] ∧ SubX k M M' ∧ M' k = some (CNT ((np + cPss (ls.take j) : Nat) : Int) ((ni + iPss (ls.take j) : Nat) : Int)) ∧ ckPss rooms (deep + 1) (ls.take j) = true ∧ M' c = some (.lst (ls.map fun l => .tup (pDs l)))
theorem ckPs_snoc {rooms : List Nat} {deep : Nat} {a : List Part} {p : Part} (h : ckPs rooms deep a = true) (hp : ckP rooms deep p = true) : ckPs rooms deep (a ++ [p]) = true := by
  rw [ckPs_iff]; intro q hq
  rcases List.mem_append.mp hq with z | z
  · exact (ckPs_iff _ _ a).mp h q z
  · rw [List.mem_singleton.mp z]; exact hp
theorem ckPss_snoc {rooms : List Nat} {deep : Nat} {a : List (List Part)} {p : List Part} (h : ckPss rooms deep a = true) (hp : ckPs rooms deep p = true) : ckPss rooms deep (a ++ [p]) = true := by
  rw [ckPss_iff]; intro q hq
  rcases List.mem_append.mp hq with z | z
  · exact (ckPss_iff _ _ a).mp h q z
  · rw [List.mem_singleton.mp z]; exact hp
theorem ckPs_false {rooms : List Nat} {deep : Nat} {ps : List Part} {p : Part} (hm : p ∈ ps) (h : ckP rooms deep p = false) : ckPs rooms deep ps = false := by
  cases e : ckPs rooms deep ps with
  | false => rfl
  | true => rw [(ckPs_iff _ _ ps).mp e p hm] at h; cases h
theorem ckPss_false {rooms : List Nat} {deep : Nat} {ps : List (List Part)} {p : List Part} (hm : p ∈ ps) (h : ckPs rooms deep p = false) : ckPss rooms deep ps = false := by
  cases e : ckPss rooms deep ps with
  | false => rfl
  | true => rw [(ckPss_iff _ _ ps).mp e p hm] at h; cases h
section
variable {P : Program} {w : World} {K : PySem.W.Frag} {mg : Str → Option Value} {base : Heap}
def sp_fe (n : Nat) : DSp := fun ds M Q E => ∃ (ps : List Part) (spot : List D) (wl : Addr) (rooms : List Nat) (deep : Nat) (k : Addr) (np ni : Nat), ds = [.int 6, .tup (pDs ps), .tup spot, .ref wl, .int ((deep : Nat) : Int), .ref k] ∧ okPs ps = true ∧ cPs ps ≤ n ∧ n ≤ 13 ∧ spot.length + 3 * n ≤ 100 ∧ rooms.length + n ≤ 100 ∧
  M wl = some (.lst ((nI rooms).map D.int)) ∧ M k = some (CNT ((np : Nat) : Int) ((ni : Nat) : Int)) ∧ (∀ x M', isNon x = false → ckPs rooms deep ps = false → SubX k M M' → Q x M') ∧
  ∀ M', ckPs rooms deep ps = true → SubX k M M' → M' k = some (CNT ((np + cPs ps : Nat) : Int) ((ni + iPs ps : Nat) : Int)) → Q .non M'
theorem n__law_first_error (T : Tx K mg) (n : Nat) (hp : DFn P w K mg base CX0 (n + 1) T.f__law_first_error T.d__law_first_error ["many", "program", "spot", "within_v", "deep", "counted"] (fun ds M Q E => 0 < n ∧ sp_fe (n - 1) ds M Q E)) : DFn P w K mg base CX0 (n + 1 + 1) T.f__law_first_error T.d__law_first_error ["many", "program", "spot", "within_v", "deep", "counted"] (sp_fe n) := by
  refine dfn_of (N := N__law_first_error) T.F__law_first_error sc__law_first_error (by decide) (fun ds M Q E h => ?_) (fun cdv A outer s H hr hgd => (dss_cons (ds_for PassesOwn.never rfl (di_enum rfl T.n_enumerate (da_cons (de_var 1) da_nil)) (dg_tup (n := 2) rfl (dgs_cons (dg_name (i := 6) sc__law_first_error.nd rfl (Or.inl rfl)) (dgs_cons (dg_name (i := 7) sc__law_first_error.nd rfl (Or.inl rfl)) dgs_nil))) (dss_cons (ds_set (i := 8) sc__law_first_error.nd rfl (Or.inl rfl) (de_bin op_add4 tr_add (de_var 2) (de_tup (da_cons (de_var 6) da_nil)))) (dss_cons (ds_set (i := 9) sc__law_first_error.nd rfl (Or.inl rfl) (de_call (ok__law_lots T) (hr.mono (by omega)) hgd rfl T.g__law_lots T.F__law_lots.kp T.b__law_lots dpass0 (da_cons (de_var 0) (da_cons (de_var 7) da_nil)))) (dss_cons (ds_if (dt_cmp op_isN tr_is (de_var 9) de_non (nomark _)) (dss_one (ds_ret (de_tup (da_cons de_str (da_cons (de_var 8) da_nil))))) dss_nil) (dss_cons (ds_if (DW.dt (dw_and (dt_cmp (op_eqD hr.units) tr_eq (de_ix (hu_of hr) (de_var 7) de_int) de_str (nomark _)) (dw_and1 (dt_cmp (op_in3 (room65 hr)) tr_in (de_ix (hu_of hr) (de_var 7) de_int) (de_var 3) (by with_unfolding_all rfl))))) (dss_one (ds_ret (de_tup (da_cons de_str (da_cons (de_var 8) da_nil))))) dss_nil) (dss_cons (ds_if (dt_cmp op_gt tr_intB (de_var 4) de_int (nomark _)) (dss_one (ds_ret (de_tup (da_cons de_str (da_cons (de_var 8) da_nil))))) dss_nil) (dss_cons (ds_asg (de_bin op_add4 tr_add (de_ix (hu_of hr) (de_var 5) de_str) de_int) (dg_sub (hu_of hr) (de_var 5) de_str)) (dss_cons (ds_asg (de_bin op_add4 tr_add (de_ix (hu_of hr) (de_var 5) de_str) (de_callTy call_int1 tr_int1 rfl T.n_int bt_int (da_cons (de_cmp (op_eqD hr.units) tr_eq (de_ix (hu_of hr) (de_var 7) de_int) de_str (nomark _)) da_nil))) (dg_sub (hu_of hr) (de_var 5) de_str)) (dss_one (ds_for PassesOwn.never rfl (di_enum rfl T.n_enumerate (da_cons (de_var 9) da_nil)) (dg_tup (n := 2) rfl (dgs_cons (dg_name (i := 10) sc__law_first_error.nd rfl (Or.inl rfl)) (dgs_cons (dg_name (i := 11) sc__law_first_error.nd rfl (Or.inl rfl)) dgs_nil))) (dss_cons (ds_set (i := 12) sc__law_first_error.nd rfl (Or.inl rfl) (de_if (dt_cmp (op_eqD hr.units) tr_eq (de_ix (hu_of hr) (de_var 7) de_int) de_str (nomark _)) (de_bin op_add4 tr_add (de_var 8) (de_tup (da_cons (de_var 10) da_nil))) (de_var 8))) (dss_cons (ds_set (i := 13) sc__law_first_error.nd rfl (Or.inl rfl) (de_if (dt_cmp (op_eqD hr.units) tr_eq (de_ix (hu_of hr) (de_var 7) de_int) de_str (nomark _)) (de_bin op_add4 tr_add (de_var 3) (de_lst (da_cons (de_ix (hu_of hr) (de_var 7) de_int) da_nil))) (de_var 3))) (dss_cons (ds_set (i := 14) sc__law_first_error.nd rfl (Or.inl rfl) (de_call hp (hr.mono (by omega)) hgd rfl T.g__law_first_error T.F__law_first_error.kp T.b__law_first_error dpass0 (da_cons (de_var 0) (da_cons (de_var 11) (da_cons (de_var 12) (da_cons (de_var 13) (da_cons (de_bin op_add4 tr_add (de_var 4) de_int) (da_cons (de_var 5) da_nil)))))))) (dss_one (ds_if (dt_cmp op_notN tr_isNot (de_var 14) de_non (nomark _)) (dss_one (ds_ret (de_var 14))) dss_nil))))))))))))))) (dss_one (ds_ret de_non)))) ?_
  · obtain ⟨_, _, _, _, _, _, _, _, rfl, _⟩ := h; rfl
  rintro ds M Q E ⟨ps, spot, wl, rooms, deep, k, np, ni, rfl, hok, hc, hn, hsp, hrm, hw, hk, qe, qn⟩
  rw [st__law_first_error]
  have hokm := (okPs_iff ps).mp hok
  have hwk : wl ≠ k := fun e => by rw [e, hk] at hw; cases hw
  refine seq_cut (fun σ M' => SubX k M M' ∧ M' k = some (CNT ((np + cPs ps : Nat) : Int) ((ni + iPs ps : Nat) : Int)) ∧ ckPs rooms deep ps = true) (fun N hN => ?_) ?_
  rotate_left
  · rintro σ M' ⟨h1, h2, h3⟩
    simp only [↓x_seq, ↓x_next, ↓x_ret, ↓x_retN, ↓x_drop, ↓x_if, ↓x_asg, ↓x_false, ↓x_brk, ↓x_cnt, ↓x_g0, ↓x_v0, ↓x_g1, ↓x_v1, ↓x_g2, ↓x_v2, ↓x_g3, ↓x_v3, ↓x_g4, ↓x_v4, ↓x_g5, ↓x_v5, ↓x_g6, ↓x_v6, ↓x_g7, ↓x_v7, ↓x_g8, ↓x_v8, ↓x_g9, ↓x_v9, ↓x_g10, ↓x_v10, ↓x_g11, ↓x_v11, ↓x_g12, ↓x_v12, ↓x_g13, ↓x_v13, ↓x_g14, ↓x_v14, ↓x_g15, ↓x_v15, ↓x_g16, ↓x_v16, ↓x_g17, ↓x_v17, ↓x_g18, ↓x_v18, ↓x_g19, ↓x_v19, ↓x_gt2, ↓x_gt3, ↓x_gt4, ↓x_gt5, ↓x_gt6, ↓x_gc, ↓x_gn, ↓x_par2, ↓x_p2, ↓x_par3, ↓x_p3, ↓x_C, ↓x_op, ↓x_test, ↓x_chain, ↓x_andT, ↓x_orT, ↓x_notT, ↓x_ifE, ↓x_andV, ↓x_orV, ↓x_notV, ↓x_nil, ↓x_cons, ↓x_star, ↓x_tup, ↓x_lst, ↓x_callB, ↓x_call, ↓x_callK, ↓x_meth, ↓x_make, ↓x_fld, ↓x_fldS, ↓x_bm0, ↓x_bm, ↓x_sl, ↓x_nop, ↓x_prt, ↓x_neg, ↓x_revL, ↓x_lc, ↓x_for, ↓x_diSeq, ↓x_diEnum, ↓x_rng1, ↓y_addi, ↓y_adds, ↓y_addt, ↓y_int, ↓y_intC, ↓y_is, ↓y_isn, ↓y_nnon, ↓y_nbl, ↓y_nint, ↓y_nstr, ↓y_ntup, ↓y_nref, ↓y_t0, ↓y_t1, ↓y_t2, ↓y_t3, ↓y_m2, ↓y_m3, ↓y_len0, ↓y_len1, ↓y_len2, ↓y_len3, ↓y_len, ↓y_lenS, ↓y_itt, ↓y_iss, ↓y_iii, ↓y_iib, ↓y_i1, ↓y_i1b, ↓y_abs, ↓y_strI, ↓y_slt, ↓y_sls, ↓y_tys, ↓y_gs0, ↓y_gs1, ↓y_gs2, ↓y_gs3, ↓y_gs4, ↓y_gs5, ↓y_gs6, ↓y_gs7, ↓bIn_2, ↓bNotIn_2, ↓bEq_int, ↓bNe_int, wipeD, List.map_cons, List.map_nil, List.set_cons_zero, List.set_cons_succ, Option.some.injEq, exists_and_left, exists_eq_left', exists_eq_left, decide_true, decide_false, Bool.false_eq_true, reduceIte, Bool.not_true, Bool.not_false, List.length_cons, List.length_nil, Nat.reduceAdd, Nat.zero_add, line16, Nat.reduceLeDiff, Int.reduceEq, Int.reduceLT, Int.reduceLE, Int.reduceNeg, Int.cast_ofNat_Int, or_true, true_or, or_self, or_false, false_or, true_and, and_true, and_self, List.cons_append, List.nil_append, List.append_nil, forall_const]
    exact Fg.now (qn M' h3 h1 h2)
  simp only [↓x_seq, ↓x_next, ↓x_ret, ↓x_retN, ↓x_drop, ↓x_if, ↓x_asg, ↓x_false, ↓x_brk, ↓x_cnt, ↓x_g0, ↓x_v0, ↓x_g1, ↓x_v1, ↓x_g2, ↓x_v2, ↓x_g3, ↓x_v3, ↓x_g4, ↓x_v4, ↓x_g5, ↓x_v5, ↓x_g6, ↓x_v6, ↓x_g7, ↓x_v7, ↓x_g8, ↓x_v8, ↓x_g9, ↓x_v9, ↓x_g10, ↓x_v10, ↓x_g11, ↓x_v11, ↓x_g12, ↓x_v12, ↓x_g13, ↓x_v13, ↓x_g14, ↓x_v14, ↓x_g15, ↓x_v15, ↓x_g16, ↓x_v16, ↓x_g17, ↓x_v17, ↓x_g18, ↓x_v18, ↓x_g19, ↓x_v19, ↓x_gt2, ↓x_gt3, ↓x_gt4, ↓x_gt5, ↓x_gt6, ↓x_gc, ↓x_gn, ↓x_par2, ↓x_p2, ↓x_par3, ↓x_p3, ↓x_C, ↓x_op, ↓x_test, ↓x_chain, ↓x_andT, ↓x_orT, ↓x_notT, ↓x_ifE, ↓x_andV, ↓x_orV, ↓x_notV, ↓x_nil, ↓x_cons, ↓x_star, ↓x_tup, ↓x_lst, ↓x_callB, ↓x_call, ↓x_callK, ↓x_meth, ↓x_make, ↓x_fld, ↓x_fldS, ↓x_bm0, ↓x_bm, ↓x_sl, ↓x_nop, ↓x_prt, ↓x_neg, ↓x_revL, ↓x_lc, ↓x_for, ↓x_diSeq, ↓x_diEnum, ↓x_rng1, ↓y_addi, ↓y_adds, ↓y_addt, ↓y_int, ↓y_intC, ↓y_is, ↓y_isn, ↓y_nnon, ↓y_nbl, ↓y_nint, ↓y_nstr, ↓y_ntup, ↓y_nref, ↓y_t0, ↓y_t1, ↓y_t2, ↓y_t3, ↓y_m2, ↓y_m3, ↓y_len0, ↓y_len1, ↓y_len2, ↓y_len3, ↓y_len, ↓y_lenS, ↓y_itt, ↓y_iss, ↓y_iii, ↓y_iib, ↓y_i1, ↓y_i1b, ↓y_abs, ↓y_strI, ↓y_slt, ↓y_sls, ↓y_tys, ↓y_gs0, ↓y_gs1, ↓y_gs2, ↓y_gs3, ↓y_gs4, ↓y_gs5, ↓y_gs6, ↓y_gs7, ↓bIn_2, ↓bNotIn_2, ↓bEq_int, ↓bNe_int, wipeD, List.map_cons, List.map_nil, List.set_cons_zero, List.set_cons_succ, Option.some.injEq, exists_and_left, exists_eq_left', exists_eq_left, decide_true, decide_false, Bool.false_eq_true, reduceIte, Bool.not_true, Bool.not_false, List.length_cons, List.length_nil, Nat.reduceAdd, Nat.zero_add, line16, Nat.reduceLeDiff, Int.reduceEq, Int.reduceLT, Int.reduceLE, Int.reduceNeg, Int.cast_ofNat_Int, or_true, true_or, or_self, or_false, false_or, true_and, and_true, and_self, List.cons_append, List.nil_append, List.append_nil, forall_const]
  refine forG_A ps.zipIdx _ (pDs_enum ps) (feI (.tup (pDs ps)) (.tup spot) (.ref wl) deep k np ni rooms ps M) ⟨none, none, none, none, none, none, none, none, none, rfl, SubX.refl, by simpa [cPs, iPs] using hk, by simp [ckPs]⟩ (fun _ _ _ _ => trivial) ?_ ?_
  rotate_left
  · rintro σ M' ⟨u6, u7, u8, u9, u10, u11, u12, u13, u14, rfl, hS, hv, hck⟩
    rw [List.length_zipIdx, List.take_length] at hv hck
    exact hN _ _ ⟨hS, hv, hck⟩
  rintro i ⟨p, i'⟩ σ M1 hx ⟨u6, u7, u8, u9, u10, u11, u12, u13, u14, rfl, hS, hv, hck0⟩
  have hpi : ps[i]? = some p := by
    rw [List.getElem?_zipIdx] at hx
    cases e2 : ps[i]? with
    | none => rw [e2] at hx; cases hx
    | some q => rw [e2] at hx; cases hx; rfl
  have hmem := List.mem_of_getElem? hpi
  have hpo := hokm p hmem
  have hcp := cPs_mem hmem
  have hcl := cP_lots p
  have hil := iP_lots p
  simp only [↓x_gt2, ↓x_gc, ↓x_gn, ↓x_g6, ↓x_g7]
  -- own
  refine seq_cut (fun σ M' => σ = [some (.int 6), some (.tup (pDs ps)), some (.tup spot), some (.ref wl), some (.int ((deep : Nat) : Int)), some (.ref k), some (.int ((i' : Nat) : Int)), some (pD p), some (.tup (spot ++ [.int ((i' : Nat) : Int)])), u9, u10, u11, u12, u13, u14] ∧ M1 = M') (fun N hN => ?_) ?_
  · simp only [↓x_seq, ↓x_next, ↓x_ret, ↓x_retN, ↓x_drop, ↓x_if, ↓x_asg, ↓x_false, ↓x_brk, ↓x_cnt, ↓x_g0, ↓x_v0, ↓x_g1, ↓x_v1, ↓x_g2, ↓x_v2, ↓x_g3, ↓x_v3, ↓x_g4, ↓x_v4, ↓x_g5, ↓x_v5, ↓x_g6, ↓x_v6, ↓x_g7, ↓x_v7, ↓x_g8, ↓x_v8, ↓x_g9, ↓x_v9, ↓x_g10, ↓x_v10, ↓x_g11, ↓x_v11, ↓x_g12, ↓x_v12, ↓x_g13, ↓x_v13, ↓x_g14, ↓x_v14, ↓x_g15, ↓x_v15, ↓x_g16, ↓x_v16, ↓x_g17, ↓x_v17, ↓x_g18, ↓x_v18, ↓x_g19, ↓x_v19, ↓x_gt2, ↓x_gt3, ↓x_gt4, ↓x_gt5, ↓x_gt6, ↓x_gc, ↓x_gn, ↓x_par2, ↓x_p2, ↓x_par3, ↓x_p3, ↓x_C, ↓x_op, ↓x_test, ↓x_chain, ↓x_andT, ↓x_orT, ↓x_notT, ↓x_ifE, ↓x_andV, ↓x_orV, ↓x_notV, ↓x_nil, ↓x_cons, ↓x_star, ↓x_tup, ↓x_lst, ↓x_callB, ↓x_call, ↓x_callK, ↓x_meth, ↓x_make, ↓x_fld, ↓x_fldS, ↓x_bm0, ↓x_bm, ↓x_sl, ↓x_nop, ↓x_prt, ↓x_neg, ↓x_revL, ↓x_lc, ↓x_for, ↓x_diSeq, ↓x_diEnum, ↓x_rng1, ↓y_addi, ↓y_adds, ↓y_addt, ↓y_int, ↓y_intC, ↓y_is, ↓y_isn, ↓y_nnon, ↓y_nbl, ↓y_nint, ↓y_nstr, ↓y_ntup, ↓y_nref, ↓y_t0, ↓y_t1, ↓y_t2, ↓y_t3, ↓y_m2, ↓y_m3, ↓y_len0, ↓y_len1, ↓y_len2, ↓y_len3, ↓y_len, ↓y_lenS, ↓y_itt, ↓y_iss, ↓y_iii, ↓y_iib, ↓y_i1, ↓y_i1b, ↓y_abs, ↓y_strI, ↓y_slt, ↓y_sls, ↓y_tys, ↓y_gs0, ↓y_gs1, ↓y_gs2, ↓y_gs3, ↓y_gs4, ↓y_gs5, ↓y_gs6, ↓y_gs7, ↓bIn_2, ↓bNotIn_2, ↓bEq_int, ↓bNe_int, wipeD, List.map_cons, List.map_nil, List.set_cons_zero, List.set_cons_succ, Option.some.injEq, exists_and_left, exists_eq_left', exists_eq_left, decide_true, decide_false, Bool.false_eq_true, reduceIte, Bool.not_true, Bool.not_false, List.length_cons, List.length_nil, Nat.reduceAdd, Nat.zero_add, line16, Nat.reduceLeDiff, Int.reduceEq, Int.reduceLT, Int.reduceLE, Int.reduceNeg, Int.cast_ofNat_Int, or_true, true_or, or_self, or_false, false_or, true_and, and_true, and_self, List.cons_append, List.nil_append, List.append_nil, forall_const]
    exact ⟨by omega, hN _ _ ⟨rfl, rfl⟩⟩
  rintro σ M2 ⟨rfl, rfl⟩
  -- lots
  refine seq_cut (fun σ M' => ∃ c, σ = [some (.int 6), some (.tup (pDs ps)), some (.tup spot), some (.ref wl), some (.int ((deep : Nat) : Int)), some (.ref k), some (.int ((i' : Nat) : Int)), some (pD p), some (.tup (spot ++ [.int ((i' : Nat) : Int)])), some (.ref c), u10, u11, u12, u13, u14] ∧ SubX k M M' ∧ M' k = M1 k ∧ M' c = some (.lst ((lotsP p).map fun l => .tup (pDs l)))) (fun N hN => ?_) ?_
  · simp only [↓x_seq, ↓x_next, ↓x_ret, ↓x_retN, ↓x_drop, ↓x_if, ↓x_asg, ↓x_false, ↓x_brk, ↓x_cnt, ↓x_g0, ↓x_v0, ↓x_g1, ↓x_v1, ↓x_g2, ↓x_v2, ↓x_g3, ↓x_v3, ↓x_g4, ↓x_v4, ↓x_g5, ↓x_v5, ↓x_g6, ↓x_v6, ↓x_g7, ↓x_v7, ↓x_g8, ↓x_v8, ↓x_g9, ↓x_v9, ↓x_g10, ↓x_v10, ↓x_g11, ↓x_v11, ↓x_g12, ↓x_v12, ↓x_g13, ↓x_v13, ↓x_g14, ↓x_v14, ↓x_g15, ↓x_v15, ↓x_g16, ↓x_v16, ↓x_g17, ↓x_v17, ↓x_g18, ↓x_v18, ↓x_g19, ↓x_v19, ↓x_gt2, ↓x_gt3, ↓x_gt4, ↓x_gt5, ↓x_gt6, ↓x_gc, ↓x_gn, ↓x_par2, ↓x_p2, ↓x_par3, ↓x_p3, ↓x_C, ↓x_op, ↓x_test, ↓x_chain, ↓x_andT, ↓x_orT, ↓x_notT, ↓x_ifE, ↓x_andV, ↓x_orV, ↓x_notV, ↓x_nil, ↓x_cons, ↓x_star, ↓x_tup, ↓x_lst, ↓x_callB, ↓x_call, ↓x_callK, ↓x_meth, ↓x_make, ↓x_fld, ↓x_fldS, ↓x_bm0, ↓x_bm, ↓x_sl, ↓x_nop, ↓x_prt, ↓x_neg, ↓x_revL, ↓x_lc, ↓x_for, ↓x_diSeq, ↓x_diEnum, ↓x_rng1, ↓y_addi, ↓y_adds, ↓y_addt, ↓y_int, ↓y_intC, ↓y_is, ↓y_isn, ↓y_nnon, ↓y_nbl, ↓y_nint, ↓y_nstr, ↓y_ntup, ↓y_nref, ↓y_t0, ↓y_t1, ↓y_t2, ↓y_t3, ↓y_m2, ↓y_m3, ↓y_len0, ↓y_len1, ↓y_len2, ↓y_len3, ↓y_len, ↓y_lenS, ↓y_itt, ↓y_iss, ↓y_iii, ↓y_iib, ↓y_i1, ↓y_i1b, ↓y_abs, ↓y_strI, ↓y_slt, ↓y_sls, ↓y_tys, ↓y_gs0, ↓y_gs1, ↓y_gs2, ↓y_gs3, ↓y_gs4, ↓y_gs5, ↓y_gs6, ↓y_gs7, ↓bIn_2, ↓bNotIn_2, ↓bEq_int, ↓bNe_int, wipeD, List.map_cons, List.map_nil, List.set_cons_zero, List.set_cons_succ, Option.some.injEq, exists_and_left, exists_eq_left', exists_eq_left, decide_true, decide_false, Bool.false_eq_true, reduceIte, Bool.not_true, Bool.not_false, List.length_cons, List.length_nil, Nat.reduceAdd, Nat.zero_add, line16, Nat.reduceLeDiff, Int.reduceEq, Int.reduceLT, Int.reduceLE, Int.reduceNeg, Int.cast_ofNat_Int, or_true, true_or, or_self, or_false, false_or, true_and, and_true, and_self, List.cons_append, List.nil_append, List.append_nil, forall_const]
    refine ⟨p, rfl, hpo, by omega, fun c M' hc hs hv' => hN _ _ ⟨c, rfl, hS.trans (SubX.sub hs), by rw [hs _ _ hv, hv], hv'⟩⟩
  clear hS
  rintro σ M2 ⟨c, rfl, hS, hk2, hc2⟩
  rw [hv] at hk2
  have hck : c ≠ k := fun e => by rw [e, hk2] at hc2; cases hc2
  -- never None
  refine seq_cut (fun σ M' => σ = [some (.int 6), some (.tup (pDs ps)), some (.tup spot), some (.ref wl), some (.int ((deep : Nat) : Int)), some (.ref k), some (.int ((i' : Nat) : Int)), some (pD p), some (.tup (spot ++ [.int ((i' : Nat) : Int)])), some (.ref c), u10, u11, u12, u13, u14] ∧ M2 = M') (fun N hN => ?_) ?_
  · simp only [↓x_seq, ↓x_next, ↓x_ret, ↓x_retN, ↓x_drop, ↓x_if, ↓x_asg, ↓x_false, ↓x_brk, ↓x_cnt, ↓x_g0, ↓x_v0, ↓x_g1, ↓x_v1, ↓x_g2, ↓x_v2, ↓x_g3, ↓x_v3, ↓x_g4, ↓x_v4, ↓x_g5, ↓x_v5, ↓x_g6, ↓x_v6, ↓x_g7, ↓x_v7, ↓x_g8, ↓x_v8, ↓x_g9, ↓x_v9, ↓x_g10, ↓x_v10, ↓x_g11, ↓x_v11, ↓x_g12, ↓x_v12, ↓x_g13, ↓x_v13, ↓x_g14, ↓x_v14, ↓x_g15, ↓x_v15, ↓x_g16, ↓x_v16, ↓x_g17, ↓x_v17, ↓x_g18, ↓x_v18, ↓x_g19, ↓x_v19, ↓x_gt2, ↓x_gt3, ↓x_gt4, ↓x_gt5, ↓x_gt6, ↓x_gc, ↓x_gn, ↓x_par2, ↓x_p2, ↓x_par3, ↓x_p3, ↓x_C, ↓x_op, ↓x_test, ↓x_chain, ↓x_andT, ↓x_orT, ↓x_notT, ↓x_ifE, ↓x_andV, ↓x_orV, ↓x_notV, ↓x_nil, ↓x_cons, ↓x_star, ↓x_tup, ↓x_lst, ↓x_callB, ↓x_call, ↓x_callK, ↓x_meth, ↓x_make, ↓x_fld, ↓x_fldS, ↓x_bm0, ↓x_bm, ↓x_sl, ↓x_nop, ↓x_prt, ↓x_neg, ↓x_revL, ↓x_lc, ↓x_for, ↓x_diSeq, ↓x_diEnum, ↓x_rng1, ↓y_addi, ↓y_adds, ↓y_addt, ↓y_int, ↓y_intC, ↓y_is, ↓y_isn, ↓y_nnon, ↓y_nbl, ↓y_nint, ↓y_nstr, ↓y_ntup, ↓y_nref, ↓y_t0, ↓y_t1, ↓y_t2, ↓y_t3, ↓y_m2, ↓y_m3, ↓y_len0, ↓y_len1, ↓y_len2, ↓y_len3, ↓y_len, ↓y_lenS, ↓y_itt, ↓y_iss, ↓y_iii, ↓y_iib, ↓y_i1, ↓y_i1b, ↓y_abs, ↓y_strI, ↓y_slt, ↓y_sls, ↓y_tys, ↓y_gs0, ↓y_gs1, ↓y_gs2, ↓y_gs3, ↓y_gs4, ↓y_gs5, ↓y_gs6, ↓y_gs7, ↓bIn_2, ↓bNotIn_2, ↓bEq_int, ↓bNe_int, wipeD, List.map_cons, List.map_nil, List.set_cons_zero, List.set_cons_succ, Option.some.injEq, exists_and_left, exists_eq_left', exists_eq_left, decide_true, decide_false, Bool.false_eq_true, reduceIte, Bool.not_true, Bool.not_false, List.length_cons, List.length_nil, Nat.reduceAdd, Nat.zero_add, line16, Nat.reduceLeDiff, Int.reduceEq, Int.reduceLT, Int.reduceLE, Int.reduceNeg, Int.cast_ofNat_Int, or_true, true_or, or_self, or_false, false_or, true_and, and_true, and_self, List.cons_append, List.nil_append, List.append_nil, forall_const]
    exact hN _ _ ⟨rfl, rfl⟩
  rintro σ M3 ⟨rfl, rfl⟩
  have hS2 := hS
  have hw2 : M2 wl = some (.lst ((nI rooms).map D.int)) := hS _ _ hwk hw
  have bad : ∀ (d : D) (M' : Mp), isNon d = false → ckP rooms deep p = false → SubX k M M' → Fg Q d M' := fun d M' h1 h2 h3 => Fg.now (qe d M' h1 (ckPs_false hmem h2) h3)
  -- the room
  refine seq_cut (fun σ M' => σ = [some (.int 6), some (.tup (pDs ps)), some (.tup spot), some (.ref wl), some (.int ((deep : Nat) : Int)), some (.ref k), some (.int ((i' : Nat) : Int)), some (pD p), some (.tup (spot ++ [.int ((i' : Nat) : Int)])), some (.ref c), u10, u11, u12, u13, u14] ∧ M2 = M' ∧ fitR rooms p = true) (fun N hN => ?_) ?_
  · cases p with
    | inn r own =>
      rw [show pD (.inn r own) = .tup [.str "in", .int (r : Int), .tup (pDs own)] by rw [pD]] at hN ⊢
      simp only [↓bEq_str so_in so_in, ↓bIn_lint hw2, mem_nI, ↓x_seq, ↓x_next, ↓x_ret, ↓x_retN, ↓x_drop, ↓x_if, ↓x_asg, ↓x_false, ↓x_brk, ↓x_cnt, ↓x_g0, ↓x_v0, ↓x_g1, ↓x_v1, ↓x_g2, ↓x_v2, ↓x_g3, ↓x_v3, ↓x_g4, ↓x_v4, ↓x_g5, ↓x_v5, ↓x_g6, ↓x_v6, ↓x_g7, ↓x_v7, ↓x_g8, ↓x_v8, ↓x_g9, ↓x_v9, ↓x_g10, ↓x_v10, ↓x_g11, ↓x_v11, ↓x_g12, ↓x_v12, ↓x_g13, ↓x_v13, ↓x_g14, ↓x_v14, ↓x_g15, ↓x_v15, ↓x_g16, ↓x_v16, ↓x_g17, ↓x_v17, ↓x_g18, ↓x_v18, ↓x_g19, ↓x_v19, ↓x_gt2, ↓x_gt3, ↓x_gt4, ↓x_gt5, ↓x_gt6, ↓x_gc, ↓x_gn, ↓x_par2, ↓x_p2, ↓x_par3, ↓x_p3, ↓x_C, ↓x_op, ↓x_test, ↓x_chain, ↓x_andT, ↓x_orT, ↓x_notT, ↓x_ifE, ↓x_andV, ↓x_orV, ↓x_notV, ↓x_nil, ↓x_cons, ↓x_star, ↓x_tup, ↓x_lst, ↓x_callB, ↓x_call, ↓x_callK, ↓x_meth, ↓x_make, ↓x_fld, ↓x_fldS, ↓x_bm0, ↓x_bm, ↓x_sl, ↓x_nop, ↓x_prt, ↓x_neg, ↓x_revL, ↓x_lc, ↓x_for, ↓x_diSeq, ↓x_diEnum, ↓x_rng1, ↓y_addi, ↓y_adds, ↓y_addt, ↓y_int, ↓y_intC, ↓y_is, ↓y_isn, ↓y_nnon, ↓y_nbl, ↓y_nint, ↓y_nstr, ↓y_ntup, ↓y_nref, ↓y_t0, ↓y_t1, ↓y_t2, ↓y_t3, ↓y_m2, ↓y_m3, ↓y_len0, ↓y_len1, ↓y_len2, ↓y_len3, ↓y_len, ↓y_lenS, ↓y_itt, ↓y_iss, ↓y_iii, ↓y_iib, ↓y_i1, ↓y_i1b, ↓y_abs, ↓y_strI, ↓y_slt, ↓y_sls, ↓y_tys, ↓y_gs0, ↓y_gs1, ↓y_gs2, ↓y_gs3, ↓y_gs4, ↓y_gs5, ↓y_gs6, ↓y_gs7, ↓bIn_2, ↓bNotIn_2, ↓bEq_int, ↓bNe_int, wipeD, List.map_cons, List.map_nil, List.set_cons_zero, List.set_cons_succ, Option.some.injEq, exists_and_left, exists_eq_left', exists_eq_left, decide_true, decide_false, Bool.false_eq_true, reduceIte, Bool.not_true, Bool.not_false, List.length_cons, List.length_nil, Nat.reduceAdd, Nat.zero_add, line16, Nat.reduceLeDiff, Int.reduceEq, Int.reduceLT, Int.reduceLE, Int.reduceNeg, Int.cast_ofNat_Int, or_true, true_or, or_self, or_false, false_or, true_and, and_true, and_self, List.cons_append, List.nil_append, List.append_nil, forall_const]
      by_cases hr : r ∈ rooms
      · simp only [hr, ↓x_seq, ↓x_next, ↓x_ret, ↓x_retN, ↓x_drop, ↓x_if, ↓x_asg, ↓x_false, ↓x_brk, ↓x_cnt, ↓x_g0, ↓x_v0, ↓x_g1, ↓x_v1, ↓x_g2, ↓x_v2, ↓x_g3, ↓x_v3, ↓x_g4, ↓x_v4, ↓x_g5, ↓x_v5, ↓x_g6, ↓x_v6, ↓x_g7, ↓x_v7, ↓x_g8, ↓x_v8, ↓x_g9, ↓x_v9, ↓x_g10, ↓x_v10, ↓x_g11, ↓x_v11, ↓x_g12, ↓x_v12, ↓x_g13, ↓x_v13, ↓x_g14, ↓x_v14, ↓x_g15, ↓x_v15, ↓x_g16, ↓x_v16, ↓x_g17, ↓x_v17, ↓x_g18, ↓x_v18, ↓x_g19, ↓x_v19, ↓x_gt2, ↓x_gt3, ↓x_gt4, ↓x_gt5, ↓x_gt6, ↓x_gc, ↓x_gn, ↓x_par2, ↓x_p2, ↓x_par3, ↓x_p3, ↓x_C, ↓x_op, ↓x_test, ↓x_chain, ↓x_andT, ↓x_orT, ↓x_notT, ↓x_ifE, ↓x_andV, ↓x_orV, ↓x_notV, ↓x_nil, ↓x_cons, ↓x_star, ↓x_tup, ↓x_lst, ↓x_callB, ↓x_call, ↓x_callK, ↓x_meth, ↓x_make, ↓x_fld, ↓x_fldS, ↓x_bm0, ↓x_bm, ↓x_sl, ↓x_nop, ↓x_prt, ↓x_neg, ↓x_revL, ↓x_lc, ↓x_for, ↓x_diSeq, ↓x_diEnum, ↓x_rng1, ↓y_addi, ↓y_adds, ↓y_addt, ↓y_int, ↓y_intC, ↓y_is, ↓y_isn, ↓y_nnon, ↓y_nbl, ↓y_nint, ↓y_nstr, ↓y_ntup, ↓y_nref, ↓y_t0, ↓y_t1, ↓y_t2, ↓y_t3, ↓y_m2, ↓y_m3, ↓y_len0, ↓y_len1, ↓y_len2, ↓y_len3, ↓y_len, ↓y_lenS, ↓y_itt, ↓y_iss, ↓y_iii, ↓y_iib, ↓y_i1, ↓y_i1b, ↓y_abs, ↓y_strI, ↓y_slt, ↓y_sls, ↓y_tys, ↓y_gs0, ↓y_gs1, ↓y_gs2, ↓y_gs3, ↓y_gs4, ↓y_gs5, ↓y_gs6, ↓y_gs7, ↓bIn_2, ↓bNotIn_2, ↓bEq_int, ↓bNe_int, wipeD, List.map_cons, List.map_nil, List.set_cons_zero, List.set_cons_succ, Option.some.injEq, exists_and_left, exists_eq_left', exists_eq_left, decide_true, decide_false, Bool.false_eq_true, reduceIte, Bool.not_true, Bool.not_false, List.length_cons, List.length_nil, Nat.reduceAdd, Nat.zero_add, line16, Nat.reduceLeDiff, Int.reduceEq, Int.reduceLT, Int.reduceLE, Int.reduceNeg, Int.cast_ofNat_Int, or_true, true_or, or_self, or_false, false_or, true_and, and_true, and_self, List.cons_append, List.nil_append, List.append_nil, forall_const]
        exact bad _ _ rfl (by rw [ck_split]; simp [fitR, hr]) hS
      · simp only [hr, ↓x_seq, ↓x_next, ↓x_ret, ↓x_retN, ↓x_drop, ↓x_if, ↓x_asg, ↓x_false, ↓x_brk, ↓x_cnt, ↓x_g0, ↓x_v0, ↓x_g1, ↓x_v1, ↓x_g2, ↓x_v2, ↓x_g3, ↓x_v3, ↓x_g4, ↓x_v4, ↓x_g5, ↓x_v5, ↓x_g6, ↓x_v6, ↓x_g7, ↓x_v7, ↓x_g8, ↓x_v8, ↓x_g9, ↓x_v9, ↓x_g10, ↓x_v10, ↓x_g11, ↓x_v11, ↓x_g12, ↓x_v12, ↓x_g13, ↓x_v13, ↓x_g14, ↓x_v14, ↓x_g15, ↓x_v15, ↓x_g16, ↓x_v16, ↓x_g17, ↓x_v17, ↓x_g18, ↓x_v18, ↓x_g19, ↓x_v19, ↓x_gt2, ↓x_gt3, ↓x_gt4, ↓x_gt5, ↓x_gt6, ↓x_gc, ↓x_gn, ↓x_par2, ↓x_p2, ↓x_par3, ↓x_p3, ↓x_C, ↓x_op, ↓x_test, ↓x_chain, ↓x_andT, ↓x_orT, ↓x_notT, ↓x_ifE, ↓x_andV, ↓x_orV, ↓x_notV, ↓x_nil, ↓x_cons, ↓x_star, ↓x_tup, ↓x_lst, ↓x_callB, ↓x_call, ↓x_callK, ↓x_meth, ↓x_make, ↓x_fld, ↓x_fldS, ↓x_bm0, ↓x_bm, ↓x_sl, ↓x_nop, ↓x_prt, ↓x_neg, ↓x_revL, ↓x_lc, ↓x_for, ↓x_diSeq, ↓x_diEnum, ↓x_rng1, ↓y_addi, ↓y_adds, ↓y_addt, ↓y_int, ↓y_intC, ↓y_is, ↓y_isn, ↓y_nnon, ↓y_nbl, ↓y_nint, ↓y_nstr, ↓y_ntup, ↓y_nref, ↓y_t0, ↓y_t1, ↓y_t2, ↓y_t3, ↓y_m2, ↓y_m3, ↓y_len0, ↓y_len1, ↓y_len2, ↓y_len3, ↓y_len, ↓y_lenS, ↓y_itt, ↓y_iss, ↓y_iii, ↓y_iib, ↓y_i1, ↓y_i1b, ↓y_abs, ↓y_strI, ↓y_slt, ↓y_sls, ↓y_tys, ↓y_gs0, ↓y_gs1, ↓y_gs2, ↓y_gs3, ↓y_gs4, ↓y_gs5, ↓y_gs6, ↓y_gs7, ↓bIn_2, ↓bNotIn_2, ↓bEq_int, ↓bNe_int, wipeD, List.map_cons, List.map_nil, List.set_cons_zero, List.set_cons_succ, Option.some.injEq, exists_and_left, exists_eq_left', exists_eq_left, decide_true, decide_false, Bool.false_eq_true, reduceIte, Bool.not_true, Bool.not_false, List.length_cons, List.length_nil, Nat.reduceAdd, Nat.zero_add, line16, Nat.reduceLeDiff, Int.reduceEq, Int.reduceLT, Int.reduceLE, Int.reduceNeg, Int.cast_ofNat_Int, or_true, true_or, or_self, or_false, false_or, true_and, and_true, and_self, List.cons_append, List.nil_append, List.append_nil, forall_const]
        exact hN _ _ ⟨rfl, rfl, by simp [fitR, hr]⟩
    | again own =>
      rw [show pD (.again own) = .tup [.str "again", .tup (pDs own)] by rw [pD]] at hN ⊢
      simp only [↓bEq_str so_again so_in, ne_ai, ↓x_seq, ↓x_next, ↓x_ret, ↓x_retN, ↓x_drop, ↓x_if, ↓x_asg, ↓x_false, ↓x_brk, ↓x_cnt, ↓x_g0, ↓x_v0, ↓x_g1, ↓x_v1, ↓x_g2, ↓x_v2, ↓x_g3, ↓x_v3, ↓x_g4, ↓x_v4, ↓x_g5, ↓x_v5, ↓x_g6, ↓x_v6, ↓x_g7, ↓x_v7, ↓x_g8, ↓x_v8, ↓x_g9, ↓x_v9, ↓x_g10, ↓x_v10, ↓x_g11, ↓x_v11, ↓x_g12, ↓x_v12, ↓x_g13, ↓x_v13, ↓x_g14, ↓x_v14, ↓x_g15, ↓x_v15, ↓x_g16, ↓x_v16, ↓x_g17, ↓x_v17, ↓x_g18, ↓x_v18, ↓x_g19, ↓x_v19, ↓x_gt2, ↓x_gt3, ↓x_gt4, ↓x_gt5, ↓x_gt6, ↓x_gc, ↓x_gn, ↓x_par2, ↓x_p2, ↓x_par3, ↓x_p3, ↓x_C, ↓x_op, ↓x_test, ↓x_chain, ↓x_andT, ↓x_orT, ↓x_notT, ↓x_ifE, ↓x_andV, ↓x_orV, ↓x_notV, ↓x_nil, ↓x_cons, ↓x_star, ↓x_tup, ↓x_lst, ↓x_callB, ↓x_call, ↓x_callK, ↓x_meth, ↓x_make, ↓x_fld, ↓x_fldS, ↓x_bm0, ↓x_bm, ↓x_sl, ↓x_nop, ↓x_prt, ↓x_neg, ↓x_revL, ↓x_lc, ↓x_for, ↓x_diSeq, ↓x_diEnum, ↓x_rng1, ↓y_addi, ↓y_adds, ↓y_addt, ↓y_int, ↓y_intC, ↓y_is, ↓y_isn, ↓y_nnon, ↓y_nbl, ↓y_nint, ↓y_nstr, ↓y_ntup, ↓y_nref, ↓y_t0, ↓y_t1, ↓y_t2, ↓y_t3, ↓y_m2, ↓y_m3, ↓y_len0, ↓y_len1, ↓y_len2, ↓y_len3, ↓y_len, ↓y_lenS, ↓y_itt, ↓y_iss, ↓y_iii, ↓y_iib, ↓y_i1, ↓y_i1b, ↓y_abs, ↓y_strI, ↓y_slt, ↓y_sls, ↓y_tys, ↓y_gs0, ↓y_gs1, ↓y_gs2, ↓y_gs3, ↓y_gs4, ↓y_gs5, ↓y_gs6, ↓y_gs7, ↓bIn_2, ↓bNotIn_2, ↓bEq_int, ↓bNe_int, wipeD, List.map_cons, List.map_nil, List.set_cons_zero, List.set_cons_succ, Option.some.injEq, exists_and_left, exists_eq_left', exists_eq_left, decide_true, decide_false, Bool.false_eq_true, reduceIte, Bool.not_true, Bool.not_false, List.length_cons, List.length_nil, Nat.reduceAdd, Nat.zero_add, line16, Nat.reduceLeDiff, Int.reduceEq, Int.reduceLT, Int.reduceLE, Int.reduceNeg, Int.cast_ofNat_Int, or_true, true_or, or_self, or_false, false_or, true_and, and_true, and_self, List.cons_append, List.nil_append, List.append_nil, forall_const]
      exact hN _ _ ⟨rfl, rfl, rfl⟩
    | either lots =>
      rw [show pD (.either lots) = .tup [.str "either", .tup (pDss lots)] by rw [pD]] at hN ⊢
      simp only [↓bEq_str so_either so_in, ne_ei, ↓x_seq, ↓x_next, ↓x_ret, ↓x_retN, ↓x_drop, ↓x_if, ↓x_asg, ↓x_false, ↓x_brk, ↓x_cnt, ↓x_g0, ↓x_v0, ↓x_g1, ↓x_v1, ↓x_g2, ↓x_v2, ↓x_g3, ↓x_v3, ↓x_g4, ↓x_v4, ↓x_g5, ↓x_v5, ↓x_g6, ↓x_v6, ↓x_g7, ↓x_v7, ↓x_g8, ↓x_v8, ↓x_g9, ↓x_v9, ↓x_g10, ↓x_v10, ↓x_g11, ↓x_v11, ↓x_g12, ↓x_v12, ↓x_g13, ↓x_v13, ↓x_g14, ↓x_v14, ↓x_g15, ↓x_v15, ↓x_g16, ↓x_v16, ↓x_g17, ↓x_v17, ↓x_g18, ↓x_v18, ↓x_g19, ↓x_v19, ↓x_gt2, ↓x_gt3, ↓x_gt4, ↓x_gt5, ↓x_gt6, ↓x_gc, ↓x_gn, ↓x_par2, ↓x_p2, ↓x_par3, ↓x_p3, ↓x_C, ↓x_op, ↓x_test, ↓x_chain, ↓x_andT, ↓x_orT, ↓x_notT, ↓x_ifE, ↓x_andV, ↓x_orV, ↓x_notV, ↓x_nil, ↓x_cons, ↓x_star, ↓x_tup, ↓x_lst, ↓x_callB, ↓x_call, ↓x_callK, ↓x_meth, ↓x_make, ↓x_fld, ↓x_fldS, ↓x_bm0, ↓x_bm, ↓x_sl, ↓x_nop, ↓x_prt, ↓x_neg, ↓x_revL, ↓x_lc, ↓x_for, ↓x_diSeq, ↓x_diEnum, ↓x_rng1, ↓y_addi, ↓y_adds, ↓y_addt, ↓y_int, ↓y_intC, ↓y_is, ↓y_isn, ↓y_nnon, ↓y_nbl, ↓y_nint, ↓y_nstr, ↓y_ntup, ↓y_nref, ↓y_t0, ↓y_t1, ↓y_t2, ↓y_t3, ↓y_m2, ↓y_m3, ↓y_len0, ↓y_len1, ↓y_len2, ↓y_len3, ↓y_len, ↓y_lenS, ↓y_itt, ↓y_iss, ↓y_iii, ↓y_iib, ↓y_i1, ↓y_i1b, ↓y_abs, ↓y_strI, ↓y_slt, ↓y_sls, ↓y_tys, ↓y_gs0, ↓y_gs1, ↓y_gs2, ↓y_gs3, ↓y_gs4, ↓y_gs5, ↓y_gs6, ↓y_gs7, ↓bIn_2, ↓bNotIn_2, ↓bEq_int, ↓bNe_int, wipeD, List.map_cons, List.map_nil, List.set_cons_zero, List.set_cons_succ, Option.some.injEq, exists_and_left, exists_eq_left', exists_eq_left, decide_true, decide_false, Bool.false_eq_true, reduceIte, Bool.not_true, Bool.not_false, List.length_cons, List.length_nil, Nat.reduceAdd, Nat.zero_add, line16, Nat.reduceLeDiff, Int.reduceEq, Int.reduceLT, Int.reduceLE, Int.reduceNeg, Int.cast_ofNat_Int, or_true, true_or, or_self, or_false, false_or, true_and, and_true, and_self, List.cons_append, List.nil_append, List.append_nil, forall_const]
      exact hN _ _ ⟨rfl, rfl, rfl⟩
  rintro σ M3 ⟨rfl, rfl, hfit⟩
  -- how deep
  refine seq_cut (fun σ M' => σ = [some (.int 6), some (.tup (pDs ps)), some (.tup spot), some (.ref wl), some (.int ((deep : Nat) : Int)), some (.ref k), some (.int ((i' : Nat) : Int)), some (pD p), some (.tup (spot ++ [.int ((i' : Nat) : Int)])), some (.ref c), u10, u11, u12, u13, u14] ∧ M2 = M' ∧ deep ≤ 5) (fun N hN => ?_) ?_
  · by_cases hd : (5 : Int) < ((deep : Nat) : Int)
    · simp only [hd, ↓x_seq, ↓x_next, ↓x_ret, ↓x_retN, ↓x_drop, ↓x_if, ↓x_asg, ↓x_false, ↓x_brk, ↓x_cnt, ↓x_g0, ↓x_v0, ↓x_g1, ↓x_v1, ↓x_g2, ↓x_v2, ↓x_g3, ↓x_v3, ↓x_g4, ↓x_v4, ↓x_g5, ↓x_v5, ↓x_g6, ↓x_v6, ↓x_g7, ↓x_v7, ↓x_g8, ↓x_v8, ↓x_g9, ↓x_v9, ↓x_g10, ↓x_v10, ↓x_g11, ↓x_v11, ↓x_g12, ↓x_v12, ↓x_g13, ↓x_v13, ↓x_g14, ↓x_v14, ↓x_g15, ↓x_v15, ↓x_g16, ↓x_v16, ↓x_g17, ↓x_v17, ↓x_g18, ↓x_v18, ↓x_g19, ↓x_v19, ↓x_gt2, ↓x_gt3, ↓x_gt4, ↓x_gt5, ↓x_gt6, ↓x_gc, ↓x_gn, ↓x_par2, ↓x_p2, ↓x_par3, ↓x_p3, ↓x_C, ↓x_op, ↓x_test, ↓x_chain, ↓x_andT, ↓x_orT, ↓x_notT, ↓x_ifE, ↓x_andV, ↓x_orV, ↓x_notV, ↓x_nil, ↓x_cons, ↓x_star, ↓x_tup, ↓x_lst, ↓x_callB, ↓x_call, ↓x_callK, ↓x_meth, ↓x_make, ↓x_fld, ↓x_fldS, ↓x_bm0, ↓x_bm, ↓x_sl, ↓x_nop, ↓x_prt, ↓x_neg, ↓x_revL, ↓x_lc, ↓x_for, ↓x_diSeq, ↓x_diEnum, ↓x_rng1, ↓y_addi, ↓y_adds, ↓y_addt, ↓y_int, ↓y_intC, ↓y_is, ↓y_isn, ↓y_nnon, ↓y_nbl, ↓y_nint, ↓y_nstr, ↓y_ntup, ↓y_nref, ↓y_t0, ↓y_t1, ↓y_t2, ↓y_t3, ↓y_m2, ↓y_m3, ↓y_len0, ↓y_len1, ↓y_len2, ↓y_len3, ↓y_len, ↓y_lenS, ↓y_itt, ↓y_iss, ↓y_iii, ↓y_iib, ↓y_i1, ↓y_i1b, ↓y_abs, ↓y_strI, ↓y_slt, ↓y_sls, ↓y_tys, ↓y_gs0, ↓y_gs1, ↓y_gs2, ↓y_gs3, ↓y_gs4, ↓y_gs5, ↓y_gs6, ↓y_gs7, ↓bIn_2, ↓bNotIn_2, ↓bEq_int, ↓bNe_int, wipeD, List.map_cons, List.map_nil, List.set_cons_zero, List.set_cons_succ, Option.some.injEq, exists_and_left, exists_eq_left', exists_eq_left, decide_true, decide_false, Bool.false_eq_true, reduceIte, Bool.not_true, Bool.not_false, List.length_cons, List.length_nil, Nat.reduceAdd, Nat.zero_add, line16, Nat.reduceLeDiff, Int.reduceEq, Int.reduceLT, Int.reduceLE, Int.reduceNeg, Int.cast_ofNat_Int, or_true, true_or, or_self, or_false, false_or, true_and, and_true, and_self, List.cons_append, List.nil_append, List.append_nil, forall_const]
      exact bad _ _ rfl (by rw [ck_split]; simp; intro _ h; omega) hS
    · simp only [hd, ↓x_seq, ↓x_next, ↓x_ret, ↓x_retN, ↓x_drop, ↓x_if, ↓x_asg, ↓x_false, ↓x_brk, ↓x_cnt, ↓x_g0, ↓x_v0, ↓x_g1, ↓x_v1, ↓x_g2, ↓x_v2, ↓x_g3, ↓x_v3, ↓x_g4, ↓x_v4, ↓x_g5, ↓x_v5, ↓x_g6, ↓x_v6, ↓x_g7, ↓x_v7, ↓x_g8, ↓x_v8, ↓x_g9, ↓x_v9, ↓x_g10, ↓x_v10, ↓x_g11, ↓x_v11, ↓x_g12, ↓x_v12, ↓x_g13, ↓x_v13, ↓x_g14, ↓x_v14, ↓x_g15, ↓x_v15, ↓x_g16, ↓x_v16, ↓x_g17, ↓x_v17, ↓x_g18, ↓x_v18, ↓x_g19, ↓x_v19, ↓x_gt2, ↓x_gt3, ↓x_gt4, ↓x_gt5, ↓x_gt6, ↓x_gc, ↓x_gn, ↓x_par2, ↓x_p2, ↓x_par3, ↓x_p3, ↓x_C, ↓x_op, ↓x_test, ↓x_chain, ↓x_andT, ↓x_orT, ↓x_notT, ↓x_ifE, ↓x_andV, ↓x_orV, ↓x_notV, ↓x_nil, ↓x_cons, ↓x_star, ↓x_tup, ↓x_lst, ↓x_callB, ↓x_call, ↓x_callK, ↓x_meth, ↓x_make, ↓x_fld, ↓x_fldS, ↓x_bm0, ↓x_bm, ↓x_sl, ↓x_nop, ↓x_prt, ↓x_neg, ↓x_revL, ↓x_lc, ↓x_for, ↓x_diSeq, ↓x_diEnum, ↓x_rng1, ↓y_addi, ↓y_adds, ↓y_addt, ↓y_int, ↓y_intC, ↓y_is, ↓y_isn, ↓y_nnon, ↓y_nbl, ↓y_nint, ↓y_nstr, ↓y_ntup, ↓y_nref, ↓y_t0, ↓y_t1, ↓y_t2, ↓y_t3, ↓y_m2, ↓y_m3, ↓y_len0, ↓y_len1, ↓y_len2, ↓y_len3, ↓y_len, ↓y_lenS, ↓y_itt, ↓y_iss, ↓y_iii, ↓y_iib, ↓y_i1, ↓y_i1b, ↓y_abs, ↓y_strI, ↓y_slt, ↓y_sls, ↓y_tys, ↓y_gs0, ↓y_gs1, ↓y_gs2, ↓y_gs3, ↓y_gs4, ↓y_gs5, ↓y_gs6, ↓y_gs7, ↓bIn_2, ↓bNotIn_2, ↓bEq_int, ↓bNe_int, wipeD, List.map_cons, List.map_nil, List.set_cons_zero, List.set_cons_succ, Option.some.injEq, exists_and_left, exists_eq_left', exists_eq_left, decide_true, decide_false, Bool.false_eq_true, reduceIte, Bool.not_true, Bool.not_false, List.length_cons, List.length_nil, Nat.reduceAdd, Nat.zero_add, line16, Nat.reduceLeDiff, Int.reduceEq, Int.reduceLT, Int.reduceLE, Int.reduceNeg, Int.cast_ofNat_Int, or_true, true_or, or_self, or_false, false_or, true_and, and_true, and_self, List.cons_append, List.nil_append, List.append_nil, forall_const]
      exact hN _ _ ⟨rfl, rfl, by omega⟩
  rintro σ M3 ⟨rfl, rfl, hd5⟩
  -- counted
  refine seq_cut (fun σ M' => σ = [some (.int 6), some (.tup (pDs ps)), some (.tup spot), some (.ref wl), some (.int ((deep : Nat) : Int)), some (.ref k), some (.int ((i' : Nat) : Int)), some (pD p), some (.tup (spot ++ [.int ((i' : Nat) : Int)])), some (.ref c), u10, u11, u12, u13, u14] ∧ SubX k M M' ∧ M' k = some (CNT (((np + cPs (ps.take i)) + 1 : Nat) : Int) ((ni + iPs (ps.take i) : Nat) : Int)) ∧ M' c = some (.lst ((lotsP p).map fun l => .tup (pDs l)))) (fun N hN => ?_) ?_
  · simp only [↓x_seq, ↓x_next, ↓x_ret, ↓x_retN, ↓x_drop, ↓x_if, ↓x_asg, ↓x_false, ↓x_brk, ↓x_cnt, ↓x_g0, ↓x_v0, ↓x_g1, ↓x_v1, ↓x_g2, ↓x_v2, ↓x_g3, ↓x_v3, ↓x_g4, ↓x_v4, ↓x_g5, ↓x_v5, ↓x_g6, ↓x_v6, ↓x_g7, ↓x_v7, ↓x_g8, ↓x_v8, ↓x_g9, ↓x_v9, ↓x_g10, ↓x_v10, ↓x_g11, ↓x_v11, ↓x_g12, ↓x_v12, ↓x_g13, ↓x_v13, ↓x_g14, ↓x_v14, ↓x_g15, ↓x_v15, ↓x_g16, ↓x_v16, ↓x_g17, ↓x_v17, ↓x_g18, ↓x_v18, ↓x_g19, ↓x_v19, ↓x_gt2, ↓x_gt3, ↓x_gt4, ↓x_gt5, ↓x_gt6, ↓x_gc, ↓x_gn, ↓x_par2, ↓x_p2, ↓x_par3, ↓x_p3, ↓x_C, ↓x_op, ↓x_test, ↓x_chain, ↓x_andT, ↓x_orT, ↓x_notT, ↓x_ifE, ↓x_andV, ↓x_orV, ↓x_notV, ↓x_nil, ↓x_cons, ↓x_star, ↓x_tup, ↓x_lst, ↓x_callB, ↓x_call, ↓x_callK, ↓x_meth, ↓x_make, ↓x_fld, ↓x_fldS, ↓x_bm0, ↓x_bm, ↓x_sl, ↓x_nop, ↓x_prt, ↓x_neg, ↓x_revL, ↓x_lc, ↓x_for, ↓x_diSeq, ↓x_diEnum, ↓x_rng1, ↓y_addi, ↓y_adds, ↓y_addt, ↓y_int, ↓y_intC, ↓y_is, ↓y_isn, ↓y_nnon, ↓y_nbl, ↓y_nint, ↓y_nstr, ↓y_ntup, ↓y_nref, ↓y_t0, ↓y_t1, ↓y_t2, ↓y_t3, ↓y_m2, ↓y_m3, ↓y_len0, ↓y_len1, ↓y_len2, ↓y_len3, ↓y_len, ↓y_lenS, ↓y_itt, ↓y_iss, ↓y_iii, ↓y_iib, ↓y_i1, ↓y_i1b, ↓y_abs, ↓y_strI, ↓y_slt, ↓y_sls, ↓y_tys, ↓y_gs0, ↓y_gs1, ↓y_gs2, ↓y_gs3, ↓y_gs4, ↓y_gs5, ↓y_gs6, ↓y_gs7, ↓bIn_2, ↓bNotIn_2, ↓bEq_int, ↓bNe_int, wipeD, List.map_cons, List.map_nil, List.set_cons_zero, List.set_cons_succ, Option.some.injEq, exists_and_left, exists_eq_left', exists_eq_left, decide_true, decide_false, Bool.false_eq_true, reduceIte, Bool.not_true, Bool.not_false, List.length_cons, List.length_nil, Nat.reduceAdd, Nat.zero_add, line16, Nat.reduceLeDiff, Int.reduceEq, Int.reduceLT, Int.reduceLE, Int.reduceNeg, Int.cast_ofNat_Int, or_true, true_or, or_self, or_false, false_or, true_and, and_true, and_self, List.cons_append, List.nil_append, List.append_nil, forall_const, ↓c_parts hk2, ↓c_setp hk2]
    refine hN _ _ ⟨rfl, hS.put, by rw [put_same]; rfl, (put_ne hck).trans hc2⟩
  clear hS hS2 hw2 hk2 hc2
  rintro σ M3 ⟨rfl, hS, hk2, hc2⟩
  refine seq_cut (fun σ M' => σ = [some (.int 6), some (.tup (pDs ps)), some (.tup spot), some (.ref wl), some (.int ((deep : Nat) : Int)), some (.ref k), some (.int ((i' : Nat) : Int)), some (pD p), some (.tup (spot ++ [.int ((i' : Nat) : Int)])), some (.ref c), u10, u11, u12, u13, u14] ∧ SubX k M M' ∧ M' k = some (CNT (((np + cPs (ps.take i)) + 1 : Nat) : Int) (((ni + iPs (ps.take i)) + isIn p : Nat) : Int)) ∧ M' c = some (.lst ((lotsP p).map fun l => .tup (pDs l)))) (fun N hN => ?_) ?_
  · cases p with
    | inn r own =>
      rw [show pD (.inn r own) = .tup [.str "in", .int (r : Int), .tup (pDs own)] by rw [pD]] at hN ⊢
      simp only [↓bEq_str so_in so_in, ↓x_seq, ↓x_next, ↓x_ret, ↓x_retN, ↓x_drop, ↓x_if, ↓x_asg, ↓x_false, ↓x_brk, ↓x_cnt, ↓x_g0, ↓x_v0, ↓x_g1, ↓x_v1, ↓x_g2, ↓x_v2, ↓x_g3, ↓x_v3, ↓x_g4, ↓x_v4, ↓x_g5, ↓x_v5, ↓x_g6, ↓x_v6, ↓x_g7, ↓x_v7, ↓x_g8, ↓x_v8, ↓x_g9, ↓x_v9, ↓x_g10, ↓x_v10, ↓x_g11, ↓x_v11, ↓x_g12, ↓x_v12, ↓x_g13, ↓x_v13, ↓x_g14, ↓x_v14, ↓x_g15, ↓x_v15, ↓x_g16, ↓x_v16, ↓x_g17, ↓x_v17, ↓x_g18, ↓x_v18, ↓x_g19, ↓x_v19, ↓x_gt2, ↓x_gt3, ↓x_gt4, ↓x_gt5, ↓x_gt6, ↓x_gc, ↓x_gn, ↓x_par2, ↓x_p2, ↓x_par3, ↓x_p3, ↓x_C, ↓x_op, ↓x_test, ↓x_chain, ↓x_andT, ↓x_orT, ↓x_notT, ↓x_ifE, ↓x_andV, ↓x_orV, ↓x_notV, ↓x_nil, ↓x_cons, ↓x_star, ↓x_tup, ↓x_lst, ↓x_callB, ↓x_call, ↓x_callK, ↓x_meth, ↓x_make, ↓x_fld, ↓x_fldS, ↓x_bm0, ↓x_bm, ↓x_sl, ↓x_nop, ↓x_prt, ↓x_neg, ↓x_revL, ↓x_lc, ↓x_for, ↓x_diSeq, ↓x_diEnum, ↓x_rng1, ↓y_addi, ↓y_adds, ↓y_addt, ↓y_int, ↓y_intC, ↓y_is, ↓y_isn, ↓y_nnon, ↓y_nbl, ↓y_nint, ↓y_nstr, ↓y_ntup, ↓y_nref, ↓y_t0, ↓y_t1, ↓y_t2, ↓y_t3, ↓y_m2, ↓y_m3, ↓y_len0, ↓y_len1, ↓y_len2, ↓y_len3, ↓y_len, ↓y_lenS, ↓y_itt, ↓y_iss, ↓y_iii, ↓y_iib, ↓y_i1, ↓y_i1b, ↓y_abs, ↓y_strI, ↓y_slt, ↓y_sls, ↓y_tys, ↓y_gs0, ↓y_gs1, ↓y_gs2, ↓y_gs3, ↓y_gs4, ↓y_gs5, ↓y_gs6, ↓y_gs7, ↓bIn_2, ↓bNotIn_2, ↓bEq_int, ↓bNe_int, wipeD, List.map_cons, List.map_nil, List.set_cons_zero, List.set_cons_succ, Option.some.injEq, exists_and_left, exists_eq_left', exists_eq_left, decide_true, decide_false, Bool.false_eq_true, reduceIte, Bool.not_true, Bool.not_false, List.length_cons, List.length_nil, Nat.reduceAdd, Nat.zero_add, line16, Nat.reduceLeDiff, Int.reduceEq, Int.reduceLT, Int.reduceLE, Int.reduceNeg, Int.cast_ofNat_Int, or_true, true_or, or_self, or_false, false_or, true_and, and_true, and_self, List.cons_append, List.nil_append, List.append_nil, forall_const, ↓c_ins hk2, ↓c_seti hk2]
      refine hN _ _ ⟨rfl, hS.put, by rw [put_same]; rfl, (put_ne hck).trans hc2⟩
    | again own =>
      rw [show pD (.again own) = .tup [.str "again", .tup (pDs own)] by rw [pD]] at hN ⊢
      simp only [↓bEq_str so_again so_in, ne_ai, ↓x_seq, ↓x_next, ↓x_ret, ↓x_retN, ↓x_drop, ↓x_if, ↓x_asg, ↓x_false, ↓x_brk, ↓x_cnt, ↓x_g0, ↓x_v0, ↓x_g1, ↓x_v1, ↓x_g2, ↓x_v2, ↓x_g3, ↓x_v3, ↓x_g4, ↓x_v4, ↓x_g5, ↓x_v5, ↓x_g6, ↓x_v6, ↓x_g7, ↓x_v7, ↓x_g8, ↓x_v8, ↓x_g9, ↓x_v9, ↓x_g10, ↓x_v10, ↓x_g11, ↓x_v11, ↓x_g12, ↓x_v12, ↓x_g13, ↓x_v13, ↓x_g14, ↓x_v14, ↓x_g15, ↓x_v15, ↓x_g16, ↓x_v16, ↓x_g17, ↓x_v17, ↓x_g18, ↓x_v18, ↓x_g19, ↓x_v19, ↓x_gt2, ↓x_gt3, ↓x_gt4, ↓x_gt5, ↓x_gt6, ↓x_gc, ↓x_gn, ↓x_par2, ↓x_p2, ↓x_par3, ↓x_p3, ↓x_C, ↓x_op, ↓x_test, ↓x_chain, ↓x_andT, ↓x_orT, ↓x_notT, ↓x_ifE, ↓x_andV, ↓x_orV, ↓x_notV, ↓x_nil, ↓x_cons, ↓x_star, ↓x_tup, ↓x_lst, ↓x_callB, ↓x_call, ↓x_callK, ↓x_meth, ↓x_make, ↓x_fld, ↓x_fldS, ↓x_bm0, ↓x_bm, ↓x_sl, ↓x_nop, ↓x_prt, ↓x_neg, ↓x_revL, ↓x_lc, ↓x_for, ↓x_diSeq, ↓x_diEnum, ↓x_rng1, ↓y_addi, ↓y_adds, ↓y_addt, ↓y_int, ↓y_intC, ↓y_is, ↓y_isn, ↓y_nnon, ↓y_nbl, ↓y_nint, ↓y_nstr, ↓y_ntup, ↓y_nref, ↓y_t0, ↓y_t1, ↓y_t2, ↓y_t3, ↓y_m2, ↓y_m3, ↓y_len0, ↓y_len1, ↓y_len2, ↓y_len3, ↓y_len, ↓y_lenS, ↓y_itt, ↓y_iss, ↓y_iii, ↓y_iib, ↓y_i1, ↓y_i1b, ↓y_abs, ↓y_strI, ↓y_slt, ↓y_sls, ↓y_tys, ↓y_gs0, ↓y_gs1, ↓y_gs2, ↓y_gs3, ↓y_gs4, ↓y_gs5, ↓y_gs6, ↓y_gs7, ↓bIn_2, ↓bNotIn_2, ↓bEq_int, ↓bNe_int, wipeD, List.map_cons, List.map_nil, List.set_cons_zero, List.set_cons_succ, Option.some.injEq, exists_and_left, exists_eq_left', exists_eq_left, decide_true, decide_false, Bool.false_eq_true, reduceIte, Bool.not_true, Bool.not_false, List.length_cons, List.length_nil, Nat.reduceAdd, Nat.zero_add, line16, Nat.reduceLeDiff, Int.reduceEq, Int.reduceLT, Int.reduceLE, Int.reduceNeg, Int.cast_ofNat_Int, or_true, true_or, or_self, or_false, false_or, true_and, and_true, and_self, List.cons_append, List.nil_append, List.append_nil, forall_const, ↓c_ins hk2, ↓c_seti hk2]
      refine hN _ _ ⟨rfl, hS.put, by rw [put_same]; rfl, (put_ne hck).trans hc2⟩
    | either lots =>
      rw [show pD (.either lots) = .tup [.str "either", .tup (pDss lots)] by rw [pD]] at hN ⊢
      simp only [↓bEq_str so_either so_in, ne_ei, ↓x_seq, ↓x_next, ↓x_ret, ↓x_retN, ↓x_drop, ↓x_if, ↓x_asg, ↓x_false, ↓x_brk, ↓x_cnt, ↓x_g0, ↓x_v0, ↓x_g1, ↓x_v1, ↓x_g2, ↓x_v2, ↓x_g3, ↓x_v3, ↓x_g4, ↓x_v4, ↓x_g5, ↓x_v5, ↓x_g6, ↓x_v6, ↓x_g7, ↓x_v7, ↓x_g8, ↓x_v8, ↓x_g9, ↓x_v9, ↓x_g10, ↓x_v10, ↓x_g11, ↓x_v11, ↓x_g12, ↓x_v12, ↓x_g13, ↓x_v13, ↓x_g14, ↓x_v14, ↓x_g15, ↓x_v15, ↓x_g16, ↓x_v16, ↓x_g17, ↓x_v17, ↓x_g18, ↓x_v18, ↓x_g19, ↓x_v19, ↓x_gt2, ↓x_gt3, ↓x_gt4, ↓x_gt5, ↓x_gt6, ↓x_gc, ↓x_gn, ↓x_par2, ↓x_p2, ↓x_par3, ↓x_p3, ↓x_C, ↓x_op, ↓x_test, ↓x_chain, ↓x_andT, ↓x_orT, ↓x_notT, ↓x_ifE, ↓x_andV, ↓x_orV, ↓x_notV, ↓x_nil, ↓x_cons, ↓x_star, ↓x_tup, ↓x_lst, ↓x_callB, ↓x_call, ↓x_callK, ↓x_meth, ↓x_make, ↓x_fld, ↓x_fldS, ↓x_bm0, ↓x_bm, ↓x_sl, ↓x_nop, ↓x_prt, ↓x_neg, ↓x_revL, ↓x_lc, ↓x_for, ↓x_diSeq, ↓x_diEnum, ↓x_rng1, ↓y_addi, ↓y_adds, ↓y_addt, ↓y_int, ↓y_intC, ↓y_is, ↓y_isn, ↓y_nnon, ↓y_nbl, ↓y_nint, ↓y_nstr, ↓y_ntup, ↓y_nref, ↓y_t0, ↓y_t1, ↓y_t2, ↓y_t3, ↓y_m2, ↓y_m3, ↓y_len0, ↓y_len1, ↓y_len2, ↓y_len3, ↓y_len, ↓y_lenS, ↓y_itt, ↓y_iss, ↓y_iii, ↓y_iib, ↓y_i1, ↓y_i1b, ↓y_abs, ↓y_strI, ↓y_slt, ↓y_sls, ↓y_tys, ↓y_gs0, ↓y_gs1, ↓y_gs2, ↓y_gs3, ↓y_gs4, ↓y_gs5, ↓y_gs6, ↓y_gs7, ↓bIn_2, ↓bNotIn_2, ↓bEq_int, ↓bNe_int, wipeD, List.map_cons, List.map_nil, List.set_cons_zero, List.set_cons_succ, Option.some.injEq, exists_and_left, exists_eq_left', exists_eq_left, decide_true, decide_false, Bool.false_eq_true, reduceIte, Bool.not_true, Bool.not_false, List.length_cons, List.length_nil, Nat.reduceAdd, Nat.zero_add, line16, Nat.reduceLeDiff, Int.reduceEq, Int.reduceLT, Int.reduceLE, Int.reduceNeg, Int.cast_ofNat_Int, or_true, true_or, or_self, or_false, false_or, true_and, and_true, and_self, List.cons_append, List.nil_append, List.append_nil, forall_const, ↓c_ins hk2, ↓c_seti hk2]
      refine hN _ _ ⟨rfl, hS.put, by rw [put_same]; rfl, (put_ne hck).trans hc2⟩
  clear hS hk2 hc2
  rintro σ M3 ⟨rfl, hS, hk2, hc2⟩
  -- what lies within
  rw [dFor_g]
  simp only [↓x_diEnum, ↓x_cons, ↓x_v9, ↓x_nil, hc2]
  refine forG_A (lotsP p).zipIdx _ (enumD_map _ _) (feJ (.tup (pDs ps)) (.tup spot) (.ref wl) deep k c (np + cPs (ps.take i) + 1) (ni + iPs (ps.take i) + isIn p) (inRooms rooms p) (.int ((i' : Nat) : Int)) (pD p) (.tup (spot ++ [.int ((i' : Nat) : Int)])) (lotsP p) M) ⟨u10, u11, u12, u13, u14, rfl, hS, by simpa [cPss, iPss] using hk2, by simp [ckPss], hc2⟩ (fun j σ M' ⟨_, _, _, _, _, _, _, _, _, h⟩ => h) ?_ ?_
  rotate_left
  · rintro σ M' ⟨v10, v11, v12, v13, v14, rfl, hS', hv', hck', hc'⟩
    rw [List.length_zipIdx, List.take_length] at hv' hck'
    have hckp : ckP rooms deep p = true := by rw [ck_split, hfit, hck']; simp [hd5]
    refine ⟨_, _, _, _, _, _, _, _, _, rfl, hS', ?_, ?_⟩
    · rw [hv', take_snoc hpi, cPs_snoc, iPs_snoc, hcl, hil]
      rw [show np + cPs (ps.take i) + 1 + cPss (lotsP p) = np + (cPs (ps.take i) + (1 + cPss (lotsP p))) by omega, show ni + iPs (ps.take i) + isIn p + iPss (lotsP p) = ni + (iPs (ps.take i) + (isIn p + iPss (lotsP p))) by omega]
    · rw [take_snoc hpi]; exact ckPs_snoc hck0 hckp
  rintro j ⟨l, j'⟩ σ M4 hx ⟨v10, v11, v12, v13, v14, rfl, hS4, hk4, hck4, hc4⟩
  have hlj : (lotsP p)[j]? = some l := by
    rw [List.getElem?_zipIdx] at hx
    cases e2 : (lotsP p)[j]? with
    | none => rw [e2] at hx; cases hx
    | some q => rw [e2] at hx; cases hx; rfl
  have hlm := List.mem_of_getElem? hlj
  have hcm := cPss_mem hlm
  have hlo := (okPss_iff _).mp (ok_lots hpo) l hlm
  simp only [↓x_gt2, ↓x_gc, ↓x_gn, ↓x_g10, ↓x_g11]
  -- further
  refine seq_cut (fun σ M' => ∃ sp2 : List D, σ = [some (.int 6), some (.tup (pDs ps)), some (.tup spot), some (.ref wl), some (.int ((deep : Nat) : Int)), some (.ref k), some (.int ((i' : Nat) : Int)), some (pD p), some (.tup (spot ++ [.int ((i' : Nat) : Int)])), some (.ref c), some (.int ((j' : Nat) : Int)), some (.tup (pDs l)), some (.tup sp2), v13, v14] ∧ M4 = M' ∧ sp2.length ≤ spot.length + 2) (fun N hN => ?_) ?_
  · cases p with
    | inn r own =>
      rw [show pD (.inn r own) = .tup [.str "in", .int (r : Int), .tup (pDs own)] by rw [pD]] at hN ⊢
      simp only [↓bEq_str so_in so_either, ne_ie, ↓x_seq, ↓x_next, ↓x_ret, ↓x_retN, ↓x_drop, ↓x_if, ↓x_asg, ↓x_false, ↓x_brk, ↓x_cnt, ↓x_g0, ↓x_v0, ↓x_g1, ↓x_v1, ↓x_g2, ↓x_v2, ↓x_g3, ↓x_v3, ↓x_g4, ↓x_v4, ↓x_g5, ↓x_v5, ↓x_g6, ↓x_v6, ↓x_g7, ↓x_v7, ↓x_g8, ↓x_v8, ↓x_g9, ↓x_v9, ↓x_g10, ↓x_v10, ↓x_g11, ↓x_v11, ↓x_g12, ↓x_v12, ↓x_g13, ↓x_v13, ↓x_g14, ↓x_v14, ↓x_g15, ↓x_v15, ↓x_g16, ↓x_v16, ↓x_g17, ↓x_v17, ↓x_g18, ↓x_v18, ↓x_g19, ↓x_v19, ↓x_gt2, ↓x_gt3, ↓x_gt4, ↓x_gt5, ↓x_gt6, ↓x_gc, ↓x_gn, ↓x_par2, ↓x_p2, ↓x_par3, ↓x_p3, ↓x_C, ↓x_op, ↓x_test, ↓x_chain, ↓x_andT, ↓x_orT, ↓x_notT, ↓x_ifE, ↓x_andV, ↓x_orV, ↓x_notV, ↓x_nil, ↓x_cons, ↓x_star, ↓x_tup, ↓x_lst, ↓x_callB, ↓x_call, ↓x_callK, ↓x_meth, ↓x_make, ↓x_fld, ↓x_fldS, ↓x_bm0, ↓x_bm, ↓x_sl, ↓x_nop, ↓x_prt, ↓x_neg, ↓x_revL, ↓x_lc, ↓x_for, ↓x_diSeq, ↓x_diEnum, ↓x_rng1, ↓y_addi, ↓y_adds, ↓y_addt, ↓y_int, ↓y_intC, ↓y_is, ↓y_isn, ↓y_nnon, ↓y_nbl, ↓y_nint, ↓y_nstr, ↓y_ntup, ↓y_nref, ↓y_t0, ↓y_t1, ↓y_t2, ↓y_t3, ↓y_m2, ↓y_m3, ↓y_len0, ↓y_len1, ↓y_len2, ↓y_len3, ↓y_len, ↓y_lenS, ↓y_itt, ↓y_iss, ↓y_iii, ↓y_iib, ↓y_i1, ↓y_i1b, ↓y_abs, ↓y_strI, ↓y_slt, ↓y_sls, ↓y_tys, ↓y_gs0, ↓y_gs1, ↓y_gs2, ↓y_gs3, ↓y_gs4, ↓y_gs5, ↓y_gs6, ↓y_gs7, ↓bIn_2, ↓bNotIn_2, ↓bEq_int, ↓bNe_int, wipeD, List.map_cons, List.map_nil, List.set_cons_zero, List.set_cons_succ, Option.some.injEq, exists_and_left, exists_eq_left', exists_eq_left, decide_true, decide_false, Bool.false_eq_true, reduceIte, Bool.not_true, Bool.not_false, List.length_cons, List.length_nil, Nat.reduceAdd, Nat.zero_add, line16, Nat.reduceLeDiff, Int.reduceEq, Int.reduceLT, Int.reduceLE, Int.reduceNeg, Int.cast_ofNat_Int, or_true, true_or, or_self, or_false, false_or, true_and, and_true, and_self, List.cons_append, List.nil_append, List.append_nil, forall_const]
      exact hN _ _ ⟨_, rfl, rfl, by simp⟩
    | again own =>
      rw [show pD (.again own) = .tup [.str "again", .tup (pDs own)] by rw [pD]] at hN ⊢
      simp only [↓bEq_str so_again so_either, ne_ae, ↓x_seq, ↓x_next, ↓x_ret, ↓x_retN, ↓x_drop, ↓x_if, ↓x_asg, ↓x_false, ↓x_brk, ↓x_cnt, ↓x_g0, ↓x_v0, ↓x_g1, ↓x_v1, ↓x_g2, ↓x_v2, ↓x_g3, ↓x_v3, ↓x_g4, ↓x_v4, ↓x_g5, ↓x_v5, ↓x_g6, ↓x_v6, ↓x_g7, ↓x_v7, ↓x_g8, ↓x_v8, ↓x_g9, ↓x_v9, ↓x_g10, ↓x_v10, ↓x_g11, ↓x_v11, ↓x_g12, ↓x_v12, ↓x_g13, ↓x_v13, ↓x_g14, ↓x_v14, ↓x_g15, ↓x_v15, ↓x_g16, ↓x_v16, ↓x_g17, ↓x_v17, ↓x_g18, ↓x_v18, ↓x_g19, ↓x_v19, ↓x_gt2, ↓x_gt3, ↓x_gt4, ↓x_gt5, ↓x_gt6, ↓x_gc, ↓x_gn, ↓x_par2, ↓x_p2, ↓x_par3, ↓x_p3, ↓x_C, ↓x_op, ↓x_test, ↓x_chain, ↓x_andT, ↓x_orT, ↓x_notT, ↓x_ifE, ↓x_andV, ↓x_orV, ↓x_notV, ↓x_nil, ↓x_cons, ↓x_star, ↓x_tup, ↓x_lst, ↓x_callB, ↓x_call, ↓x_callK, ↓x_meth, ↓x_make, ↓x_fld, ↓x_fldS, ↓x_bm0, ↓x_bm, ↓x_sl, ↓x_nop, ↓x_prt, ↓x_neg, ↓x_revL, ↓x_lc, ↓x_for, ↓x_diSeq, ↓x_diEnum, ↓x_rng1, ↓y_addi, ↓y_adds, ↓y_addt, ↓y_int, ↓y_intC, ↓y_is, ↓y_isn, ↓y_nnon, ↓y_nbl, ↓y_nint, ↓y_nstr, ↓y_ntup, ↓y_nref, ↓y_t0, ↓y_t1, ↓y_t2, ↓y_t3, ↓y_m2, ↓y_m3, ↓y_len0, ↓y_len1, ↓y_len2, ↓y_len3, ↓y_len, ↓y_lenS, ↓y_itt, ↓y_iss, ↓y_iii, ↓y_iib, ↓y_i1, ↓y_i1b, ↓y_abs, ↓y_strI, ↓y_slt, ↓y_sls, ↓y_tys, ↓y_gs0, ↓y_gs1, ↓y_gs2, ↓y_gs3, ↓y_gs4, ↓y_gs5, ↓y_gs6, ↓y_gs7, ↓bIn_2, ↓bNotIn_2, ↓bEq_int, ↓bNe_int, wipeD, List.map_cons, List.map_nil, List.set_cons_zero, List.set_cons_succ, Option.some.injEq, exists_and_left, exists_eq_left', exists_eq_left, decide_true, decide_false, Bool.false_eq_true, reduceIte, Bool.not_true, Bool.not_false, List.length_cons, List.length_nil, Nat.reduceAdd, Nat.zero_add, line16, Nat.reduceLeDiff, Int.reduceEq, Int.reduceLT, Int.reduceLE, Int.reduceNeg, Int.cast_ofNat_Int, or_true, true_or, or_self, or_false, false_or, true_and, and_true, and_self, List.cons_append, List.nil_append, List.append_nil, forall_const]
      exact hN _ _ ⟨_, rfl, rfl, by simp⟩
    | either lots =>
      rw [show pD (.either lots) = .tup [.str "either", .tup (pDss lots)] by rw [pD]] at hN ⊢
      simp only [↓bEq_str so_either so_either, ↓x_seq, ↓x_next, ↓x_ret, ↓x_retN, ↓x_drop, ↓x_if, ↓x_asg, ↓x_false, ↓x_brk, ↓x_cnt, ↓x_g0, ↓x_v0, ↓x_g1, ↓x_v1, ↓x_g2, ↓x_v2, ↓x_g3, ↓x_v3, ↓x_g4, ↓x_v4, ↓x_g5, ↓x_v5, ↓x_g6, ↓x_v6, ↓x_g7, ↓x_v7, ↓x_g8, ↓x_v8, ↓x_g9, ↓x_v9, ↓x_g10, ↓x_v10, ↓x_g11, ↓x_v11, ↓x_g12, ↓x_v12, ↓x_g13, ↓x_v13, ↓x_g14, ↓x_v14, ↓x_g15, ↓x_v15, ↓x_g16, ↓x_v16, ↓x_g17, ↓x_v17, ↓x_g18, ↓x_v18, ↓x_g19, ↓x_v19, ↓x_gt2, ↓x_gt3, ↓x_gt4, ↓x_gt5, ↓x_gt6, ↓x_gc, ↓x_gn, ↓x_par2, ↓x_p2, ↓x_par3, ↓x_p3, ↓x_C, ↓x_op, ↓x_test, ↓x_chain, ↓x_andT, ↓x_orT, ↓x_notT, ↓x_ifE, ↓x_andV, ↓x_orV, ↓x_notV, ↓x_nil, ↓x_cons, ↓x_star, ↓x_tup, ↓x_lst, ↓x_callB, ↓x_call, ↓x_callK, ↓x_meth, ↓x_make, ↓x_fld, ↓x_fldS, ↓x_bm0, ↓x_bm, ↓x_sl, ↓x_nop, ↓x_prt, ↓x_neg, ↓x_revL, ↓x_lc, ↓x_for, ↓x_diSeq, ↓x_diEnum, ↓x_rng1, ↓y_addi, ↓y_adds, ↓y_addt, ↓y_int, ↓y_intC, ↓y_is, ↓y_isn, ↓y_nnon, ↓y_nbl, ↓y_nint, ↓y_nstr, ↓y_ntup, ↓y_nref, ↓y_t0, ↓y_t1, ↓y_t2, ↓y_t3, ↓y_m2, ↓y_m3, ↓y_len0, ↓y_len1, ↓y_len2, ↓y_len3, ↓y_len, ↓y_lenS, ↓y_itt, ↓y_iss, ↓y_iii, ↓y_iib, ↓y_i1, ↓y_i1b, ↓y_abs, ↓y_strI, ↓y_slt, ↓y_sls, ↓y_tys, ↓y_gs0, ↓y_gs1, ↓y_gs2, ↓y_gs3, ↓y_gs4, ↓y_gs5, ↓y_gs6, ↓y_gs7, ↓bIn_2, ↓bNotIn_2, ↓bEq_int, ↓bNe_int, wipeD, List.map_cons, List.map_nil, List.set_cons_zero, List.set_cons_succ, Option.some.injEq, exists_and_left, exists_eq_left', exists_eq_left, decide_true, decide_false, Bool.false_eq_true, reduceIte, Bool.not_true, Bool.not_false, List.length_cons, List.length_nil, Nat.reduceAdd, Nat.zero_add, line16, Nat.reduceLeDiff, Int.reduceEq, Int.reduceLT, Int.reduceLE, Int.reduceNeg, Int.cast_ofNat_Int, or_true, true_or, or_self, or_false, false_or, true_and, and_true, and_self, List.cons_append, List.nil_append, List.append_nil, forall_const]
      exact ⟨by simp; omega, hN _ _ ⟨_, rfl, rfl, by simp⟩⟩
  rintro σ M5 ⟨sp2, rfl, rfl, hsp2⟩
  have hw4 : M4 wl = some (.lst ((nI rooms).map D.int)) := hS4 _ _ hwk hw
  -- more
  refine seq_cut (fun σ M' => ∃ w2 : Addr, σ = [some (.int 6), some (.tup (pDs ps)), some (.tup spot), some (.ref wl), some (.int ((deep : Nat) : Int)), some (.ref k), some (.int ((i' : Nat) : Int)), some (pD p), some (.tup (spot ++ [.int ((i' : Nat) : Int)])), some (.ref c), some (.int ((j' : Nat) : Int)), some (.tup (pDs l)), some (.tup sp2), some (.ref w2), v14] ∧ Sub M4 M' ∧ M' w2 = some (.lst ((nI (inRooms rooms p)).map D.int))) (fun N hN => ?_) ?_
  · cases p with
    | inn r own =>
      rw [show pD (.inn r own) = .tup [.str "in", .int (r : Int), .tup (pDs own)] by rw [pD]] at hN ⊢
      simp only [↓bEq_str so_in so_in, ↓x_seq, ↓x_next, ↓x_ret, ↓x_retN, ↓x_drop, ↓x_if, ↓x_asg, ↓x_false, ↓x_brk, ↓x_cnt, ↓x_g0, ↓x_v0, ↓x_g1, ↓x_v1, ↓x_g2, ↓x_v2, ↓x_g3, ↓x_v3, ↓x_g4, ↓x_v4, ↓x_g5, ↓x_v5, ↓x_g6, ↓x_v6, ↓x_g7, ↓x_v7, ↓x_g8, ↓x_v8, ↓x_g9, ↓x_v9, ↓x_g10, ↓x_v10, ↓x_g11, ↓x_v11, ↓x_g12, ↓x_v12, ↓x_g13, ↓x_v13, ↓x_g14, ↓x_v14, ↓x_g15, ↓x_v15, ↓x_g16, ↓x_v16, ↓x_g17, ↓x_v17, ↓x_g18, ↓x_v18, ↓x_g19, ↓x_v19, ↓x_gt2, ↓x_gt3, ↓x_gt4, ↓x_gt5, ↓x_gt6, ↓x_gc, ↓x_gn, ↓x_par2, ↓x_p2, ↓x_par3, ↓x_p3, ↓x_C, ↓x_op, ↓x_test, ↓x_chain, ↓x_andT, ↓x_orT, ↓x_notT, ↓x_ifE, ↓x_andV, ↓x_orV, ↓x_notV, ↓x_nil, ↓x_cons, ↓x_star, ↓x_tup, ↓x_lst, ↓x_callB, ↓x_call, ↓x_callK, ↓x_meth, ↓x_make, ↓x_fld, ↓x_fldS, ↓x_bm0, ↓x_bm, ↓x_sl, ↓x_nop, ↓x_prt, ↓x_neg, ↓x_revL, ↓x_lc, ↓x_for, ↓x_diSeq, ↓x_diEnum, ↓x_rng1, ↓y_addi, ↓y_adds, ↓y_addt, ↓y_int, ↓y_intC, ↓y_is, ↓y_isn, ↓y_nnon, ↓y_nbl, ↓y_nint, ↓y_nstr, ↓y_ntup, ↓y_nref, ↓y_t0, ↓y_t1, ↓y_t2, ↓y_t3, ↓y_m2, ↓y_m3, ↓y_len0, ↓y_len1, ↓y_len2, ↓y_len3, ↓y_len, ↓y_lenS, ↓y_itt, ↓y_iss, ↓y_iii, ↓y_iib, ↓y_i1, ↓y_i1b, ↓y_abs, ↓y_strI, ↓y_slt, ↓y_sls, ↓y_tys, ↓y_gs0, ↓y_gs1, ↓y_gs2, ↓y_gs3, ↓y_gs4, ↓y_gs5, ↓y_gs6, ↓y_gs7, ↓bIn_2, ↓bNotIn_2, ↓bEq_int, ↓bNe_int, wipeD, List.map_cons, List.map_nil, List.set_cons_zero, List.set_cons_succ, Option.some.injEq, exists_and_left, exists_eq_left', exists_eq_left, decide_true, decide_false, Bool.false_eq_true, reduceIte, Bool.not_true, Bool.not_false, List.length_cons, List.length_nil, Nat.reduceAdd, Nat.zero_add, line16, Nat.reduceLeDiff, Int.reduceEq, Int.reduceLT, Int.reduceLE, Int.reduceNeg, Int.cast_ofNat_Int, or_true, true_or, or_self, or_false, false_or, true_and, and_true, and_self, List.cons_append, List.nil_append, List.append_nil, forall_const]
      intro e he
      have hwe : wl ≠ e := ne_of hw4 he
      refine ⟨_, _, (put_ne hwe).trans hw4, put_same, by simp [line16, nI_len]; omega, fun f hf => ?_⟩
      refine hN _ _ ⟨f, rfl, (Sub.putNew he).new hf, ?_⟩
      rw [put_same]; simp [inRooms, nI]
    | again own =>
      rw [show pD (.again own) = .tup [.str "again", .tup (pDs own)] by rw [pD]] at hN ⊢
      simp only [↓bEq_str so_again so_in, ne_ai, ↓x_seq, ↓x_next, ↓x_ret, ↓x_retN, ↓x_drop, ↓x_if, ↓x_asg, ↓x_false, ↓x_brk, ↓x_cnt, ↓x_g0, ↓x_v0, ↓x_g1, ↓x_v1, ↓x_g2, ↓x_v2, ↓x_g3, ↓x_v3, ↓x_g4, ↓x_v4, ↓x_g5, ↓x_v5, ↓x_g6, ↓x_v6, ↓x_g7, ↓x_v7, ↓x_g8, ↓x_v8, ↓x_g9, ↓x_v9, ↓x_g10, ↓x_v10, ↓x_g11, ↓x_v11, ↓x_g12, ↓x_v12, ↓x_g13, ↓x_v13, ↓x_g14, ↓x_v14, ↓x_g15, ↓x_v15, ↓x_g16, ↓x_v16, ↓x_g17, ↓x_v17, ↓x_g18, ↓x_v18, ↓x_g19, ↓x_v19, ↓x_gt2, ↓x_gt3, ↓x_gt4, ↓x_gt5, ↓x_gt6, ↓x_gc, ↓x_gn, ↓x_par2, ↓x_p2, ↓x_par3, ↓x_p3, ↓x_C, ↓x_op, ↓x_test, ↓x_chain, ↓x_andT, ↓x_orT, ↓x_notT, ↓x_ifE, ↓x_andV, ↓x_orV, ↓x_notV, ↓x_nil, ↓x_cons, ↓x_star, ↓x_tup, ↓x_lst, ↓x_callB, ↓x_call, ↓x_callK, ↓x_meth, ↓x_make, ↓x_fld, ↓x_fldS, ↓x_bm0, ↓x_bm, ↓x_sl, ↓x_nop, ↓x_prt, ↓x_neg, ↓x_revL, ↓x_lc, ↓x_for, ↓x_diSeq, ↓x_diEnum, ↓x_rng1, ↓y_addi, ↓y_adds, ↓y_addt, ↓y_int, ↓y_intC, ↓y_is, ↓y_isn, ↓y_nnon, ↓y_nbl, ↓y_nint, ↓y_nstr, ↓y_ntup, ↓y_nref, ↓y_t0, ↓y_t1, ↓y_t2, ↓y_t3, ↓y_m2, ↓y_m3, ↓y_len0, ↓y_len1, ↓y_len2, ↓y_len3, ↓y_len, ↓y_lenS, ↓y_itt, ↓y_iss, ↓y_iii, ↓y_iib, ↓y_i1, ↓y_i1b, ↓y_abs, ↓y_strI, ↓y_slt, ↓y_sls, ↓y_tys, ↓y_gs0, ↓y_gs1, ↓y_gs2, ↓y_gs3, ↓y_gs4, ↓y_gs5, ↓y_gs6, ↓y_gs7, ↓bIn_2, ↓bNotIn_2, ↓bEq_int, ↓bNe_int, wipeD, List.map_cons, List.map_nil, List.set_cons_zero, List.set_cons_succ, Option.some.injEq, exists_and_left, exists_eq_left', exists_eq_left, decide_true, decide_false, Bool.false_eq_true, reduceIte, Bool.not_true, Bool.not_false, List.length_cons, List.length_nil, Nat.reduceAdd, Nat.zero_add, line16, Nat.reduceLeDiff, Int.reduceEq, Int.reduceLT, Int.reduceLE, Int.reduceNeg, Int.cast_ofNat_Int, or_true, true_or, or_self, or_false, false_or, true_and, and_true, and_self, List.cons_append, List.nil_append, List.append_nil, forall_const]
      exact hN _ _ ⟨wl, rfl, Sub.refl _, hw4⟩
    | either lots =>
      rw [show pD (.either lots) = .tup [.str "either", .tup (pDss lots)] by rw [pD]] at hN ⊢
      simp only [↓bEq_str so_either so_in, ne_ei, ↓x_seq, ↓x_next, ↓x_ret, ↓x_retN, ↓x_drop, ↓x_if, ↓x_asg, ↓x_false, ↓x_brk, ↓x_cnt, ↓x_g0, ↓x_v0, ↓x_g1, ↓x_v1, ↓x_g2, ↓x_v2, ↓x_g3, ↓x_v3, ↓x_g4, ↓x_v4, ↓x_g5, ↓x_v5, ↓x_g6, ↓x_v6, ↓x_g7, ↓x_v7, ↓x_g8, ↓x_v8, ↓x_g9, ↓x_v9, ↓x_g10, ↓x_v10, ↓x_g11, ↓x_v11, ↓x_g12, ↓x_v12, ↓x_g13, ↓x_v13, ↓x_g14, ↓x_v14, ↓x_g15, ↓x_v15, ↓x_g16, ↓x_v16, ↓x_g17, ↓x_v17, ↓x_g18, ↓x_v18, ↓x_g19, ↓x_v19, ↓x_gt2, ↓x_gt3, ↓x_gt4, ↓x_gt5, ↓x_gt6, ↓x_gc, ↓x_gn, ↓x_par2, ↓x_p2, ↓x_par3, ↓x_p3, ↓x_C, ↓x_op, ↓x_test, ↓x_chain, ↓x_andT, ↓x_orT, ↓x_notT, ↓x_ifE, ↓x_andV, ↓x_orV, ↓x_notV, ↓x_nil, ↓x_cons, ↓x_star, ↓x_tup, ↓x_lst, ↓x_callB, ↓x_call, ↓x_callK, ↓x_meth, ↓x_make, ↓x_fld, ↓x_fldS, ↓x_bm0, ↓x_bm, ↓x_sl, ↓x_nop, ↓x_prt, ↓x_neg, ↓x_revL, ↓x_lc, ↓x_for, ↓x_diSeq, ↓x_diEnum, ↓x_rng1, ↓y_addi, ↓y_adds, ↓y_addt, ↓y_int, ↓y_intC, ↓y_is, ↓y_isn, ↓y_nnon, ↓y_nbl, ↓y_nint, ↓y_nstr, ↓y_ntup, ↓y_nref, ↓y_t0, ↓y_t1, ↓y_t2, ↓y_t3, ↓y_m2, ↓y_m3, ↓y_len0, ↓y_len1, ↓y_len2, ↓y_len3, ↓y_len, ↓y_lenS, ↓y_itt, ↓y_iss, ↓y_iii, ↓y_iib, ↓y_i1, ↓y_i1b, ↓y_abs, ↓y_strI, ↓y_slt, ↓y_sls, ↓y_tys, ↓y_gs0, ↓y_gs1, ↓y_gs2, ↓y_gs3, ↓y_gs4, ↓y_gs5, ↓y_gs6, ↓y_gs7, ↓bIn_2, ↓bNotIn_2, ↓bEq_int, ↓bNe_int, wipeD, List.map_cons, List.map_nil, List.set_cons_zero, List.set_cons_succ, Option.some.injEq, exists_and_left, exists_eq_left', exists_eq_left, decide_true, decide_false, Bool.false_eq_true, reduceIte, Bool.not_true, Bool.not_false, List.length_cons, List.length_nil, Nat.reduceAdd, Nat.zero_add, line16, Nat.reduceLeDiff, Int.reduceEq, Int.reduceLT, Int.reduceLE, Int.reduceNeg, Int.cast_ofNat_Int, or_true, true_or, or_self, or_false, false_or, true_and, and_true, and_self, List.cons_append, List.nil_append, List.append_nil, forall_const]
      exact hN _ _ ⟨wl, rfl, Sub.refl _, hw4⟩
  rintro σ M5 ⟨w2, rfl, hS5, hw5⟩
  have hk5 := hS5 _ _ hk4
  have hc5 := hS5 _ _ hc4
  have hS6 : SubX k M M5 := hS4.trans (SubX.sub hS5)
  have hrl : (inRooms rooms p).length ≤ rooms.length + 1 := by cases p <;> simp [inRooms]
  simp only [↓x_seq, ↓x_next, ↓x_ret, ↓x_retN, ↓x_drop, ↓x_if, ↓x_asg, ↓x_false, ↓x_brk, ↓x_cnt, ↓x_g0, ↓x_v0, ↓x_g1, ↓x_v1, ↓x_g2, ↓x_v2, ↓x_g3, ↓x_v3, ↓x_g4, ↓x_v4, ↓x_g5, ↓x_v5, ↓x_g6, ↓x_v6, ↓x_g7, ↓x_v7, ↓x_g8, ↓x_v8, ↓x_g9, ↓x_v9, ↓x_g10, ↓x_v10, ↓x_g11, ↓x_v11, ↓x_g12, ↓x_v12, ↓x_g13, ↓x_v13, ↓x_g14, ↓x_v14, ↓x_g15, ↓x_v15, ↓x_g16, ↓x_v16, ↓x_g17, ↓x_v17, ↓x_g18, ↓x_v18, ↓x_g19, ↓x_v19, ↓x_gt2, ↓x_gt3, ↓x_gt4, ↓x_gt5, ↓x_gt6, ↓x_gc, ↓x_gn, ↓x_par2, ↓x_p2, ↓x_par3, ↓x_p3, ↓x_C, ↓x_op, ↓x_test, ↓x_chain, ↓x_andT, ↓x_orT, ↓x_notT, ↓x_ifE, ↓x_andV, ↓x_orV, ↓x_notV, ↓x_nil, ↓x_cons, ↓x_star, ↓x_tup, ↓x_lst, ↓x_callB, ↓x_call, ↓x_callK, ↓x_meth, ↓x_make, ↓x_fld, ↓x_fldS, ↓x_bm0, ↓x_bm, ↓x_sl, ↓x_nop, ↓x_prt, ↓x_neg, ↓x_revL, ↓x_lc, ↓x_for, ↓x_diSeq, ↓x_diEnum, ↓x_rng1, ↓y_addi, ↓y_adds, ↓y_addt, ↓y_int, ↓y_intC, ↓y_is, ↓y_isn, ↓y_nnon, ↓y_nbl, ↓y_nint, ↓y_nstr, ↓y_ntup, ↓y_nref, ↓y_t0, ↓y_t1, ↓y_t2, ↓y_t3, ↓y_m2, ↓y_m3, ↓y_len0, ↓y_len1, ↓y_len2, ↓y_len3, ↓y_len, ↓y_lenS, ↓y_itt, ↓y_iss, ↓y_iii, ↓y_iib, ↓y_i1, ↓y_i1b, ↓y_abs, ↓y_strI, ↓y_slt, ↓y_sls, ↓y_tys, ↓y_gs0, ↓y_gs1, ↓y_gs2, ↓y_gs3, ↓y_gs4, ↓y_gs5, ↓y_gs6, ↓y_gs7, ↓bIn_2, ↓bNotIn_2, ↓bEq_int, ↓bNe_int, wipeD, List.map_cons, List.map_nil, List.set_cons_zero, List.set_cons_succ, Option.some.injEq, exists_and_left, exists_eq_left', exists_eq_left, decide_true, decide_false, Bool.false_eq_true, reduceIte, Bool.not_true, Bool.not_false, List.length_cons, List.length_nil, Nat.reduceAdd, Nat.zero_add, line16, Nat.reduceLeDiff, Int.reduceEq, Int.reduceLT, Int.reduceLE, Int.reduceNeg, Int.cast_ofNat_Int, or_true, true_or, or_self, or_false, false_or, true_and, and_true, and_self, List.cons_append, List.nil_append, List.append_nil, forall_const]
  refine ⟨by omega, l, sp2, w2, inRooms rooms p, deep + 1, k, np + cPs (ps.take i) + 1 + cPss ((lotsP p).take j), ni + iPs (ps.take i) + isIn p + iPss ((lotsP p).take j), rfl, hlo, by omega, by omega, by omega, by omega, hw5, hk5, ?_, ?_⟩
  · intro x M6 hxn hckl hS7
    simp only [hxn, ↓x_seq, ↓x_next, ↓x_ret, ↓x_retN, ↓x_drop, ↓x_if, ↓x_asg, ↓x_false, ↓x_brk, ↓x_cnt, ↓x_g0, ↓x_v0, ↓x_g1, ↓x_v1, ↓x_g2, ↓x_v2, ↓x_g3, ↓x_v3, ↓x_g4, ↓x_v4, ↓x_g5, ↓x_v5, ↓x_g6, ↓x_v6, ↓x_g7, ↓x_v7, ↓x_g8, ↓x_v8, ↓x_g9, ↓x_v9, ↓x_g10, ↓x_v10, ↓x_g11, ↓x_v11, ↓x_g12, ↓x_v12, ↓x_g13, ↓x_v13, ↓x_g14, ↓x_v14, ↓x_g15, ↓x_v15, ↓x_g16, ↓x_v16, ↓x_g17, ↓x_v17, ↓x_g18, ↓x_v18, ↓x_g19, ↓x_v19, ↓x_gt2, ↓x_gt3, ↓x_gt4, ↓x_gt5, ↓x_gt6, ↓x_gc, ↓x_gn, ↓x_par2, ↓x_p2, ↓x_par3, ↓x_p3, ↓x_C, ↓x_op, ↓x_test, ↓x_chain, ↓x_andT, ↓x_orT, ↓x_notT, ↓x_ifE, ↓x_andV, ↓x_orV, ↓x_notV, ↓x_nil, ↓x_cons, ↓x_star, ↓x_tup, ↓x_lst, ↓x_callB, ↓x_call, ↓x_callK, ↓x_meth, ↓x_make, ↓x_fld, ↓x_fldS, ↓x_bm0, ↓x_bm, ↓x_sl, ↓x_nop, ↓x_prt, ↓x_neg, ↓x_revL, ↓x_lc, ↓x_for, ↓x_diSeq, ↓x_diEnum, ↓x_rng1, ↓y_addi, ↓y_adds, ↓y_addt, ↓y_int, ↓y_intC, ↓y_is, ↓y_isn, ↓y_nnon, ↓y_nbl, ↓y_nint, ↓y_nstr, ↓y_ntup, ↓y_nref, ↓y_t0, ↓y_t1, ↓y_t2, ↓y_t3, ↓y_m2, ↓y_m3, ↓y_len0, ↓y_len1, ↓y_len2, ↓y_len3, ↓y_len, ↓y_lenS, ↓y_itt, ↓y_iss, ↓y_iii, ↓y_iib, ↓y_i1, ↓y_i1b, ↓y_abs, ↓y_strI, ↓y_slt, ↓y_sls, ↓y_tys, ↓y_gs0, ↓y_gs1, ↓y_gs2, ↓y_gs3, ↓y_gs4, ↓y_gs5, ↓y_gs6, ↓y_gs7, ↓bIn_2, ↓bNotIn_2, ↓bEq_int, ↓bNe_int, wipeD, List.map_cons, List.map_nil, List.set_cons_zero, List.set_cons_succ, Option.some.injEq, exists_and_left, exists_eq_left', exists_eq_left, decide_true, decide_false, Bool.false_eq_true, reduceIte, Bool.not_true, Bool.not_false, List.length_cons, List.length_nil, Nat.reduceAdd, Nat.zero_add, line16, Nat.reduceLeDiff, Int.reduceEq, Int.reduceLT, Int.reduceLE, Int.reduceNeg, Int.cast_ofNat_Int, or_true, true_or, or_self, or_false, false_or, true_and, and_true, and_self, List.cons_append, List.nil_append, List.append_nil, forall_const]
    exact bad _ _ hxn (by rw [ck_split, ckPss_false hlm hckl]; simp) (hS6.trans hS7)
  · intro M6 hckl hS7 hk6
    simp only [↓x_seq, ↓x_next, ↓x_ret, ↓x_retN, ↓x_drop, ↓x_if, ↓x_asg, ↓x_false, ↓x_brk, ↓x_cnt, ↓x_g0, ↓x_v0, ↓x_g1, ↓x_v1, ↓x_g2, ↓x_v2, ↓x_g3, ↓x_v3, ↓x_g4, ↓x_v4, ↓x_g5, ↓x_v5, ↓x_g6, ↓x_v6, ↓x_g7, ↓x_v7, ↓x_g8, ↓x_v8, ↓x_g9, ↓x_v9, ↓x_g10, ↓x_v10, ↓x_g11, ↓x_v11, ↓x_g12, ↓x_v12, ↓x_g13, ↓x_v13, ↓x_g14, ↓x_v14, ↓x_g15, ↓x_v15, ↓x_g16, ↓x_v16, ↓x_g17, ↓x_v17, ↓x_g18, ↓x_v18, ↓x_g19, ↓x_v19, ↓x_gt2, ↓x_gt3, ↓x_gt4, ↓x_gt5, ↓x_gt6, ↓x_gc, ↓x_gn, ↓x_par2, ↓x_p2, ↓x_par3, ↓x_p3, ↓x_C, ↓x_op, ↓x_test, ↓x_chain, ↓x_andT, ↓x_orT, ↓x_notT, ↓x_ifE, ↓x_andV, ↓x_orV, ↓x_notV, ↓x_nil, ↓x_cons, ↓x_star, ↓x_tup, ↓x_lst, ↓x_callB, ↓x_call, ↓x_callK, ↓x_meth, ↓x_make, ↓x_fld, ↓x_fldS, ↓x_bm0, ↓x_bm, ↓x_sl, ↓x_nop, ↓x_prt, ↓x_neg, ↓x_revL, ↓x_lc, ↓x_for, ↓x_diSeq, ↓x_diEnum, ↓x_rng1, ↓y_addi, ↓y_adds, ↓y_addt, ↓y_int, ↓y_intC, ↓y_is, ↓y_isn, ↓y_nnon, ↓y_nbl, ↓y_nint, ↓y_nstr, ↓y_ntup, ↓y_nref, ↓y_t0, ↓y_t1, ↓y_t2, ↓y_t3, ↓y_m2, ↓y_m3, ↓y_len0, ↓y_len1, ↓y_len2, ↓y_len3, ↓y_len, ↓y_lenS, ↓y_itt, ↓y_iss, ↓y_iii, ↓y_iib, ↓y_i1, ↓y_i1b, ↓y_abs, ↓y_strI, ↓y_slt, ↓y_sls, ↓y_tys, ↓y_gs0, ↓y_gs1, ↓y_gs2, ↓y_gs3, ↓y_gs4, ↓y_gs5, ↓y_gs6, ↓y_gs7, ↓bIn_2, ↓bNotIn_2, ↓bEq_int, ↓bNe_int, wipeD, List.map_cons, List.map_nil, List.set_cons_zero, List.set_cons_succ, Option.some.injEq, exists_and_left, exists_eq_left', exists_eq_left, decide_true, decide_false, Bool.false_eq_true, reduceIte, Bool.not_true, Bool.not_false, List.length_cons, List.length_nil, Nat.reduceAdd, Nat.zero_add, line16, Nat.reduceLeDiff, Int.reduceEq, Int.reduceLT, Int.reduceLE, Int.reduceNeg, Int.cast_ofNat_Int, or_true, true_or, or_self, or_false, false_or, true_and, and_true, and_self, List.cons_append, List.nil_append, List.append_nil, forall_const]
    refine ⟨_, _, _, _, _, rfl, hS6.trans hS7, ?_, ?_, hS7 _ _ hck hc5⟩
    · rw [hk6, take_snoc hlj, cPss_snoc, iPss_snoc]
      rw [show np + cPs (ps.take i) + 1 + (cPss ((lotsP p).take j) + cPs l) = np + cPs (ps.take i) + 1 + cPss ((lotsP p).take j) + cPs l by omega, show ni + iPs (ps.take i) + isIn p + (iPss ((lotsP p).take j) + iPs l) = ni + iPs (ps.take i) + isIn p + iPss ((lotsP p).take j) + iPs l by omega]
    · rw [take_snoc hlj]; exact ckPss_snoc hck4 hckl
theorem ok_fe (T : Tx K mg) : ∀ n : Nat, DFn P w K mg base CX0 (n + 1 + 1) T.f__law_first_error T.d__law_first_error ["many", "program", "spot", "within_v", "deep", "counted"] (sp_fe n)
  | 0 => n__law_first_error T 0 ⟨fun ds M Q E h => absurd h.1 (by decide), fun A outer s H args us vs ds M Q E hr hg he hb hv hR hM h => absurd h.1 (by decide)⟩
  | n + 1 => n__law_first_error T (n + 1) ((ok_fe T n).imp fun ds M Q E h => h.2)
def sp__law_first_error : DSp := sp_fe 13
theorem ok__law_first_error (T : Tx K mg) : DFn P w K mg base CX0 15 T.f__law_first_error T.d__law_first_error ["many", "program", "spot", "within_v", "deep", "counted"] sp__law_first_error := ok_fe T 13
end
end K76
namespace K76
open PySem PySem.Spec PyProof.Rows L2 DL
def good (ps : List Part) : Bool := ckPs [] 0 ps && decide (cPs ps ≤ 12) && decide (0 < iPs ps)
theorem pDs_app (a b : List Part) : pDs (a ++ b) = pDs a ++ pDs b := by rw [pDs_map, pDs_map, pDs_map, List.map_append]
theorem cut_to {α : Type} (xs : List α) {i : Nat} (h : i ≤ xs.length) : cutL xs none (some ((i : Nat) : Int)) = xs.take i := by
  unfold cutL
  rw [show HT.sIx xs.length 0 none = 0 from rfl, HT.sIx_nat, List.drop_zero, Nat.sub_zero, Nat.min_eq_left h]
theorem cut_from {α : Type} (xs : List α) {i : Nat} (h : i + 1 ≤ xs.length) : cutL xs (some (((i : Nat) : Int) + 1)) none = xs.drop (i + 1) := by
  unfold cutL
  rw [show (((i : Nat) : Int) + 1) = ((i + 1 : Nat) : Int) by omega, HT.sIx_nat, show HT.sIx xs.length xs.length none = xs.length from rfl, Nat.min_eq_left h]
  rw [List.take_of_length_le (by rw [List.length_drop]; omega)]
section
variable {P : Program} {w : World} {K : PySem.W.Frag} {mg : Str → Option Value} {base : Heap}
def sp__law_program_error : DSp := fun ds M Q E => ∃ ps : List Part, ds = [.int 6, .tup (pDs ps)] ∧ okPs ps = true ∧ cPs ps ≤ 13 ∧ ∀ x, isNon x = good ps → Q x M
theorem ok__law_program_error (T : Tx K mg) : DFn P w K mg base CX0 16 T.f__law_program_error T.d__law_program_error ["many", "value"] sp__law_program_error := by
  refine dfn_of (N := N__law_program_error) T.F__law_program_error sc__law_program_error (by decide) (fun ds M Q E h => ?_) (fun cdv A outer s H hr hgd => (dss_cons (ds_if (dt_not (dt_val (de_callB call_isi tr_isi rfl T.n_isinstance bt_isinstance (da_cons (de_var 1) (da_cons (de_bty rfl T.n_tuple bt_tuple) da_nil))))) (dss_one (ds_ret de_str)) dss_nil) (dss_cons (ds_set (i := 2) sc__law_program_error.nd rfl (Or.inl rfl) (de_disp (.cons de_str de_int (.cons de_str de_int .nil)) rfl rfl (by decide) (by decide))) (dss_cons (ds_set (i := 3) sc__law_program_error.nd rfl (Or.inl rfl) (de_call (ok__law_first_error T) (hr.mono (by omega)) hgd rfl T.g__law_first_error T.F__law_first_error.kp T.b__law_first_error dpass0 (da_cons (de_var 0) (da_cons (de_var 1) (da_cons (de_tup da_nil) (da_cons (de_lst da_nil) (da_cons de_int (da_cons (de_var 2) da_nil)))))))) (dss_cons (ds_if (dt_cmp op_notN tr_isNot (de_var 3) de_non (nomark _)) (dss_one (ds_ret (de_var 3))) dss_nil) (dss_cons (ds_if (dt_cmp op_gt tr_intB (de_ix (hu_of hr) (de_var 2) de_str) de_int (nomark _)) (dss_one (ds_ret de_str)) dss_nil) (dss_one (ds_ret (de_if (dt_cmp (op_eqD hr.units) tr_eq (de_ix (hu_of hr) (de_var 2) de_str) de_int (nomark _)) de_str de_non))))))))) ?_
  · obtain ⟨_, rfl, _⟩ := h; rfl
  rintro ds M Q E ⟨ps, rfl, hok, hc, q⟩
  rw [st__law_program_error]
  simp only [↓x_seq, ↓x_next, ↓x_ret, ↓x_retN, ↓x_drop, ↓x_if, ↓x_asg, ↓x_false, ↓x_brk, ↓x_cnt, ↓x_g0, ↓x_v0, ↓x_g1, ↓x_v1, ↓x_g2, ↓x_v2, ↓x_g3, ↓x_v3, ↓x_g4, ↓x_v4, ↓x_g5, ↓x_v5, ↓x_g6, ↓x_v6, ↓x_g7, ↓x_v7, ↓x_g8, ↓x_v8, ↓x_g9, ↓x_v9, ↓x_g10, ↓x_v10, ↓x_g11, ↓x_v11, ↓x_g12, ↓x_v12, ↓x_g13, ↓x_v13, ↓x_g14, ↓x_v14, ↓x_g15, ↓x_v15, ↓x_g16, ↓x_v16, ↓x_g17, ↓x_v17, ↓x_g18, ↓x_v18, ↓x_g19, ↓x_v19, ↓x_gt2, ↓x_gt3, ↓x_gt4, ↓x_gt5, ↓x_gt6, ↓x_gc, ↓x_gn, ↓x_par2, ↓x_p2, ↓x_par3, ↓x_p3, ↓x_C, ↓x_op, ↓x_test, ↓x_chain, ↓x_andT, ↓x_orT, ↓x_notT, ↓x_ifE, ↓x_andV, ↓x_orV, ↓x_notV, ↓x_nil, ↓x_cons, ↓x_star, ↓x_tup, ↓x_lst, ↓x_callB, ↓x_call, ↓x_callK, ↓x_meth, ↓x_make, ↓x_fld, ↓x_fldS, ↓x_bm0, ↓x_bm, ↓x_sl, ↓x_nop, ↓x_prt, ↓x_neg, ↓x_revL, ↓x_lc, ↓x_for, ↓x_diSeq, ↓x_diEnum, ↓x_rng1, ↓y_addi, ↓y_adds, ↓y_addt, ↓y_int, ↓y_intC, ↓y_is, ↓y_isn, ↓y_nnon, ↓y_nbl, ↓y_nint, ↓y_nstr, ↓y_ntup, ↓y_nref, ↓y_t0, ↓y_t1, ↓y_t2, ↓y_t3, ↓y_m2, ↓y_m3, ↓y_len0, ↓y_len1, ↓y_len2, ↓y_len3, ↓y_len, ↓y_lenS, ↓y_itt, ↓y_iss, ↓y_iii, ↓y_iib, ↓y_i1, ↓y_i1b, ↓y_abs, ↓y_strI, ↓y_slt, ↓y_sls, ↓y_tys, ↓y_gs0, ↓y_gs1, ↓y_gs2, ↓y_gs3, ↓y_gs4, ↓y_gs5, ↓y_gs6, ↓y_gs7, ↓bIn_2, ↓bNotIn_2, ↓bEq_int, ↓bNe_int, wipeD, List.map_cons, List.map_nil, List.set_cons_zero, List.set_cons_succ, Option.some.injEq, exists_and_left, exists_eq_left', exists_eq_left, decide_true, decide_false, Bool.false_eq_true, reduceIte, Bool.not_true, Bool.not_false, List.length_cons, List.length_nil, Nat.reduceAdd, Nat.zero_add, line16, Nat.reduceLeDiff, Int.reduceEq, Int.reduceLT, Int.reduceLE, Int.reduceNeg, Int.cast_ofNat_Int, or_true, true_or, or_self, or_false, false_or, true_and, and_true, and_self, List.cons_append, List.nil_append, List.append_nil, forall_const, dDisp, dPairs]
  intro k hk
  refine ⟨put_same, [(.inr "parts", .int 0), (.inr "ins", .int 0)], rfl, by simp, ?_⟩
  rw [put_put]
  have hk1 : put M k (.dk (mergeD [] [(.inr "parts", .int 0), (.inr "ins", .int 0)])) k = some (CNT ((0 : Nat) : Int) ((0 : Nat) : Int)) := by rw [put_same]; rfl
  intro e he
  have hke : k ≠ e := ne_of put_same he
  refine ⟨ps, [], e, [], 0, k, 0, 0, rfl, hok, hc, by omega, by simp, by simp, by rw [put_same]; rfl, (put_ne hke).trans hk1, ?_, ?_⟩
  · intro x M' hx hck hS
    simp only [hx, ↓x_seq, ↓x_next, ↓x_ret, ↓x_retN, ↓x_drop, ↓x_if, ↓x_asg, ↓x_false, ↓x_brk, ↓x_cnt, ↓x_g0, ↓x_v0, ↓x_g1, ↓x_v1, ↓x_g2, ↓x_v2, ↓x_g3, ↓x_v3, ↓x_g4, ↓x_v4, ↓x_g5, ↓x_v5, ↓x_g6, ↓x_v6, ↓x_g7, ↓x_v7, ↓x_g8, ↓x_v8, ↓x_g9, ↓x_v9, ↓x_g10, ↓x_v10, ↓x_g11, ↓x_v11, ↓x_g12, ↓x_v12, ↓x_g13, ↓x_v13, ↓x_g14, ↓x_v14, ↓x_g15, ↓x_v15, ↓x_g16, ↓x_v16, ↓x_g17, ↓x_v17, ↓x_g18, ↓x_v18, ↓x_g19, ↓x_v19, ↓x_gt2, ↓x_gt3, ↓x_gt4, ↓x_gt5, ↓x_gt6, ↓x_gc, ↓x_gn, ↓x_par2, ↓x_p2, ↓x_par3, ↓x_p3, ↓x_C, ↓x_op, ↓x_test, ↓x_chain, ↓x_andT, ↓x_orT, ↓x_notT, ↓x_ifE, ↓x_andV, ↓x_orV, ↓x_notV, ↓x_nil, ↓x_cons, ↓x_star, ↓x_tup, ↓x_lst, ↓x_callB, ↓x_call, ↓x_callK, ↓x_meth, ↓x_make, ↓x_fld, ↓x_fldS, ↓x_bm0, ↓x_bm, ↓x_sl, ↓x_nop, ↓x_prt, ↓x_neg, ↓x_revL, ↓x_lc, ↓x_for, ↓x_diSeq, ↓x_diEnum, ↓x_rng1, ↓y_addi, ↓y_adds, ↓y_addt, ↓y_int, ↓y_intC, ↓y_is, ↓y_isn, ↓y_nnon, ↓y_nbl, ↓y_nint, ↓y_nstr, ↓y_ntup, ↓y_nref, ↓y_t0, ↓y_t1, ↓y_t2, ↓y_t3, ↓y_m2, ↓y_m3, ↓y_len0, ↓y_len1, ↓y_len2, ↓y_len3, ↓y_len, ↓y_lenS, ↓y_itt, ↓y_iss, ↓y_iii, ↓y_iib, ↓y_i1, ↓y_i1b, ↓y_abs, ↓y_strI, ↓y_slt, ↓y_sls, ↓y_tys, ↓y_gs0, ↓y_gs1, ↓y_gs2, ↓y_gs3, ↓y_gs4, ↓y_gs5, ↓y_gs6, ↓y_gs7, ↓bIn_2, ↓bNotIn_2, ↓bEq_int, ↓bNe_int, wipeD, List.map_cons, List.map_nil, List.set_cons_zero, List.set_cons_succ, Option.some.injEq, exists_and_left, exists_eq_left', exists_eq_left, decide_true, decide_false, Bool.false_eq_true, reduceIte, Bool.not_true, Bool.not_false, List.length_cons, List.length_nil, Nat.reduceAdd, Nat.zero_add, line16, Nat.reduceLeDiff, Int.reduceEq, Int.reduceLT, Int.reduceLE, Int.reduceNeg, Int.cast_ofNat_Int, or_true, true_or, or_self, or_false, false_or, true_and, and_true, and_self, List.cons_append, List.nil_append, List.append_nil, forall_const]
    refine Fg.mk (fun b o h => hS b o (fun z => by rw [z, hk] at h; cases h) (((Sub.putNew hk).new he) b o h)) (q x ?_)
    rw [hx]; simp [good, hck]
  · intro M' hck hS hv
    have hM : Sub M M' := fun b o h => hS b o (fun z => by rw [z, hk] at h; cases h) (((Sub.putNew hk).new he) b o h)
    simp only [Nat.zero_add] at hv
    simp only [↓x_seq, ↓x_next, ↓x_ret, ↓x_retN, ↓x_drop, ↓x_if, ↓x_asg, ↓x_false, ↓x_brk, ↓x_cnt, ↓x_g0, ↓x_v0, ↓x_g1, ↓x_v1, ↓x_g2, ↓x_v2, ↓x_g3, ↓x_v3, ↓x_g4, ↓x_v4, ↓x_g5, ↓x_v5, ↓x_g6, ↓x_v6, ↓x_g7, ↓x_v7, ↓x_g8, ↓x_v8, ↓x_g9, ↓x_v9, ↓x_g10, ↓x_v10, ↓x_g11, ↓x_v11, ↓x_g12, ↓x_v12, ↓x_g13, ↓x_v13, ↓x_g14, ↓x_v14, ↓x_g15, ↓x_v15, ↓x_g16, ↓x_v16, ↓x_g17, ↓x_v17, ↓x_g18, ↓x_v18, ↓x_g19, ↓x_v19, ↓x_gt2, ↓x_gt3, ↓x_gt4, ↓x_gt5, ↓x_gt6, ↓x_gc, ↓x_gn, ↓x_par2, ↓x_p2, ↓x_par3, ↓x_p3, ↓x_C, ↓x_op, ↓x_test, ↓x_chain, ↓x_andT, ↓x_orT, ↓x_notT, ↓x_ifE, ↓x_andV, ↓x_orV, ↓x_notV, ↓x_nil, ↓x_cons, ↓x_star, ↓x_tup, ↓x_lst, ↓x_callB, ↓x_call, ↓x_callK, ↓x_meth, ↓x_make, ↓x_fld, ↓x_fldS, ↓x_bm0, ↓x_bm, ↓x_sl, ↓x_nop, ↓x_prt, ↓x_neg, ↓x_revL, ↓x_lc, ↓x_for, ↓x_diSeq, ↓x_diEnum, ↓x_rng1, ↓y_addi, ↓y_adds, ↓y_addt, ↓y_int, ↓y_intC, ↓y_is, ↓y_isn, ↓y_nnon, ↓y_nbl, ↓y_nint, ↓y_nstr, ↓y_ntup, ↓y_nref, ↓y_t0, ↓y_t1, ↓y_t2, ↓y_t3, ↓y_m2, ↓y_m3, ↓y_len0, ↓y_len1, ↓y_len2, ↓y_len3, ↓y_len, ↓y_lenS, ↓y_itt, ↓y_iss, ↓y_iii, ↓y_iib, ↓y_i1, ↓y_i1b, ↓y_abs, ↓y_strI, ↓y_slt, ↓y_sls, ↓y_tys, ↓y_gs0, ↓y_gs1, ↓y_gs2, ↓y_gs3, ↓y_gs4, ↓y_gs5, ↓y_gs6, ↓y_gs7, ↓bIn_2, ↓bNotIn_2, ↓bEq_int, ↓bNe_int, wipeD, List.map_cons, List.map_nil, List.set_cons_zero, List.set_cons_succ, Option.some.injEq, exists_and_left, exists_eq_left', exists_eq_left, decide_true, decide_false, Bool.false_eq_true, reduceIte, Bool.not_true, Bool.not_false, List.length_cons, List.length_nil, Nat.reduceAdd, Nat.zero_add, line16, Nat.reduceLeDiff, Int.reduceEq, Int.reduceLT, Int.reduceLE, Int.reduceNeg, Int.cast_ofNat_Int, or_true, true_or, or_self, or_false, false_or, true_and, and_true, and_self, List.cons_append, List.nil_append, List.append_nil, forall_const, ↓c_parts hv, ↓c_ins hv]
    by_cases h1 : (12 : Int) < ((cPs ps : Nat) : Int)
    · simp only [h1, ↓x_seq, ↓x_next, ↓x_ret, ↓x_retN, ↓x_drop, ↓x_if, ↓x_asg, ↓x_false, ↓x_brk, ↓x_cnt, ↓x_g0, ↓x_v0, ↓x_g1, ↓x_v1, ↓x_g2, ↓x_v2, ↓x_g3, ↓x_v3, ↓x_g4, ↓x_v4, ↓x_g5, ↓x_v5, ↓x_g6, ↓x_v6, ↓x_g7, ↓x_v7, ↓x_g8, ↓x_v8, ↓x_g9, ↓x_v9, ↓x_g10, ↓x_v10, ↓x_g11, ↓x_v11, ↓x_g12, ↓x_v12, ↓x_g13, ↓x_v13, ↓x_g14, ↓x_v14, ↓x_g15, ↓x_v15, ↓x_g16, ↓x_v16, ↓x_g17, ↓x_v17, ↓x_g18, ↓x_v18, ↓x_g19, ↓x_v19, ↓x_gt2, ↓x_gt3, ↓x_gt4, ↓x_gt5, ↓x_gt6, ↓x_gc, ↓x_gn, ↓x_par2, ↓x_p2, ↓x_par3, ↓x_p3, ↓x_C, ↓x_op, ↓x_test, ↓x_chain, ↓x_andT, ↓x_orT, ↓x_notT, ↓x_ifE, ↓x_andV, ↓x_orV, ↓x_notV, ↓x_nil, ↓x_cons, ↓x_star, ↓x_tup, ↓x_lst, ↓x_callB, ↓x_call, ↓x_callK, ↓x_meth, ↓x_make, ↓x_fld, ↓x_fldS, ↓x_bm0, ↓x_bm, ↓x_sl, ↓x_nop, ↓x_prt, ↓x_neg, ↓x_revL, ↓x_lc, ↓x_for, ↓x_diSeq, ↓x_diEnum, ↓x_rng1, ↓y_addi, ↓y_adds, ↓y_addt, ↓y_int, ↓y_intC, ↓y_is, ↓y_isn, ↓y_nnon, ↓y_nbl, ↓y_nint, ↓y_nstr, ↓y_ntup, ↓y_nref, ↓y_t0, ↓y_t1, ↓y_t2, ↓y_t3, ↓y_m2, ↓y_m3, ↓y_len0, ↓y_len1, ↓y_len2, ↓y_len3, ↓y_len, ↓y_lenS, ↓y_itt, ↓y_iss, ↓y_iii, ↓y_iib, ↓y_i1, ↓y_i1b, ↓y_abs, ↓y_strI, ↓y_slt, ↓y_sls, ↓y_tys, ↓y_gs0, ↓y_gs1, ↓y_gs2, ↓y_gs3, ↓y_gs4, ↓y_gs5, ↓y_gs6, ↓y_gs7, ↓bIn_2, ↓bNotIn_2, ↓bEq_int, ↓bNe_int, wipeD, List.map_cons, List.map_nil, List.set_cons_zero, List.set_cons_succ, Option.some.injEq, exists_and_left, exists_eq_left', exists_eq_left, decide_true, decide_false, Bool.false_eq_true, reduceIte, Bool.not_true, Bool.not_false, List.length_cons, List.length_nil, Nat.reduceAdd, Nat.zero_add, line16, Nat.reduceLeDiff, Int.reduceEq, Int.reduceLT, Int.reduceLE, Int.reduceNeg, Int.cast_ofNat_Int, or_true, true_or, or_self, or_false, false_or, true_and, and_true, and_self, List.cons_append, List.nil_append, List.append_nil, forall_const]
      exact Fg.mk hM (q _ (by have : ¬ cPs ps ≤ 12 := by omega
                              simp [good, isNon, this]))
    · by_cases h2 : ((iPs ps : Nat) : Int) = 0
      · simp only [h1, h2, ↓x_seq, ↓x_next, ↓x_ret, ↓x_retN, ↓x_drop, ↓x_if, ↓x_asg, ↓x_false, ↓x_brk, ↓x_cnt, ↓x_g0, ↓x_v0, ↓x_g1, ↓x_v1, ↓x_g2, ↓x_v2, ↓x_g3, ↓x_v3, ↓x_g4, ↓x_v4, ↓x_g5, ↓x_v5, ↓x_g6, ↓x_v6, ↓x_g7, ↓x_v7, ↓x_g8, ↓x_v8, ↓x_g9, ↓x_v9, ↓x_g10, ↓x_v10, ↓x_g11, ↓x_v11, ↓x_g12, ↓x_v12, ↓x_g13, ↓x_v13, ↓x_g14, ↓x_v14, ↓x_g15, ↓x_v15, ↓x_g16, ↓x_v16, ↓x_g17, ↓x_v17, ↓x_g18, ↓x_v18, ↓x_g19, ↓x_v19, ↓x_gt2, ↓x_gt3, ↓x_gt4, ↓x_gt5, ↓x_gt6, ↓x_gc, ↓x_gn, ↓x_par2, ↓x_p2, ↓x_par3, ↓x_p3, ↓x_C, ↓x_op, ↓x_test, ↓x_chain, ↓x_andT, ↓x_orT, ↓x_notT, ↓x_ifE, ↓x_andV, ↓x_orV, ↓x_notV, ↓x_nil, ↓x_cons, ↓x_star, ↓x_tup, ↓x_lst, ↓x_callB, ↓x_call, ↓x_callK, ↓x_meth, ↓x_make, ↓x_fld, ↓x_fldS, ↓x_bm0, ↓x_bm, ↓x_sl, ↓x_nop, ↓x_prt, ↓x_neg, ↓x_revL, ↓x_lc, ↓x_for, ↓x_diSeq, ↓x_diEnum, ↓x_rng1, ↓y_addi, ↓y_adds, ↓y_addt, ↓y_int, ↓y_intC, ↓y_is, ↓y_isn, ↓y_nnon, ↓y_nbl, ↓y_nint, ↓y_nstr, ↓y_ntup, ↓y_nref, ↓y_t0, ↓y_t1, ↓y_t2, ↓y_t3, ↓y_m2, ↓y_m3, ↓y_len0, ↓y_len1, ↓y_len2, ↓y_len3, ↓y_len, ↓y_lenS, ↓y_itt, ↓y_iss, ↓y_iii, ↓y_iib, ↓y_i1, ↓y_i1b, ↓y_abs, ↓y_strI, ↓y_slt, ↓y_sls, ↓y_tys, ↓y_gs0, ↓y_gs1, ↓y_gs2, ↓y_gs3, ↓y_gs4, ↓y_gs5, ↓y_gs6, ↓y_gs7, ↓bIn_2, ↓bNotIn_2, ↓bEq_int, ↓bNe_int, wipeD, List.map_cons, List.map_nil, List.set_cons_zero, List.set_cons_succ, Option.some.injEq, exists_and_left, exists_eq_left', exists_eq_left, decide_true, decide_false, Bool.false_eq_true, reduceIte, Bool.not_true, Bool.not_false, List.length_cons, List.length_nil, Nat.reduceAdd, Nat.zero_add, line16, Nat.reduceLeDiff, Int.reduceEq, Int.reduceLT, Int.reduceLE, Int.reduceNeg, Int.cast_ofNat_Int, or_true, true_or, or_self, or_false, false_or, true_and, and_true, and_self, List.cons_append, List.nil_append, List.append_nil, forall_const]
        exact Fg.mk hM (q _ (by have : ¬ 0 < iPs ps := by omega
                                simp [good, isNon, this]))
      · simp only [h1, h2, ↓x_seq, ↓x_next, ↓x_ret, ↓x_retN, ↓x_drop, ↓x_if, ↓x_asg, ↓x_false, ↓x_brk, ↓x_cnt, ↓x_g0, ↓x_v0, ↓x_g1, ↓x_v1, ↓x_g2, ↓x_v2, ↓x_g3, ↓x_v3, ↓x_g4, ↓x_v4, ↓x_g5, ↓x_v5, ↓x_g6, ↓x_v6, ↓x_g7, ↓x_v7, ↓x_g8, ↓x_v8, ↓x_g9, ↓x_v9, ↓x_g10, ↓x_v10, ↓x_g11, ↓x_v11, ↓x_g12, ↓x_v12, ↓x_g13, ↓x_v13, ↓x_g14, ↓x_v14, ↓x_g15, ↓x_v15, ↓x_g16, ↓x_v16, ↓x_g17, ↓x_v17, ↓x_g18, ↓x_v18, ↓x_g19, ↓x_v19, ↓x_gt2, ↓x_gt3, ↓x_gt4, ↓x_gt5, ↓x_gt6, ↓x_gc, ↓x_gn, ↓x_par2, ↓x_p2, ↓x_par3, ↓x_p3, ↓x_C, ↓x_op, ↓x_test, ↓x_chain, ↓x_andT, ↓x_orT, ↓x_notT, ↓x_ifE, ↓x_andV, ↓x_orV, ↓x_notV, ↓x_nil, ↓x_cons, ↓x_star, ↓x_tup, ↓x_lst, ↓x_callB, ↓x_call, ↓x_callK, ↓x_meth, ↓x_make, ↓x_fld, ↓x_fldS, ↓x_bm0, ↓x_bm, ↓x_sl, ↓x_nop, ↓x_prt, ↓x_neg, ↓x_revL, ↓x_lc, ↓x_for, ↓x_diSeq, ↓x_diEnum, ↓x_rng1, ↓y_addi, ↓y_adds, ↓y_addt, ↓y_int, ↓y_intC, ↓y_is, ↓y_isn, ↓y_nnon, ↓y_nbl, ↓y_nint, ↓y_nstr, ↓y_ntup, ↓y_nref, ↓y_t0, ↓y_t1, ↓y_t2, ↓y_t3, ↓y_m2, ↓y_m3, ↓y_len0, ↓y_len1, ↓y_len2, ↓y_len3, ↓y_len, ↓y_lenS, ↓y_itt, ↓y_iss, ↓y_iii, ↓y_iib, ↓y_i1, ↓y_i1b, ↓y_abs, ↓y_strI, ↓y_slt, ↓y_sls, ↓y_tys, ↓y_gs0, ↓y_gs1, ↓y_gs2, ↓y_gs3, ↓y_gs4, ↓y_gs5, ↓y_gs6, ↓y_gs7, ↓bIn_2, ↓bNotIn_2, ↓bEq_int, ↓bNe_int, wipeD, List.map_cons, List.map_nil, List.set_cons_zero, List.set_cons_succ, Option.some.injEq, exists_and_left, exists_eq_left', exists_eq_left, decide_true, decide_false, Bool.false_eq_true, reduceIte, Bool.not_true, Bool.not_false, List.length_cons, List.length_nil, Nat.reduceAdd, Nat.zero_add, line16, Nat.reduceLeDiff, Int.reduceEq, Int.reduceLT, Int.reduceLE, Int.reduceNeg, Int.cast_ofNat_Int, or_true, true_or, or_self, or_false, false_or, true_and, and_true, and_self, List.cons_append, List.nil_append, List.append_nil, forall_const]
        exact Fg.mk hM (q _ (by have h3 : cPs ps ≤ 12 := by omega
                                have h4 : 0 < iPs ps := by omega
                                simp [good, isNon, hck, h3, h4]))
theorem split_at {ps : List Part} {i : Nat} (h : i < ps.length) : ∃ a p b, ps = a ++ p :: b ∧ ps.take i = a ∧ ps.drop (i + 1) = b ∧ ps[i]? = some p := ⟨ps.take i, ps[i], ps.drop (i + 1), by simp, rfl, rfl, List.getElem?_eq_getElem h⟩
theorem okPs_app {a b : List Part} : okPs (a ++ b) = true ↔ okPs a = true ∧ okPs b = true := by
  simp only [okPs_iff, List.mem_append]
  exact ⟨fun h => ⟨fun p hp => h p (.inl hp), fun p hp => h p (.inr hp)⟩, fun h p hp => hp.elim (h.1 p) (h.2 p)⟩
def sp__law_near : DSp := fun ds M Q E => ∃ (a g : Addr) (ps : List Part), ds = [.ref a, .tup (pDs ps)] ∧ okPs ps = true ∧ ps ≠ [] ∧ cPs ps ≤ 12 ∧ Dk a g M ∧ ∀ (qs : List Part) M', okPs qs = true → qs ≠ [] → cPs qs ≤ 13 → Dk a g M' → Kp a g M M' → Q (.tup (pDs qs)) M'
theorem ok__law_near (T : Tx K mg) : DFn P w K mg base CX0 2 T.f__law_near T.d__law_near ["deck", "program"] sp__law_near := by
  refine dfn_of (N := N__law_near) T.F__law_near sc__law_near (by decide) (fun ds M Q E h => ?_) (fun cdv A outer s H hr hgd => (dss_cons (ds_par (i := 2) (j := 3) rfl sc__law_near.nd rfl rfl (by decide) rfl rfl (da_cons (de_call (ok__law_draw T) (hr.mono (by omega)) hgd rfl T.g__law_draw T.F__law_draw.kp T.b__law_draw dpass0 (da_cons (de_var 0) (da_cons (de_callB call_len tr_len rfl T.n_len bt_len (da_cons (de_var 1) da_nil)) da_nil))) (da_cons (de_call (ok__law_draw T) (hr.mono (by omega)) hgd rfl T.g__law_draw T.F__law_draw.kp T.b__law_draw dpass0 (da_cons (de_var 0) (da_cons de_int da_nil))) da_nil)) (by rfl)) (dss_cons (ds_set (i := 4) sc__law_near.nd rfl (Or.inl rfl) (de_ix (hu_of hr) (de_var 1) (de_var 2))) (dss_cons (ds_if (dt_cmp (op_eqD hr.units) tr_eq (de_var 3) de_int (nomark _)) (dss_one (ds_ret (de_if (dt_cmp op_gt tr_intB (de_callB call_len tr_len rfl T.n_len bt_len (da_cons (de_var 1) da_nil)) de_int (nomark _)) (de_bin op_add4 tr_add (de_sl (de_var 1) do_none (do_some (de_var 2))) (de_sl (de_var 1) (do_some (de_bin op_add4 tr_add (de_var 2) de_int)) do_none)) (de_bin op_add4 tr_add (de_var 1) (de_tup (da_cons (de_tup (da_cons de_str (da_cons de_int (da_cons (de_tup da_nil) da_nil)))) da_nil)))))) dss_nil) (dss_cons (ds_if (dt_cmp (op_eqD hr.units) tr_eq (de_var 3) de_int (nomark _)) (dss_one (ds_ret (de_revT (de_var 1)))) dss_nil) (dss_cons (ds_if (dt_cmp (op_eqD hr.units) tr_eq (de_var 3) de_int (nomark _)) (dss_one (ds_ret (de_bin op_add4 tr_add (de_bin op_add4 tr_add (de_sl (de_var 1) do_none (do_some (de_var 2))) (de_tup (da_cons (de_tup (da_cons de_str (da_cons (de_tup (da_cons (de_var 4) da_nil)) da_nil))) da_nil))) (de_sl (de_var 1) (do_some (de_bin op_add4 tr_add (de_var 2) de_int)) do_none)))) dss_nil) (dss_cons (ds_if (dt_cmp (op_eqD hr.units) tr_eq (de_var 3) de_int (nomark _)) (dss_one (ds_ret (de_bin op_add4 tr_add (de_bin op_add4 tr_add (de_sl (de_var 1) do_none (do_some (de_var 2))) (de_tup (da_cons (de_tup (da_cons de_str (da_cons (de_tup (da_cons (de_tup (da_cons (de_var 4) da_nil)) (da_cons (de_tup da_nil) da_nil))) da_nil))) da_nil))) (de_sl (de_var 1) (do_some (de_bin op_add4 tr_add (de_var 2) de_int)) do_none)))) dss_nil) (dss_cons (ds_set (i := 5) sc__law_near.nd rfl (Or.inl rfl) (de_if (dt_cmp (op_eqD hr.units) tr_eq (de_ix (hu_of hr) (de_var 4) de_int) de_str (nomark _)) (de_tup (da_cons de_str (da_cons (de_bin op_mod tr_intC (de_callTy call_int1 tr_int1 rfl T.n_int bt_int (da_cons (de_bin op_add4 tr_add (de_ix (hu_of hr) (de_var 4) de_int) de_int) da_nil)) de_int) (da_cons (de_ix (hu_of hr) (de_var 4) de_int) da_nil)))) (de_tup (da_cons de_str (da_cons de_int (da_cons (de_tup da_nil) da_nil)))))) (dss_one (ds_ret (de_bin op_add4 tr_add (de_bin op_add4 tr_add (de_sl (de_var 1) do_none (do_some (de_var 2))) (de_tup (da_cons (de_var 5) da_nil))) (de_sl (de_var 1) (do_some (de_bin op_add4 tr_add (de_var 2) de_int)) do_none)))))))))))) ?_
  · obtain ⟨_, _, _, rfl, _⟩ := h; rfl
  rintro ds M Q E ⟨a, g, ps, rfl, hok, hne, hc, hD, q⟩
  rw [st__law_near]
  have hl1 : 1 ≤ ps.length := by cases ps <;> simp_all
  have hl2 := len_cPs ps
  simp only [↓x_seq, ↓x_next, ↓x_ret, ↓x_retN, ↓x_drop, ↓x_if, ↓x_asg, ↓x_false, ↓x_brk, ↓x_cnt, ↓x_g0, ↓x_v0, ↓x_g1, ↓x_v1, ↓x_g2, ↓x_v2, ↓x_g3, ↓x_v3, ↓x_g4, ↓x_v4, ↓x_g5, ↓x_v5, ↓x_g6, ↓x_v6, ↓x_g7, ↓x_v7, ↓x_g8, ↓x_v8, ↓x_g9, ↓x_v9, ↓x_g10, ↓x_v10, ↓x_g11, ↓x_v11, ↓x_g12, ↓x_v12, ↓x_g13, ↓x_v13, ↓x_g14, ↓x_v14, ↓x_g15, ↓x_v15, ↓x_g16, ↓x_v16, ↓x_g17, ↓x_v17, ↓x_g18, ↓x_v18, ↓x_g19, ↓x_v19, ↓x_gt2, ↓x_gt3, ↓x_gt4, ↓x_gt5, ↓x_gt6, ↓x_gc, ↓x_gn, ↓x_par2, ↓x_p2, ↓x_par3, ↓x_p3, ↓x_C, ↓x_op, ↓x_test, ↓x_chain, ↓x_andT, ↓x_orT, ↓x_notT, ↓x_ifE, ↓x_andV, ↓x_orV, ↓x_notV, ↓x_nil, ↓x_cons, ↓x_star, ↓x_tup, ↓x_lst, ↓x_callB, ↓x_call, ↓x_callK, ↓x_meth, ↓x_make, ↓x_fld, ↓x_fldS, ↓x_bm0, ↓x_bm, ↓x_sl, ↓x_nop, ↓x_prt, ↓x_neg, ↓x_revL, ↓x_lc, ↓x_for, ↓x_diSeq, ↓x_diEnum, ↓x_rng1, ↓y_addi, ↓y_adds, ↓y_addt, ↓y_int, ↓y_intC, ↓y_is, ↓y_isn, ↓y_nnon, ↓y_nbl, ↓y_nint, ↓y_nstr, ↓y_ntup, ↓y_nref, ↓y_t0, ↓y_t1, ↓y_t2, ↓y_t3, ↓y_m2, ↓y_m3, ↓y_len0, ↓y_len1, ↓y_len2, ↓y_len3, ↓y_len, ↓y_lenS, ↓y_itt, ↓y_iss, ↓y_iii, ↓y_iib, ↓y_i1, ↓y_i1b, ↓y_abs, ↓y_strI, ↓y_slt, ↓y_sls, ↓y_tys, ↓y_gs0, ↓y_gs1, ↓y_gs2, ↓y_gs3, ↓y_gs4, ↓y_gs5, ↓y_gs6, ↓y_gs7, ↓bIn_2, ↓bNotIn_2, ↓bEq_int, ↓bNe_int, wipeD, List.map_cons, List.map_nil, List.set_cons_zero, List.set_cons_succ, Option.some.injEq, exists_and_left, exists_eq_left', exists_eq_left, decide_true, decide_false, Bool.false_eq_true, reduceIte, Bool.not_true, Bool.not_false, List.length_cons, List.length_nil, Nat.reduceAdd, Nat.zero_add, line16, Nat.reduceLeDiff, Int.reduceEq, Int.reduceLT, Int.reduceLE, Int.reduceNeg, Int.cast_ofNat_Int, or_true, true_or, or_self, or_false, false_or, true_and, and_true, and_self, List.cons_append, List.nil_append, List.append_nil, forall_const]
  refine ⟨a, g, ps.length, by rw [pDs_length], hl1, by omega, hD, fun i M1 hi hD1 hK1 => ?_⟩
  simp only [↓x_seq, ↓x_next, ↓x_ret, ↓x_retN, ↓x_drop, ↓x_if, ↓x_asg, ↓x_false, ↓x_brk, ↓x_cnt, ↓x_g0, ↓x_v0, ↓x_g1, ↓x_v1, ↓x_g2, ↓x_v2, ↓x_g3, ↓x_v3, ↓x_g4, ↓x_v4, ↓x_g5, ↓x_v5, ↓x_g6, ↓x_v6, ↓x_g7, ↓x_v7, ↓x_g8, ↓x_v8, ↓x_g9, ↓x_v9, ↓x_g10, ↓x_v10, ↓x_g11, ↓x_v11, ↓x_g12, ↓x_v12, ↓x_g13, ↓x_v13, ↓x_g14, ↓x_v14, ↓x_g15, ↓x_v15, ↓x_g16, ↓x_v16, ↓x_g17, ↓x_v17, ↓x_g18, ↓x_v18, ↓x_g19, ↓x_v19, ↓x_gt2, ↓x_gt3, ↓x_gt4, ↓x_gt5, ↓x_gt6, ↓x_gc, ↓x_gn, ↓x_par2, ↓x_p2, ↓x_par3, ↓x_p3, ↓x_C, ↓x_op, ↓x_test, ↓x_chain, ↓x_andT, ↓x_orT, ↓x_notT, ↓x_ifE, ↓x_andV, ↓x_orV, ↓x_notV, ↓x_nil, ↓x_cons, ↓x_star, ↓x_tup, ↓x_lst, ↓x_callB, ↓x_call, ↓x_callK, ↓x_meth, ↓x_make, ↓x_fld, ↓x_fldS, ↓x_bm0, ↓x_bm, ↓x_sl, ↓x_nop, ↓x_prt, ↓x_neg, ↓x_revL, ↓x_lc, ↓x_for, ↓x_diSeq, ↓x_diEnum, ↓x_rng1, ↓y_addi, ↓y_adds, ↓y_addt, ↓y_int, ↓y_intC, ↓y_is, ↓y_isn, ↓y_nnon, ↓y_nbl, ↓y_nint, ↓y_nstr, ↓y_ntup, ↓y_nref, ↓y_t0, ↓y_t1, ↓y_t2, ↓y_t3, ↓y_m2, ↓y_m3, ↓y_len0, ↓y_len1, ↓y_len2, ↓y_len3, ↓y_len, ↓y_lenS, ↓y_itt, ↓y_iss, ↓y_iii, ↓y_iib, ↓y_i1, ↓y_i1b, ↓y_abs, ↓y_strI, ↓y_slt, ↓y_sls, ↓y_tys, ↓y_gs0, ↓y_gs1, ↓y_gs2, ↓y_gs3, ↓y_gs4, ↓y_gs5, ↓y_gs6, ↓y_gs7, ↓bIn_2, ↓bNotIn_2, ↓bEq_int, ↓bNe_int, wipeD, List.map_cons, List.map_nil, List.set_cons_zero, List.set_cons_succ, Option.some.injEq, exists_and_left, exists_eq_left', exists_eq_left, decide_true, decide_false, Bool.false_eq_true, reduceIte, Bool.not_true, Bool.not_false, List.length_cons, List.length_nil, Nat.reduceAdd, Nat.zero_add, line16, Nat.reduceLeDiff, Int.reduceEq, Int.reduceLT, Int.reduceLE, Int.reduceNeg, Int.cast_ofNat_Int, or_true, true_or, or_self, or_false, false_or, true_and, and_true, and_self, List.cons_append, List.nil_append, List.append_nil, forall_const]
  refine ⟨a, g, 5, rfl, by omega, by omega, hD1, fun way M2 hway hD2 hK2 => ?_⟩
  have hK3 := hK1.trans hK2
  obtain ⟨x, p, y, rfl, hx, hy, hp⟩ := split_at hi
  have hpD : (pDs (x ++ p :: y))[i]? = some (pD p) := by rw [pDs_map, List.getElem?_map, hp]; rfl
  have hat : ∀ Q', bIx (.tup (pDs (x ++ p :: y))) (.int ((i : Nat) : Int)) M2 Q' = Q' (pD p) M2 := fun Q' => by
    show (∃ d, L2.atI _ _ = some d ∧ Q' d M2) = _
    rw [DL.atI_nat hpD]; simp
  have hcut1 : cutL (pDs (x ++ p :: y)) none (some ((i : Nat) : Int)) = pDs x := by rw [cut_to _ (by rw [pDs_length]; omega), pDs_map, ← List.map_take, hx, ← pDs_map]
  have hcut2 : cutL (pDs (x ++ p :: y)) (some (((i : Nat) : Int) + 1)) none = pDs y := by rw [cut_from _ (by rw [pDs_length]; omega), pDs_map, ← List.map_drop, hy, ← pDs_map]
  have hlx : (pDs x).length + (pDs y).length ≤ 12 := by rw [pDs_length, pDs_length]; simp at hl2; omega
  have hokx : okPs x = true := (okPs_app.mp hok).1
  have hokp : okP p = true := (okPs_iff _).mp hok p (by simp)
  have hoky : okPs y = true := (okPs_iff y).mpr fun z hz => (okPs_iff _).mp hok z (by simp [hz])
  have hcx : cPs (x ++ p :: y) = cPs x + (cP p + cPs y) := by rw [cPs_app]; rfl
  have hcp := cP_pos p
  have fin : ∀ r : Part, okP r = true → cP r ≤ cP p + 1 → Fg Q (.tup (pDs x ++ pD r :: pDs y)) M2 := fun r h1 h2 => by
    have := q (x ++ r :: y) M2 (okPs_app.mpr ⟨hokx, by simp [okPs, h1, hoky]⟩) (by simp) (by rw [cPs_app]; simp only [cPs]; omega) hD2 hK3
    rw [pDs_app, pDs] at this
    exact Fg.now this
  have hw : way = 0 ∨ way = 1 ∨ way = 2 ∨ way = 3 ∨ way = 4 := by omega
  simp only [↓x_seq, ↓x_next, ↓x_ret, ↓x_retN, ↓x_drop, ↓x_if, ↓x_asg, ↓x_false, ↓x_brk, ↓x_cnt, ↓x_g0, ↓x_v0, ↓x_g1, ↓x_v1, ↓x_g2, ↓x_v2, ↓x_g3, ↓x_v3, ↓x_g4, ↓x_v4, ↓x_g5, ↓x_v5, ↓x_g6, ↓x_v6, ↓x_g7, ↓x_v7, ↓x_g8, ↓x_v8, ↓x_g9, ↓x_v9, ↓x_g10, ↓x_v10, ↓x_g11, ↓x_v11, ↓x_g12, ↓x_v12, ↓x_g13, ↓x_v13, ↓x_g14, ↓x_v14, ↓x_g15, ↓x_v15, ↓x_g16, ↓x_v16, ↓x_g17, ↓x_v17, ↓x_g18, ↓x_v18, ↓x_g19, ↓x_v19, ↓x_gt2, ↓x_gt3, ↓x_gt4, ↓x_gt5, ↓x_gt6, ↓x_gc, ↓x_gn, ↓x_par2, ↓x_p2, ↓x_par3, ↓x_p3, ↓x_C, ↓x_op, ↓x_test, ↓x_chain, ↓x_andT, ↓x_orT, ↓x_notT, ↓x_ifE, ↓x_andV, ↓x_orV, ↓x_notV, ↓x_nil, ↓x_cons, ↓x_star, ↓x_tup, ↓x_lst, ↓x_callB, ↓x_call, ↓x_callK, ↓x_meth, ↓x_make, ↓x_fld, ↓x_fldS, ↓x_bm0, ↓x_bm, ↓x_sl, ↓x_nop, ↓x_prt, ↓x_neg, ↓x_revL, ↓x_lc, ↓x_for, ↓x_diSeq, ↓x_diEnum, ↓x_rng1, ↓y_addi, ↓y_adds, ↓y_addt, ↓y_int, ↓y_intC, ↓y_is, ↓y_isn, ↓y_nnon, ↓y_nbl, ↓y_nint, ↓y_nstr, ↓y_ntup, ↓y_nref, ↓y_t0, ↓y_t1, ↓y_t2, ↓y_t3, ↓y_m2, ↓y_m3, ↓y_len0, ↓y_len1, ↓y_len2, ↓y_len3, ↓y_len, ↓y_lenS, ↓y_itt, ↓y_iss, ↓y_iii, ↓y_iib, ↓y_i1, ↓y_i1b, ↓y_abs, ↓y_strI, ↓y_slt, ↓y_sls, ↓y_tys, ↓y_gs0, ↓y_gs1, ↓y_gs2, ↓y_gs3, ↓y_gs4, ↓y_gs5, ↓y_gs6, ↓y_gs7, ↓bIn_2, ↓bNotIn_2, ↓bEq_int, ↓bNe_int, wipeD, List.map_cons, List.map_nil, List.set_cons_zero, List.set_cons_succ, Option.some.injEq, exists_and_left, exists_eq_left', exists_eq_left, decide_true, decide_false, Bool.false_eq_true, reduceIte, Bool.not_true, Bool.not_false, List.length_cons, List.length_nil, Nat.reduceAdd, Nat.zero_add, line16, Nat.reduceLeDiff, Int.reduceEq, Int.reduceLT, Int.reduceLE, Int.reduceNeg, Int.cast_ofNat_Int, or_true, true_or, or_self, or_false, false_or, true_and, and_true, and_self, List.cons_append, List.nil_append, List.append_nil, forall_const, ↓hat]
  rcases hw with rfl | rfl | rfl | rfl | rfl
  · simp only [↓x_seq, ↓x_next, ↓x_ret, ↓x_retN, ↓x_drop, ↓x_if, ↓x_asg, ↓x_false, ↓x_brk, ↓x_cnt, ↓x_g0, ↓x_v0, ↓x_g1, ↓x_v1, ↓x_g2, ↓x_v2, ↓x_g3, ↓x_v3, ↓x_g4, ↓x_v4, ↓x_g5, ↓x_v5, ↓x_g6, ↓x_v6, ↓x_g7, ↓x_v7, ↓x_g8, ↓x_v8, ↓x_g9, ↓x_v9, ↓x_g10, ↓x_v10, ↓x_g11, ↓x_v11, ↓x_g12, ↓x_v12, ↓x_g13, ↓x_v13, ↓x_g14, ↓x_v14, ↓x_g15, ↓x_v15, ↓x_g16, ↓x_v16, ↓x_g17, ↓x_v17, ↓x_g18, ↓x_v18, ↓x_g19, ↓x_v19, ↓x_gt2, ↓x_gt3, ↓x_gt4, ↓x_gt5, ↓x_gt6, ↓x_gc, ↓x_gn, ↓x_par2, ↓x_p2, ↓x_par3, ↓x_p3, ↓x_C, ↓x_op, ↓x_test, ↓x_chain, ↓x_andT, ↓x_orT, ↓x_notT, ↓x_ifE, ↓x_andV, ↓x_orV, ↓x_notV, ↓x_nil, ↓x_cons, ↓x_star, ↓x_tup, ↓x_lst, ↓x_callB, ↓x_call, ↓x_callK, ↓x_meth, ↓x_make, ↓x_fld, ↓x_fldS, ↓x_bm0, ↓x_bm, ↓x_sl, ↓x_nop, ↓x_prt, ↓x_neg, ↓x_revL, ↓x_lc, ↓x_for, ↓x_diSeq, ↓x_diEnum, ↓x_rng1, ↓y_addi, ↓y_adds, ↓y_addt, ↓y_int, ↓y_intC, ↓y_is, ↓y_isn, ↓y_nnon, ↓y_nbl, ↓y_nint, ↓y_nstr, ↓y_ntup, ↓y_nref, ↓y_t0, ↓y_t1, ↓y_t2, ↓y_t3, ↓y_m2, ↓y_m3, ↓y_len0, ↓y_len1, ↓y_len2, ↓y_len3, ↓y_len, ↓y_lenS, ↓y_itt, ↓y_iss, ↓y_iii, ↓y_iib, ↓y_i1, ↓y_i1b, ↓y_abs, ↓y_strI, ↓y_slt, ↓y_sls, ↓y_tys, ↓y_gs0, ↓y_gs1, ↓y_gs2, ↓y_gs3, ↓y_gs4, ↓y_gs5, ↓y_gs6, ↓y_gs7, ↓bIn_2, ↓bNotIn_2, ↓bEq_int, ↓bNe_int, wipeD, List.map_cons, List.map_nil, List.set_cons_zero, List.set_cons_succ, Option.some.injEq, exists_and_left, exists_eq_left', exists_eq_left, decide_true, decide_false, Bool.false_eq_true, reduceIte, Bool.not_true, Bool.not_false, List.length_cons, List.length_nil, Nat.reduceAdd, Nat.zero_add, line16, Nat.reduceLeDiff, Int.reduceEq, Int.reduceLT, Int.reduceLE, Int.reduceNeg, Int.cast_ofNat_Int, or_true, true_or, or_self, or_false, false_or, true_and, and_true, and_self, List.cons_append, List.nil_append, List.append_nil, forall_const, hcut1, hcut2, pDs_length]
    by_cases h1 : (1 : Int) < (((x ++ p :: y).length : Nat) : Int)
    · simp only [h1, ↓x_seq, ↓x_next, ↓x_ret, ↓x_retN, ↓x_drop, ↓x_if, ↓x_asg, ↓x_false, ↓x_brk, ↓x_cnt, ↓x_g0, ↓x_v0, ↓x_g1, ↓x_v1, ↓x_g2, ↓x_v2, ↓x_g3, ↓x_v3, ↓x_g4, ↓x_v4, ↓x_g5, ↓x_v5, ↓x_g6, ↓x_v6, ↓x_g7, ↓x_v7, ↓x_g8, ↓x_v8, ↓x_g9, ↓x_v9, ↓x_g10, ↓x_v10, ↓x_g11, ↓x_v11, ↓x_g12, ↓x_v12, ↓x_g13, ↓x_v13, ↓x_g14, ↓x_v14, ↓x_g15, ↓x_v15, ↓x_g16, ↓x_v16, ↓x_g17, ↓x_v17, ↓x_g18, ↓x_v18, ↓x_g19, ↓x_v19, ↓x_gt2, ↓x_gt3, ↓x_gt4, ↓x_gt5, ↓x_gt6, ↓x_gc, ↓x_gn, ↓x_par2, ↓x_p2, ↓x_par3, ↓x_p3, ↓x_C, ↓x_op, ↓x_test, ↓x_chain, ↓x_andT, ↓x_orT, ↓x_notT, ↓x_ifE, ↓x_andV, ↓x_orV, ↓x_notV, ↓x_nil, ↓x_cons, ↓x_star, ↓x_tup, ↓x_lst, ↓x_callB, ↓x_call, ↓x_callK, ↓x_meth, ↓x_make, ↓x_fld, ↓x_fldS, ↓x_bm0, ↓x_bm, ↓x_sl, ↓x_nop, ↓x_prt, ↓x_neg, ↓x_revL, ↓x_lc, ↓x_for, ↓x_diSeq, ↓x_diEnum, ↓x_rng1, ↓y_addi, ↓y_adds, ↓y_addt, ↓y_int, ↓y_intC, ↓y_is, ↓y_isn, ↓y_nnon, ↓y_nbl, ↓y_nint, ↓y_nstr, ↓y_ntup, ↓y_nref, ↓y_t0, ↓y_t1, ↓y_t2, ↓y_t3, ↓y_m2, ↓y_m3, ↓y_len0, ↓y_len1, ↓y_len2, ↓y_len3, ↓y_len, ↓y_lenS, ↓y_itt, ↓y_iss, ↓y_iii, ↓y_iib, ↓y_i1, ↓y_i1b, ↓y_abs, ↓y_strI, ↓y_slt, ↓y_sls, ↓y_tys, ↓y_gs0, ↓y_gs1, ↓y_gs2, ↓y_gs3, ↓y_gs4, ↓y_gs5, ↓y_gs6, ↓y_gs7, ↓bIn_2, ↓bNotIn_2, ↓bEq_int, ↓bNe_int, wipeD, List.map_cons, List.map_nil, List.set_cons_zero, List.set_cons_succ, Option.some.injEq, exists_and_left, exists_eq_left', exists_eq_left, decide_true, decide_false, Bool.false_eq_true, reduceIte, Bool.not_true, Bool.not_false, List.length_cons, List.length_nil, Nat.reduceAdd, Nat.zero_add, line16, Nat.reduceLeDiff, Int.reduceEq, Int.reduceLT, Int.reduceLE, Int.reduceNeg, Int.cast_ofNat_Int, or_true, true_or, or_self, or_false, false_or, true_and, and_true, and_self, List.cons_append, List.nil_append, List.append_nil, forall_const]
      have := q (x ++ y) M2 (okPs_app.mpr ⟨hokx, hoky⟩) (by intro e; simp at e; rw [e.1, e.2] at h1; simp at h1) (by rw [cPs_app]; omega) hD2 hK3
      rw [pDs_app] at this
      rw [pDs_length, pDs_length] at hlx
      exact ⟨by omega, Fg.now this⟩
    · simp only [h1, ↓x_seq, ↓x_next, ↓x_ret, ↓x_retN, ↓x_drop, ↓x_if, ↓x_asg, ↓x_false, ↓x_brk, ↓x_cnt, ↓x_g0, ↓x_v0, ↓x_g1, ↓x_v1, ↓x_g2, ↓x_v2, ↓x_g3, ↓x_v3, ↓x_g4, ↓x_v4, ↓x_g5, ↓x_v5, ↓x_g6, ↓x_v6, ↓x_g7, ↓x_v7, ↓x_g8, ↓x_v8, ↓x_g9, ↓x_v9, ↓x_g10, ↓x_v10, ↓x_g11, ↓x_v11, ↓x_g12, ↓x_v12, ↓x_g13, ↓x_v13, ↓x_g14, ↓x_v14, ↓x_g15, ↓x_v15, ↓x_g16, ↓x_v16, ↓x_g17, ↓x_v17, ↓x_g18, ↓x_v18, ↓x_g19, ↓x_v19, ↓x_gt2, ↓x_gt3, ↓x_gt4, ↓x_gt5, ↓x_gt6, ↓x_gc, ↓x_gn, ↓x_par2, ↓x_p2, ↓x_par3, ↓x_p3, ↓x_C, ↓x_op, ↓x_test, ↓x_chain, ↓x_andT, ↓x_orT, ↓x_notT, ↓x_ifE, ↓x_andV, ↓x_orV, ↓x_notV, ↓x_nil, ↓x_cons, ↓x_star, ↓x_tup, ↓x_lst, ↓x_callB, ↓x_call, ↓x_callK, ↓x_meth, ↓x_make, ↓x_fld, ↓x_fldS, ↓x_bm0, ↓x_bm, ↓x_sl, ↓x_nop, ↓x_prt, ↓x_neg, ↓x_revL, ↓x_lc, ↓x_for, ↓x_diSeq, ↓x_diEnum, ↓x_rng1, ↓y_addi, ↓y_adds, ↓y_addt, ↓y_int, ↓y_intC, ↓y_is, ↓y_isn, ↓y_nnon, ↓y_nbl, ↓y_nint, ↓y_nstr, ↓y_ntup, ↓y_nref, ↓y_t0, ↓y_t1, ↓y_t2, ↓y_t3, ↓y_m2, ↓y_m3, ↓y_len0, ↓y_len1, ↓y_len2, ↓y_len3, ↓y_len, ↓y_lenS, ↓y_itt, ↓y_iss, ↓y_iii, ↓y_iib, ↓y_i1, ↓y_i1b, ↓y_abs, ↓y_strI, ↓y_slt, ↓y_sls, ↓y_tys, ↓y_gs0, ↓y_gs1, ↓y_gs2, ↓y_gs3, ↓y_gs4, ↓y_gs5, ↓y_gs6, ↓y_gs7, ↓bIn_2, ↓bNotIn_2, ↓bEq_int, ↓bNe_int, wipeD, List.map_cons, List.map_nil, List.set_cons_zero, List.set_cons_succ, Option.some.injEq, exists_and_left, exists_eq_left', exists_eq_left, decide_true, decide_false, Bool.false_eq_true, reduceIte, Bool.not_true, Bool.not_false, List.length_cons, List.length_nil, Nat.reduceAdd, Nat.zero_add, line16, Nat.reduceLeDiff, Int.reduceEq, Int.reduceLT, Int.reduceLE, Int.reduceNeg, Int.cast_ofNat_Int, or_true, true_or, or_self, or_false, false_or, true_and, and_true, and_self, List.cons_append, List.nil_append, List.append_nil, forall_const]
      have := q ((x ++ p :: y) ++ [.inn 5 []]) M2 (okPs_app.mpr ⟨hok, by simp [okPs, okP]⟩) (by simp) (by rw [cPs_app]; simp [cPs, cP] at hc ⊢; omega) hD2 hK3
      rw [pDs_app] at this
      simp only [pDs, pD] at this
      simp only [pDs_length, List.length_append, List.length_cons] at hl2 ⊢
      exact ⟨by omega, Fg.now this⟩
  · simp only [↓x_seq, ↓x_next, ↓x_ret, ↓x_retN, ↓x_drop, ↓x_if, ↓x_asg, ↓x_false, ↓x_brk, ↓x_cnt, ↓x_g0, ↓x_v0, ↓x_g1, ↓x_v1, ↓x_g2, ↓x_v2, ↓x_g3, ↓x_v3, ↓x_g4, ↓x_v4, ↓x_g5, ↓x_v5, ↓x_g6, ↓x_v6, ↓x_g7, ↓x_v7, ↓x_g8, ↓x_v8, ↓x_g9, ↓x_v9, ↓x_g10, ↓x_v10, ↓x_g11, ↓x_v11, ↓x_g12, ↓x_v12, ↓x_g13, ↓x_v13, ↓x_g14, ↓x_v14, ↓x_g15, ↓x_v15, ↓x_g16, ↓x_v16, ↓x_g17, ↓x_v17, ↓x_g18, ↓x_v18, ↓x_g19, ↓x_v19, ↓x_gt2, ↓x_gt3, ↓x_gt4, ↓x_gt5, ↓x_gt6, ↓x_gc, ↓x_gn, ↓x_par2, ↓x_p2, ↓x_par3, ↓x_p3, ↓x_C, ↓x_op, ↓x_test, ↓x_chain, ↓x_andT, ↓x_orT, ↓x_notT, ↓x_ifE, ↓x_andV, ↓x_orV, ↓x_notV, ↓x_nil, ↓x_cons, ↓x_star, ↓x_tup, ↓x_lst, ↓x_callB, ↓x_call, ↓x_callK, ↓x_meth, ↓x_make, ↓x_fld, ↓x_fldS, ↓x_bm0, ↓x_bm, ↓x_sl, ↓x_nop, ↓x_prt, ↓x_neg, ↓x_revL, ↓x_lc, ↓x_for, ↓x_diSeq, ↓x_diEnum, ↓x_rng1, ↓y_addi, ↓y_adds, ↓y_addt, ↓y_int, ↓y_intC, ↓y_is, ↓y_isn, ↓y_nnon, ↓y_nbl, ↓y_nint, ↓y_nstr, ↓y_ntup, ↓y_nref, ↓y_t0, ↓y_t1, ↓y_t2, ↓y_t3, ↓y_m2, ↓y_m3, ↓y_len0, ↓y_len1, ↓y_len2, ↓y_len3, ↓y_len, ↓y_lenS, ↓y_itt, ↓y_iss, ↓y_iii, ↓y_iib, ↓y_i1, ↓y_i1b, ↓y_abs, ↓y_strI, ↓y_slt, ↓y_sls, ↓y_tys, ↓y_gs0, ↓y_gs1, ↓y_gs2, ↓y_gs3, ↓y_gs4, ↓y_gs5, ↓y_gs6, ↓y_gs7, ↓bIn_2, ↓bNotIn_2, ↓bEq_int, ↓bNe_int, wipeD, List.map_cons, List.map_nil, List.set_cons_zero, List.set_cons_succ, Option.some.injEq, exists_and_left, exists_eq_left', exists_eq_left, decide_true, decide_false, Bool.false_eq_true, reduceIte, Bool.not_true, Bool.not_false, List.length_cons, List.length_nil, Nat.reduceAdd, Nat.zero_add, line16, Nat.reduceLeDiff, Int.reduceEq, Int.reduceLT, Int.reduceLE, Int.reduceNeg, Int.cast_ofNat_Int, or_true, true_or, or_self, or_false, false_or, true_and, and_true, and_self, List.cons_append, List.nil_append, List.append_nil, forall_const, ↓x_revT]
    have := q (x ++ p :: y).reverse M2 ((okPs_iff _).mpr fun z hz => (okPs_iff _).mp hok z (List.mem_reverse.mp hz)) (by simp) (by rw [cPs_sum, List.map_reverse, sum_rev, ← cPs_sum]; omega) hD2 hK3
    rw [pDs_map, List.map_reverse, ← pDs_map] at this
    exact Fg.now this
  · simp only [↓x_seq, ↓x_next, ↓x_ret, ↓x_retN, ↓x_drop, ↓x_if, ↓x_asg, ↓x_false, ↓x_brk, ↓x_cnt, ↓x_g0, ↓x_v0, ↓x_g1, ↓x_v1, ↓x_g2, ↓x_v2, ↓x_g3, ↓x_v3, ↓x_g4, ↓x_v4, ↓x_g5, ↓x_v5, ↓x_g6, ↓x_v6, ↓x_g7, ↓x_v7, ↓x_g8, ↓x_v8, ↓x_g9, ↓x_v9, ↓x_g10, ↓x_v10, ↓x_g11, ↓x_v11, ↓x_g12, ↓x_v12, ↓x_g13, ↓x_v13, ↓x_g14, ↓x_v14, ↓x_g15, ↓x_v15, ↓x_g16, ↓x_v16, ↓x_g17, ↓x_v17, ↓x_g18, ↓x_v18, ↓x_g19, ↓x_v19, ↓x_gt2, ↓x_gt3, ↓x_gt4, ↓x_gt5, ↓x_gt6, ↓x_gc, ↓x_gn, ↓x_par2, ↓x_p2, ↓x_par3, ↓x_p3, ↓x_C, ↓x_op, ↓x_test, ↓x_chain, ↓x_andT, ↓x_orT, ↓x_notT, ↓x_ifE, ↓x_andV, ↓x_orV, ↓x_notV, ↓x_nil, ↓x_cons, ↓x_star, ↓x_tup, ↓x_lst, ↓x_callB, ↓x_call, ↓x_callK, ↓x_meth, ↓x_make, ↓x_fld, ↓x_fldS, ↓x_bm0, ↓x_bm, ↓x_sl, ↓x_nop, ↓x_prt, ↓x_neg, ↓x_revL, ↓x_lc, ↓x_for, ↓x_diSeq, ↓x_diEnum, ↓x_rng1, ↓y_addi, ↓y_adds, ↓y_addt, ↓y_int, ↓y_intC, ↓y_is, ↓y_isn, ↓y_nnon, ↓y_nbl, ↓y_nint, ↓y_nstr, ↓y_ntup, ↓y_nref, ↓y_t0, ↓y_t1, ↓y_t2, ↓y_t3, ↓y_m2, ↓y_m3, ↓y_len0, ↓y_len1, ↓y_len2, ↓y_len3, ↓y_len, ↓y_lenS, ↓y_itt, ↓y_iss, ↓y_iii, ↓y_iib, ↓y_i1, ↓y_i1b, ↓y_abs, ↓y_strI, ↓y_slt, ↓y_sls, ↓y_tys, ↓y_gs0, ↓y_gs1, ↓y_gs2, ↓y_gs3, ↓y_gs4, ↓y_gs5, ↓y_gs6, ↓y_gs7, ↓bIn_2, ↓bNotIn_2, ↓bEq_int, ↓bNe_int, wipeD, List.map_cons, List.map_nil, List.set_cons_zero, List.set_cons_succ, Option.some.injEq, exists_and_left, exists_eq_left', exists_eq_left, decide_true, decide_false, Bool.false_eq_true, reduceIte, Bool.not_true, Bool.not_false, List.length_cons, List.length_nil, Nat.reduceAdd, Nat.zero_add, line16, Nat.reduceLeDiff, Int.reduceEq, Int.reduceLT, Int.reduceLE, Int.reduceNeg, Int.cast_ofNat_Int, or_true, true_or, or_self, or_false, false_or, true_and, and_true, and_self, List.cons_append, List.nil_append, List.append_nil, forall_const, hcut1, hcut2]
    refine ⟨by omega, by simp; omega, ?_⟩
    have := fin (.again [p]) (by simp [okP, okPs, hokp]) (by simp [cP, cPs]; omega)
    simpa [pD, pDs] using this
  · simp only [↓x_seq, ↓x_next, ↓x_ret, ↓x_retN, ↓x_drop, ↓x_if, ↓x_asg, ↓x_false, ↓x_brk, ↓x_cnt, ↓x_g0, ↓x_v0, ↓x_g1, ↓x_v1, ↓x_g2, ↓x_v2, ↓x_g3, ↓x_v3, ↓x_g4, ↓x_v4, ↓x_g5, ↓x_v5, ↓x_g6, ↓x_v6, ↓x_g7, ↓x_v7, ↓x_g8, ↓x_v8, ↓x_g9, ↓x_v9, ↓x_g10, ↓x_v10, ↓x_g11, ↓x_v11, ↓x_g12, ↓x_v12, ↓x_g13, ↓x_v13, ↓x_g14, ↓x_v14, ↓x_g15, ↓x_v15, ↓x_g16, ↓x_v16, ↓x_g17, ↓x_v17, ↓x_g18, ↓x_v18, ↓x_g19, ↓x_v19, ↓x_gt2, ↓x_gt3, ↓x_gt4, ↓x_gt5, ↓x_gt6, ↓x_gc, ↓x_gn, ↓x_par2, ↓x_p2, ↓x_par3, ↓x_p3, ↓x_C, ↓x_op, ↓x_test, ↓x_chain, ↓x_andT, ↓x_orT, ↓x_notT, ↓x_ifE, ↓x_andV, ↓x_orV, ↓x_notV, ↓x_nil, ↓x_cons, ↓x_star, ↓x_tup, ↓x_lst, ↓x_callB, ↓x_call, ↓x_callK, ↓x_meth, ↓x_make, ↓x_fld, ↓x_fldS, ↓x_bm0, ↓x_bm, ↓x_sl, ↓x_nop, ↓x_prt, ↓x_neg, ↓x_revL, ↓x_lc, ↓x_for, ↓x_diSeq, ↓x_diEnum, ↓x_rng1, ↓y_addi, ↓y_adds, ↓y_addt, ↓y_int, ↓y_intC, ↓y_is, ↓y_isn, ↓y_nnon, ↓y_nbl, ↓y_nint, ↓y_nstr, ↓y_ntup, ↓y_nref, ↓y_t0, ↓y_t1, ↓y_t2, ↓y_t3, ↓y_m2, ↓y_m3, ↓y_len0, ↓y_len1, ↓y_len2, ↓y_len3, ↓y_len, ↓y_lenS, ↓y_itt, ↓y_iss, ↓y_iii, ↓y_iib, ↓y_i1, ↓y_i1b, ↓y_abs, ↓y_strI, ↓y_slt, ↓y_sls, ↓y_tys, ↓y_gs0, ↓y_gs1, ↓y_gs2, ↓y_gs3, ↓y_gs4, ↓y_gs5, ↓y_gs6, ↓y_gs7, ↓bIn_2, ↓bNotIn_2, ↓bEq_int, ↓bNe_int, wipeD, List.map_cons, List.map_nil, List.set_cons_zero, List.set_cons_succ, Option.some.injEq, exists_and_left, exists_eq_left', exists_eq_left, decide_true, decide_false, Bool.false_eq_true, reduceIte, Bool.not_true, Bool.not_false, List.length_cons, List.length_nil, Nat.reduceAdd, Nat.zero_add, line16, Nat.reduceLeDiff, Int.reduceEq, Int.reduceLT, Int.reduceLE, Int.reduceNeg, Int.cast_ofNat_Int, or_true, true_or, or_self, or_false, false_or, true_and, and_true, and_self, List.cons_append, List.nil_append, List.append_nil, forall_const, hcut1, hcut2]
    refine ⟨by omega, by simp; omega, ?_⟩
    have := fin (.either [[p], []]) (by simp [okP, okPs, okPss, hokp]) (by simp [cP, cPs, cPss]; omega)
    simpa [pD, pDs, pDss] using this
  · cases p with
    | inn r own =>
      have h' : r < 6 ∧ okPs own = true := by simpa [okP] using hokp
      rw [show pD (.inn r own) = .tup [.str "in", .int (r : Int), .tup (pDs own)] by rw [pD]]
      simp only [↓bEq_str so_in so_in, ↓x_seq, ↓x_next, ↓x_ret, ↓x_retN, ↓x_drop, ↓x_if, ↓x_asg, ↓x_false, ↓x_brk, ↓x_cnt, ↓x_g0, ↓x_v0, ↓x_g1, ↓x_v1, ↓x_g2, ↓x_v2, ↓x_g3, ↓x_v3, ↓x_g4, ↓x_v4, ↓x_g5, ↓x_v5, ↓x_g6, ↓x_v6, ↓x_g7, ↓x_v7, ↓x_g8, ↓x_v8, ↓x_g9, ↓x_v9, ↓x_g10, ↓x_v10, ↓x_g11, ↓x_v11, ↓x_g12, ↓x_v12, ↓x_g13, ↓x_v13, ↓x_g14, ↓x_v14, ↓x_g15, ↓x_v15, ↓x_g16, ↓x_v16, ↓x_g17, ↓x_v17, ↓x_g18, ↓x_v18, ↓x_g19, ↓x_v19, ↓x_gt2, ↓x_gt3, ↓x_gt4, ↓x_gt5, ↓x_gt6, ↓x_gc, ↓x_gn, ↓x_par2, ↓x_p2, ↓x_par3, ↓x_p3, ↓x_C, ↓x_op, ↓x_test, ↓x_chain, ↓x_andT, ↓x_orT, ↓x_notT, ↓x_ifE, ↓x_andV, ↓x_orV, ↓x_notV, ↓x_nil, ↓x_cons, ↓x_star, ↓x_tup, ↓x_lst, ↓x_callB, ↓x_call, ↓x_callK, ↓x_meth, ↓x_make, ↓x_fld, ↓x_fldS, ↓x_bm0, ↓x_bm, ↓x_sl, ↓x_nop, ↓x_prt, ↓x_neg, ↓x_revL, ↓x_lc, ↓x_for, ↓x_diSeq, ↓x_diEnum, ↓x_rng1, ↓y_addi, ↓y_adds, ↓y_addt, ↓y_int, ↓y_intC, ↓y_is, ↓y_isn, ↓y_nnon, ↓y_nbl, ↓y_nint, ↓y_nstr, ↓y_ntup, ↓y_nref, ↓y_t0, ↓y_t1, ↓y_t2, ↓y_t3, ↓y_m2, ↓y_m3, ↓y_len0, ↓y_len1, ↓y_len2, ↓y_len3, ↓y_len, ↓y_lenS, ↓y_itt, ↓y_iss, ↓y_iii, ↓y_iib, ↓y_i1, ↓y_i1b, ↓y_abs, ↓y_strI, ↓y_slt, ↓y_sls, ↓y_tys, ↓y_gs0, ↓y_gs1, ↓y_gs2, ↓y_gs3, ↓y_gs4, ↓y_gs5, ↓y_gs6, ↓y_gs7, ↓bIn_2, ↓bNotIn_2, ↓bEq_int, ↓bNe_int, wipeD, List.map_cons, List.map_nil, List.set_cons_zero, List.set_cons_succ, Option.some.injEq, exists_and_left, exists_eq_left', exists_eq_left, decide_true, decide_false, Bool.false_eq_true, reduceIte, Bool.not_true, Bool.not_false, List.length_cons, List.length_nil, Nat.reduceAdd, Nat.zero_add, line16, Nat.reduceLeDiff, Int.reduceEq, Int.reduceLT, Int.reduceLE, Int.reduceNeg, Int.cast_ofNat_Int, or_true, true_or, or_self, or_false, false_or, true_and, and_true, and_self, List.cons_append, List.nil_append, List.append_nil, forall_const, hcut1, hcut2]
      refine ⟨by omega, by simp; omega, ?_⟩
      have := fin (.inn ((r + 1) % 6) own) (by simp [okP, h'.2]; omega) (by simp [cP])
      rw [pD, show ((((r + 1) % 6 : Nat) : Nat) : Int) = ((r : Int) + 1) % 6 by omega] at this
      simpa using this
    | again own =>
      rw [show pD (.again own) = .tup [.str "again", .tup (pDs own)] by rw [pD]]
      simp only [↓bEq_str so_again so_in, ne_ai, ↓x_seq, ↓x_next, ↓x_ret, ↓x_retN, ↓x_drop, ↓x_if, ↓x_asg, ↓x_false, ↓x_brk, ↓x_cnt, ↓x_g0, ↓x_v0, ↓x_g1, ↓x_v1, ↓x_g2, ↓x_v2, ↓x_g3, ↓x_v3, ↓x_g4, ↓x_v4, ↓x_g5, ↓x_v5, ↓x_g6, ↓x_v6, ↓x_g7, ↓x_v7, ↓x_g8, ↓x_v8, ↓x_g9, ↓x_v9, ↓x_g10, ↓x_v10, ↓x_g11, ↓x_v11, ↓x_g12, ↓x_v12, ↓x_g13, ↓x_v13, ↓x_g14, ↓x_v14, ↓x_g15, ↓x_v15, ↓x_g16, ↓x_v16, ↓x_g17, ↓x_v17, ↓x_g18, ↓x_v18, ↓x_g19, ↓x_v19, ↓x_gt2, ↓x_gt3, ↓x_gt4, ↓x_gt5, ↓x_gt6, ↓x_gc, ↓x_gn, ↓x_par2, ↓x_p2, ↓x_par3, ↓x_p3, ↓x_C, ↓x_op, ↓x_test, ↓x_chain, ↓x_andT, ↓x_orT, ↓x_notT, ↓x_ifE, ↓x_andV, ↓x_orV, ↓x_notV, ↓x_nil, ↓x_cons, ↓x_star, ↓x_tup, ↓x_lst, ↓x_callB, ↓x_call, ↓x_callK, ↓x_meth, ↓x_make, ↓x_fld, ↓x_fldS, ↓x_bm0, ↓x_bm, ↓x_sl, ↓x_nop, ↓x_prt, ↓x_neg, ↓x_revL, ↓x_lc, ↓x_for, ↓x_diSeq, ↓x_diEnum, ↓x_rng1, ↓y_addi, ↓y_adds, ↓y_addt, ↓y_int, ↓y_intC, ↓y_is, ↓y_isn, ↓y_nnon, ↓y_nbl, ↓y_nint, ↓y_nstr, ↓y_ntup, ↓y_nref, ↓y_t0, ↓y_t1, ↓y_t2, ↓y_t3, ↓y_m2, ↓y_m3, ↓y_len0, ↓y_len1, ↓y_len2, ↓y_len3, ↓y_len, ↓y_lenS, ↓y_itt, ↓y_iss, ↓y_iii, ↓y_iib, ↓y_i1, ↓y_i1b, ↓y_abs, ↓y_strI, ↓y_slt, ↓y_sls, ↓y_tys, ↓y_gs0, ↓y_gs1, ↓y_gs2, ↓y_gs3, ↓y_gs4, ↓y_gs5, ↓y_gs6, ↓y_gs7, ↓bIn_2, ↓bNotIn_2, ↓bEq_int, ↓bNe_int, wipeD, List.map_cons, List.map_nil, List.set_cons_zero, List.set_cons_succ, Option.some.injEq, exists_and_left, exists_eq_left', exists_eq_left, decide_true, decide_false, Bool.false_eq_true, reduceIte, Bool.not_true, Bool.not_false, List.length_cons, List.length_nil, Nat.reduceAdd, Nat.zero_add, line16, Nat.reduceLeDiff, Int.reduceEq, Int.reduceLT, Int.reduceLE, Int.reduceNeg, Int.cast_ofNat_Int, or_true, true_or, or_self, or_false, false_or, true_and, and_true, and_self, List.cons_append, List.nil_append, List.append_nil, forall_const, hcut1, hcut2]
      refine ⟨by omega, by simp; omega, ?_⟩
      have := fin (.inn 0 []) (by simp [okP, okPs]) (by simp [cP, cPs])
      simpa [pD, pDs] using this
    | either lots =>
      rw [show pD (.either lots) = .tup [.str "either", .tup (pDss lots)] by rw [pD]]
      simp only [↓bEq_str so_either so_in, ne_ei, ↓x_seq, ↓x_next, ↓x_ret, ↓x_retN, ↓x_drop, ↓x_if, ↓x_asg, ↓x_false, ↓x_brk, ↓x_cnt, ↓x_g0, ↓x_v0, ↓x_g1, ↓x_v1, ↓x_g2, ↓x_v2, ↓x_g3, ↓x_v3, ↓x_g4, ↓x_v4, ↓x_g5, ↓x_v5, ↓x_g6, ↓x_v6, ↓x_g7, ↓x_v7, ↓x_g8, ↓x_v8, ↓x_g9, ↓x_v9, ↓x_g10, ↓x_v10, ↓x_g11, ↓x_v11, ↓x_g12, ↓x_v12, ↓x_g13, ↓x_v13, ↓x_g14, ↓x_v14, ↓x_g15, ↓x_v15, ↓x_g16, ↓x_v16, ↓x_g17, ↓x_v17, ↓x_g18, ↓x_v18, ↓x_g19, ↓x_v19, ↓x_gt2, ↓x_gt3, ↓x_gt4, ↓x_gt5, ↓x_gt6, ↓x_gc, ↓x_gn, ↓x_par2, ↓x_p2, ↓x_par3, ↓x_p3, ↓x_C, ↓x_op, ↓x_test, ↓x_chain, ↓x_andT, ↓x_orT, ↓x_notT, ↓x_ifE, ↓x_andV, ↓x_orV, ↓x_notV, ↓x_nil, ↓x_cons, ↓x_star, ↓x_tup, ↓x_lst, ↓x_callB, ↓x_call, ↓x_callK, ↓x_meth, ↓x_make, ↓x_fld, ↓x_fldS, ↓x_bm0, ↓x_bm, ↓x_sl, ↓x_nop, ↓x_prt, ↓x_neg, ↓x_revL, ↓x_lc, ↓x_for, ↓x_diSeq, ↓x_diEnum, ↓x_rng1, ↓y_addi, ↓y_adds, ↓y_addt, ↓y_int, ↓y_intC, ↓y_is, ↓y_isn, ↓y_nnon, ↓y_nbl, ↓y_nint, ↓y_nstr, ↓y_ntup, ↓y_nref, ↓y_t0, ↓y_t1, ↓y_t2, ↓y_t3, ↓y_m2, ↓y_m3, ↓y_len0, ↓y_len1, ↓y_len2, ↓y_len3, ↓y_len, ↓y_lenS, ↓y_itt, ↓y_iss, ↓y_iii, ↓y_iib, ↓y_i1, ↓y_i1b, ↓y_abs, ↓y_strI, ↓y_slt, ↓y_sls, ↓y_tys, ↓y_gs0, ↓y_gs1, ↓y_gs2, ↓y_gs3, ↓y_gs4, ↓y_gs5, ↓y_gs6, ↓y_gs7, ↓bIn_2, ↓bNotIn_2, ↓bEq_int, ↓bNe_int, wipeD, List.map_cons, List.map_nil, List.set_cons_zero, List.set_cons_succ, Option.some.injEq, exists_and_left, exists_eq_left', exists_eq_left, decide_true, decide_false, Bool.false_eq_true, reduceIte, Bool.not_true, Bool.not_false, List.length_cons, List.length_nil, Nat.reduceAdd, Nat.zero_add, line16, Nat.reduceLeDiff, Int.reduceEq, Int.reduceLT, Int.reduceLE, Int.reduceNeg, Int.cast_ofNat_Int, or_true, true_or, or_self, or_false, false_or, true_and, and_true, and_self, List.cons_append, List.nil_append, List.append_nil, forall_const, hcut1, hcut2]
      refine ⟨by omega, by simp; omega, ?_⟩
      have := fin (.inn 0 []) (by simp [okP, okPs]) (by simp [cP, cPs])
      simpa [pD, pDs] using this
end
end K76
namespace K76
open PySem PySem.Spec PyProof.Rows L2 DL
theorem repr_psE {ps : List Part} {M : Mp} {Q : D → Mp → Prop} (hc : cPs ps ≤ 18) (h : okPs ps = true) : bRepr [.tup (pDs ps)] M Q = Q (.str (PyData.shown (.tuple (pPs ps)))) M := by
  refine propext ⟨fun ⟨p, e, _, _, _, _, q⟩ => ?_, fun q => repr_ps hc h q⟩
  have e2 : toP (.tup (pDs ps)) = some (.tuple (pPs ps)) := by show (toPs _).map _ = _; rw [toP_ps]; rfl
  rw [e2] at e; cases e; exact q
theorem repr_SE {ps : List Part} {M : Mp} {Q : D → Mp → Prop} (hc : cPs ps ≤ 18) (h : okPs ps = true) : bRepr [.str (S (tPs ps))] M Q = Q (.str (reprText (S (tPs ps)))) M := by
  refine propext ⟨fun ⟨p, e, _, _, _, _, q⟩ => ?_, fun q => ⟨.str (S (tPs ps)), rfl, rfl, rfl, ?_, ?_, q⟩⟩
  · cases e; exact q
  · simp [PyData.depth]
  · have h1 := tPs_len ps h
    have h2 := StrLaws.reprText_len (S (tPs ps)) (fun c hc' => by rw [S_list] at hc'; have := asc_Ps ps h c hc'; omega)
    rw [S_len] at h2
    show (reprText _).length ≤ sizeLine
    rw [line16]; omega
def txt2 (l : List Part) : D := .tup [.tup (pDs l), .str (S (tPs l))]
def lwI (s : D) (a g : Addr) (M : Mp) : Nat → Sg → Mp → Prop := fun _ σ M' => ∃ (u2 u3 u4 u5 u6 u7 u8 u9 u10 : Option D), σ = [some s, some (.ref a), u2, u3, u4, u5, u6, u7, u8, u9, u10] ∧ Dk a g M' ∧ Kp a g M M'
def lwJ (s : D) (a g : Addr) (s2 s3 s4 : D) (c : Addr) (ls : List (List Part)) (M : Mp) : Nat → Sg → Mp → Prop := fun j σ M' => ∃ (u6 u7 u8 u9 u10 : Option D), σ = [some s, some (.ref a), some s2, some s3, some s4, some (.ref c), u6, u7, u8, u9, u10] ∧ Dk a g M' ∧ Kp a g M M' ∧ M' c = some (.lst (((ls.take j).filter good).map txt2))
theorem same_texts {ps qs : List Part} (h1 : ps ≠ []) (h2 : qs ≠ []) : PyData.eqv (.tuple (pPs ps)) (.tuple (pPs qs)) = decide (S (tPs ps) = S (tPs qs)) := by
  by_cases h : ps = qs
  · subst h
    rw [PyData.eqv, eqv_refl_ps]; simp
  · have e1 : PyData.eqv (.tuple (pPs ps)) (.tuple (pPs qs)) = false := by
      rw [PyData.eqv]
      cases e : PyData.eqvAll (pPs ps) (pPs qs) with
      | false => rfl
      | true => exact absurd (pPs_inj _ _ e) h
    have e2 : ¬ S (tPs ps) = S (tPs qs) := fun e => h (inj_Ps ps qs [] [] (fun c z => by simp at z) (fun c z => by simp at z) h1 h2 (by simpa using S_inj e)).1
    rw [e1, decide_eq_false e2]
section
variable {P : Program} {w : World} {K : PySem.W.Frag} {mg : Str → Option Value} {base : Heap}
def sp_law : DSp := fun ds M Q E => ∃ (ns : List Int), ds = [.fro (ns.map D.int)] ∧ Q (.bl true) M
theorem ok_law (T : Tx K mg) : DFn P w K mg base CX0 60 T.f_law T.d_law ["script"] sp_law := by
  refine dfn_of (N := N_law) T.F_law sc_law (by decide) (fun ds M Q E h => ?_) (fun cdv A outer s H hr hgd => (dss_cons (ds_set (i := 1) sc_law.nd rfl (Or.inl rfl) (de_call (ok__law_deck T) (hr.mono (by omega)) hgd rfl T.g__law_deck T.F__law_deck.kp T.b__law_deck dpass0 (da_cons (de_var 0) da_nil))) (dss_cons (ds_for PassesOwn.never rfl (di_rng1 rfl T.n_range (da_cons de_int da_nil)) (dg_name (i := 2) sc_law.nd rfl (Or.inl rfl)) (dss_cons (ds_set (i := 3) sc_law.nd rfl (Or.inl rfl) (de_call (ok__law_program T) (hr.mono (by omega)) hgd rfl T.g__law_program T.F__law_program.kp T.b__law_program dpass0 (da_cons (de_var 1) (da_cons (de_bin op_add4 tr_add de_int (de_call (ok__law_draw T) (hr.mono (by omega)) hgd rfl T.g__law_draw T.F__law_draw.kp T.b__law_draw dpass0 (da_cons (de_var 1) (da_cons de_int da_nil)))) (da_cons de_int da_nil))))) (dss_cons (ds_par (i := 4) (j := 5) rfl sc_law.nd rfl rfl (by decide) rfl rfl (da_cons (de_call (ok__law_near T) (hr.mono (by omega)) hgd rfl T.g__law_near T.F__law_near.kp T.b__law_near dpass0 (da_cons (de_var 1) (da_cons (de_var 3) da_nil))) (da_cons (de_lst da_nil) da_nil)) (by rfl)) (dss_cons (ds_for PassesOwn.never rfl (di_seq (de_tup (da_cons (de_var 3) (da_cons (de_var 4) da_nil)))) (dg_name (i := 6) sc_law.nd rfl (Or.inl rfl)) (dss_one (ds_if (dt_cmp op_isN tr_is (de_call (ok__law_program_error T) (hr.mono (by omega)) hgd rfl T.g__law_program_error T.F__law_program_error.kp T.b__law_program_error dpass0 (da_cons de_int (da_cons (de_var 6) da_nil))) de_non (nomark _)) (dss_cons (ds_par (i := 7) (j := 8) rfl sc_law.nd rfl rfl (by decide) rfl rfl (da_cons (de_callB (call_reprD hgd hr.units) tr_repr rfl T.n_repr bt_repr (da_cons (de_var 6) da_nil)) (da_cons (de_call (ok__law_text T) (hr.mono (by omega)) hgd rfl T.g__law_text T.F__law_text.kp T.b__law_text dpass0 (da_cons (de_var 6) da_nil)) da_nil)) (by rfl)) (dss_cons (ds_set (i := 9) sc_law.nd rfl (Or.inl rfl) (de_if (dt_cmp (op_eqD hr.units) tr_eq (de_var 2) de_int (nomark _)) (de_callK1 (ok_program_text T) (hr.mono (by omega)) hgd rfl T.g_program_text T.F_program_text.kp dpass0 T.k_program_text (.cons (de_var 6) .nil)) (de_call (ok_program_text T) (hr.mono (by omega)) hgd rfl T.g_program_text T.F_program_text.kp T.b_program_text dpass0 (da_cons (de_var 6) da_nil)))) (dss_cons (ds_if (DW.dt (dw_or (dt_cmp (op_neS hr.units) tr_neS (de_callB (call_reprD hgd hr.units) tr_repr rfl T.n_repr bt_repr (da_cons (de_var 9) da_nil)) (de_callB (call_reprD hgd hr.units) tr_repr rfl T.n_repr bt_repr (da_cons (de_var 8) da_nil)) (nomark _)) (dw_or (dt_cmp (op_neS hr.units) tr_neS (de_callB (call_reprD hgd hr.units) tr_repr rfl T.n_repr bt_repr (da_cons (de_call (ok_program_text T) (hr.mono (by omega)) hgd rfl T.g_program_text T.F_program_text.kp T.b_program_text dpass0 (da_cons (de_var 6) da_nil)) da_nil)) (de_callB (call_reprD hgd hr.units) tr_repr rfl T.n_repr bt_repr (da_cons (de_var 8) da_nil)) (nomark _)) (dw_or1 (dt_cmp (op_neS hr.units) tr_neS (de_callB (call_reprD hgd hr.units) tr_repr rfl T.n_repr bt_repr (da_cons (de_var 6) da_nil)) (de_var 7) (nomark _)))))) (dss_one (ds_ret de_bl)) dss_nil) (dss_cons (ds_set (i := 10) sc_law.nd rfl (Or.inl rfl) (de_if (dt_cmp (op_eqD hr.units) tr_eq (de_var 2) de_int (nomark _)) (de_callK1 (ok_read_program T) (hr.mono (by omega)) hgd rfl T.g_read_program T.F_read_program.kp dpass0 T.k_read_program (.cons (de_var 8) .nil)) (de_call (ok_read_program T) (hr.mono (by omega)) hgd rfl T.g_read_program T.F_read_program.kp T.b_read_program dpass0 (da_cons (de_var 8) da_nil)))) (dss_cons (ds_if (DW.dt (dw_or (dt_cmp (op_neS hr.units) tr_neS (de_callB (call_reprD hgd hr.units) tr_repr rfl T.n_repr bt_repr (da_cons (de_var 10) da_nil)) (de_var 7) (nomark _)) (dw_or1 (dt_cmp (op_neS hr.units) tr_neS (de_callB (call_reprD hgd hr.units) tr_repr rfl T.n_repr bt_repr (da_cons (de_call (ok_read_program T) (hr.mono (by omega)) hgd rfl T.g_read_program T.F_read_program.kp T.b_read_program dpass0 (da_cons (de_var 9) da_nil)) da_nil)) (de_var 7) (nomark _))))) (dss_one (ds_ret de_bl)) dss_nil) (dss_one (ds_expr (de_bm PySem.F.plainAttrs_list PySem.F.slot_list_append PySem.F.type_list_append mt_append tr_append (de_var 5) (da_cons (de_tup (da_cons (de_var 6) (da_cons (de_var 9) da_nil))) da_nil))))))))) dss_nil))) (dss_one (ds_if (DW.dt (dw_and (dt_cmp (op_eqD hr.units) tr_eq (de_callB call_len tr_len rfl T.n_len bt_len (da_cons (de_var 5) da_nil)) de_int (nomark _)) (dw_and1 (dt_cmp (op_neS hr.units) tr_neS (de_cmp (op_eqD hr.units) tr_eq (de_ix (hu_of hr) (de_ix (hu_of hr) (de_var 5) de_int) de_int) (de_ix (hu_of hr) (de_ix (hu_of hr) (de_var 5) de_int) de_int) (nomark _)) (de_cmp (op_eqD hr.units) tr_eq (de_ix (hu_of hr) (de_ix (hu_of hr) (de_var 5) de_int) de_int) (de_ix (hu_of hr) (de_ix (hu_of hr) (de_var 5) de_int) de_int) (nomark _)) (nomark _))))) (dss_one (ds_ret de_bl)) dss_nil)))))) (dss_one (ds_ret de_bl))))) ?_
  · obtain ⟨_, rfl, _⟩ := h; rfl
  rintro ds M Q E ⟨ns, rfl, q⟩
  rw [st_law]
  refine seq_cut (fun σ M' => ∃ a g, σ = [some (.fro (ns.map D.int)), some (.ref a), none, none, none, none, none, none, none, none, none] ∧ Dk a g M' ∧ Sub M M' ∧ M a = none ∧ M g = none) (fun N hN => ?_) ?_
  · simp only [↓x_seq, ↓x_next, ↓x_ret, ↓x_retN, ↓x_drop, ↓x_if, ↓x_asg, ↓x_false, ↓x_brk, ↓x_cnt, ↓x_g0, ↓x_v0, ↓x_g1, ↓x_v1, ↓x_g2, ↓x_v2, ↓x_g3, ↓x_v3, ↓x_g4, ↓x_v4, ↓x_g5, ↓x_v5, ↓x_g6, ↓x_v6, ↓x_g7, ↓x_v7, ↓x_g8, ↓x_v8, ↓x_g9, ↓x_v9, ↓x_g10, ↓x_v10, ↓x_g11, ↓x_v11, ↓x_g12, ↓x_v12, ↓x_g13, ↓x_v13, ↓x_g14, ↓x_v14, ↓x_g15, ↓x_v15, ↓x_g16, ↓x_v16, ↓x_g17, ↓x_v17, ↓x_g18, ↓x_v18, ↓x_g19, ↓x_v19, ↓x_gt2, ↓x_gt3, ↓x_gt4, ↓x_gt5, ↓x_gt6, ↓x_gc, ↓x_gn, ↓x_par2, ↓x_p2, ↓x_par3, ↓x_p3, ↓x_C, ↓x_op, ↓x_test, ↓x_chain, ↓x_andT, ↓x_orT, ↓x_notT, ↓x_ifE, ↓x_andV, ↓x_orV, ↓x_notV, ↓x_nil, ↓x_cons, ↓x_star, ↓x_tup, ↓x_lst, ↓x_callB, ↓x_call, ↓x_callK, ↓x_meth, ↓x_make, ↓x_fld, ↓x_fldS, ↓x_bm0, ↓x_bm, ↓x_sl, ↓x_nop, ↓x_prt, ↓x_neg, ↓x_revL, ↓x_lc, ↓x_for, ↓x_diSeq, ↓x_diEnum, ↓x_rng1, ↓y_addi, ↓y_adds, ↓y_addt, ↓y_int, ↓y_intC, ↓y_is, ↓y_isn, ↓y_nnon, ↓y_nbl, ↓y_nint, ↓y_nstr, ↓y_ntup, ↓y_nref, ↓y_t0, ↓y_t1, ↓y_t2, ↓y_t3, ↓y_m2, ↓y_m3, ↓y_len0, ↓y_len1, ↓y_len2, ↓y_len3, ↓y_len, ↓y_lenS, ↓y_itt, ↓y_iss, ↓y_iii, ↓y_iib, ↓y_i1, ↓y_i1b, ↓y_abs, ↓y_strI, ↓y_slt, ↓y_sls, ↓y_tys, ↓y_gs0, ↓y_gs1, ↓y_gs2, ↓y_gs3, ↓y_gs4, ↓y_gs5, ↓y_gs6, ↓y_gs7, ↓bIn_2, ↓bNotIn_2, ↓bEq_int, ↓bNe_int, wipeD, List.map_cons, List.map_nil, List.set_cons_zero, List.set_cons_succ, Option.some.injEq, exists_and_left, exists_eq_left', exists_eq_left, decide_true, decide_false, Bool.false_eq_true, reduceIte, Bool.not_true, Bool.not_false, List.length_cons, List.length_nil, Nat.reduceAdd, Nat.zero_add, line16, Nat.reduceLeDiff, Int.reduceEq, Int.reduceLT, Int.reduceLE, Int.reduceNeg, Int.cast_ofNat_Int, or_true, true_or, or_self, or_false, false_or, true_and, and_true, and_self, List.cons_append, List.nil_append, List.append_nil, forall_const]
    exact ⟨ns, rfl, fun a g M' hD hS ha hg => hN _ _ ⟨a, g, rfl, hD, hS, ha, hg⟩⟩
  rintro σ M1 ⟨a, g, rfl, hD1, hS1, ha, hg⟩
  have hK1 : Kp a g M M1 := Kp.sub hS1
  simp only [↓x_seq, ↓x_next, ↓x_ret, ↓x_retN, ↓x_drop, ↓x_if, ↓x_asg, ↓x_false, ↓x_brk, ↓x_cnt, ↓x_g0, ↓x_v0, ↓x_g1, ↓x_v1, ↓x_g2, ↓x_v2, ↓x_g3, ↓x_v3, ↓x_g4, ↓x_v4, ↓x_g5, ↓x_v5, ↓x_g6, ↓x_v6, ↓x_g7, ↓x_v7, ↓x_g8, ↓x_v8, ↓x_g9, ↓x_v9, ↓x_g10, ↓x_v10, ↓x_g11, ↓x_v11, ↓x_g12, ↓x_v12, ↓x_g13, ↓x_v13, ↓x_g14, ↓x_v14, ↓x_g15, ↓x_v15, ↓x_g16, ↓x_v16, ↓x_g17, ↓x_v17, ↓x_g18, ↓x_v18, ↓x_g19, ↓x_v19, ↓x_gt2, ↓x_gt3, ↓x_gt4, ↓x_gt5, ↓x_gt6, ↓x_gc, ↓x_gn, ↓x_par2, ↓x_p2, ↓x_par3, ↓x_p3, ↓x_C, ↓x_op, ↓x_test, ↓x_chain, ↓x_andT, ↓x_orT, ↓x_notT, ↓x_ifE, ↓x_andV, ↓x_orV, ↓x_notV, ↓x_nil, ↓x_cons, ↓x_star, ↓x_tup, ↓x_lst, ↓x_callB, ↓x_call, ↓x_callK, ↓x_meth, ↓x_make, ↓x_fld, ↓x_fldS, ↓x_bm0, ↓x_bm, ↓x_sl, ↓x_nop, ↓x_prt, ↓x_neg, ↓x_revL, ↓x_lc, ↓x_for, ↓x_diSeq, ↓x_diEnum, ↓x_rng1, ↓y_addi, ↓y_adds, ↓y_addt, ↓y_int, ↓y_intC, ↓y_is, ↓y_isn, ↓y_nnon, ↓y_nbl, ↓y_nint, ↓y_nstr, ↓y_ntup, ↓y_nref, ↓y_t0, ↓y_t1, ↓y_t2, ↓y_t3, ↓y_m2, ↓y_m3, ↓y_len0, ↓y_len1, ↓y_len2, ↓y_len3, ↓y_len, ↓y_lenS, ↓y_itt, ↓y_iss, ↓y_iii, ↓y_iib, ↓y_i1, ↓y_i1b, ↓y_abs, ↓y_strI, ↓y_slt, ↓y_sls, ↓y_tys, ↓y_gs0, ↓y_gs1, ↓y_gs2, ↓y_gs3, ↓y_gs4, ↓y_gs5, ↓y_gs6, ↓y_gs7, ↓bIn_2, ↓bNotIn_2, ↓bEq_int, ↓bNe_int, wipeD, List.map_cons, List.map_nil, List.set_cons_zero, List.set_cons_succ, Option.some.injEq, exists_and_left, exists_eq_left', exists_eq_left, decide_true, decide_false, Bool.false_eq_true, reduceIte, Bool.not_true, Bool.not_false, List.length_cons, List.length_nil, Nat.reduceAdd, Nat.zero_add, line16, Nat.reduceLeDiff, Int.reduceEq, Int.reduceLT, Int.reduceLE, Int.reduceNeg, Int.cast_ofNat_Int, or_true, true_or, or_self, or_false, false_or, true_and, and_true, and_self, List.cons_append, List.nil_append, List.append_nil, forall_const]
  refine ⟨by decide, by decide, ?_⟩
  refine forG_A (List.range 6) (fun i => .int (0 + ((i : Nat) : Int))) rfl (lwI (.fro (ns.map D.int)) a g M) ⟨none, none, none, none, none, none, none, none, none, rfl, hD1, hK1⟩ (fun _ _ _ _ => trivial) ?_ ?_
  rotate_left
  · rintro σ M2 ⟨u2, u3, u4, u5, u6, u7, u8, u9, u10, rfl, hD2, hK2⟩
    simp only [↓x_seq, ↓x_next, ↓x_ret, ↓x_retN, ↓x_drop, ↓x_if, ↓x_asg, ↓x_false, ↓x_brk, ↓x_cnt, ↓x_g0, ↓x_v0, ↓x_g1, ↓x_v1, ↓x_g2, ↓x_v2, ↓x_g3, ↓x_v3, ↓x_g4, ↓x_v4, ↓x_g5, ↓x_v5, ↓x_g6, ↓x_v6, ↓x_g7, ↓x_v7, ↓x_g8, ↓x_v8, ↓x_g9, ↓x_v9, ↓x_g10, ↓x_v10, ↓x_g11, ↓x_v11, ↓x_g12, ↓x_v12, ↓x_g13, ↓x_v13, ↓x_g14, ↓x_v14, ↓x_g15, ↓x_v15, ↓x_g16, ↓x_v16, ↓x_g17, ↓x_v17, ↓x_g18, ↓x_v18, ↓x_g19, ↓x_v19, ↓x_gt2, ↓x_gt3, ↓x_gt4, ↓x_gt5, ↓x_gt6, ↓x_gc, ↓x_gn, ↓x_par2, ↓x_p2, ↓x_par3, ↓x_p3, ↓x_C, ↓x_op, ↓x_test, ↓x_chain, ↓x_andT, ↓x_orT, ↓x_notT, ↓x_ifE, ↓x_andV, ↓x_orV, ↓x_notV, ↓x_nil, ↓x_cons, ↓x_star, ↓x_tup, ↓x_lst, ↓x_callB, ↓x_call, ↓x_callK, ↓x_meth, ↓x_make, ↓x_fld, ↓x_fldS, ↓x_bm0, ↓x_bm, ↓x_sl, ↓x_nop, ↓x_prt, ↓x_neg, ↓x_revL, ↓x_lc, ↓x_for, ↓x_diSeq, ↓x_diEnum, ↓x_rng1, ↓y_addi, ↓y_adds, ↓y_addt, ↓y_int, ↓y_intC, ↓y_is, ↓y_isn, ↓y_nnon, ↓y_nbl, ↓y_nint, ↓y_nstr, ↓y_ntup, ↓y_nref, ↓y_t0, ↓y_t1, ↓y_t2, ↓y_t3, ↓y_m2, ↓y_m3, ↓y_len0, ↓y_len1, ↓y_len2, ↓y_len3, ↓y_len, ↓y_lenS, ↓y_itt, ↓y_iss, ↓y_iii, ↓y_iib, ↓y_i1, ↓y_i1b, ↓y_abs, ↓y_strI, ↓y_slt, ↓y_sls, ↓y_tys, ↓y_gs0, ↓y_gs1, ↓y_gs2, ↓y_gs3, ↓y_gs4, ↓y_gs5, ↓y_gs6, ↓y_gs7, ↓bIn_2, ↓bNotIn_2, ↓bEq_int, ↓bNe_int, wipeD, List.map_cons, List.map_nil, List.set_cons_zero, List.set_cons_succ, Option.some.injEq, exists_and_left, exists_eq_left', exists_eq_left, decide_true, decide_false, Bool.false_eq_true, reduceIte, Bool.not_true, Bool.not_false, List.length_cons, List.length_nil, Nat.reduceAdd, Nat.zero_add, line16, Nat.reduceLeDiff, Int.reduceEq, Int.reduceLT, Int.reduceLE, Int.reduceNeg, Int.cast_ofNat_Int, or_true, true_or, or_self, or_false, false_or, true_and, and_true, and_self, List.cons_append, List.nil_append, List.append_nil, forall_const]
    exact Fg.mk (fun b o h => hK2 b o (fun z => by rw [z, ha] at h; cases h) (fun z => by rw [z, hg] at h; cases h) h) q
  rintro i t σ M2 ht ⟨u2, u3, u4, u5, u6, u7, u8, u9, u10, rfl, hD2, hK2⟩
  simp only [↓x_g2]
  -- the program
  refine seq_cut (fun σ M' => ∃ ps, σ = [some (.fro (ns.map D.int)), some (.ref a), some (.int (0 + ((t : Nat) : Int))), some (.tup (pDs ps)), u4, u5, u6, u7, u8, u9, u10] ∧ okPs ps = true ∧ ps ≠ [] ∧ cPs ps ≤ 12 ∧ Dk a g M' ∧ Kp a g M M') (fun N hN => ?_) ?_
  · simp only [↓x_seq, ↓x_next, ↓x_ret, ↓x_retN, ↓x_drop, ↓x_if, ↓x_asg, ↓x_false, ↓x_brk, ↓x_cnt, ↓x_g0, ↓x_v0, ↓x_g1, ↓x_v1, ↓x_g2, ↓x_v2, ↓x_g3, ↓x_v3, ↓x_g4, ↓x_v4, ↓x_g5, ↓x_v5, ↓x_g6, ↓x_v6, ↓x_g7, ↓x_v7, ↓x_g8, ↓x_v8, ↓x_g9, ↓x_v9, ↓x_g10, ↓x_v10, ↓x_g11, ↓x_v11, ↓x_g12, ↓x_v12, ↓x_g13, ↓x_v13, ↓x_g14, ↓x_v14, ↓x_g15, ↓x_v15, ↓x_g16, ↓x_v16, ↓x_g17, ↓x_v17, ↓x_g18, ↓x_v18, ↓x_g19, ↓x_v19, ↓x_gt2, ↓x_gt3, ↓x_gt4, ↓x_gt5, ↓x_gt6, ↓x_gc, ↓x_gn, ↓x_par2, ↓x_p2, ↓x_par3, ↓x_p3, ↓x_C, ↓x_op, ↓x_test, ↓x_chain, ↓x_andT, ↓x_orT, ↓x_notT, ↓x_ifE, ↓x_andV, ↓x_orV, ↓x_notV, ↓x_nil, ↓x_cons, ↓x_star, ↓x_tup, ↓x_lst, ↓x_callB, ↓x_call, ↓x_callK, ↓x_meth, ↓x_make, ↓x_fld, ↓x_fldS, ↓x_bm0, ↓x_bm, ↓x_sl, ↓x_nop, ↓x_prt, ↓x_neg, ↓x_revL, ↓x_lc, ↓x_for, ↓x_diSeq, ↓x_diEnum, ↓x_rng1, ↓y_addi, ↓y_adds, ↓y_addt, ↓y_int, ↓y_intC, ↓y_is, ↓y_isn, ↓y_nnon, ↓y_nbl, ↓y_nint, ↓y_nstr, ↓y_ntup, ↓y_nref, ↓y_t0, ↓y_t1, ↓y_t2, ↓y_t3, ↓y_m2, ↓y_m3, ↓y_len0, ↓y_len1, ↓y_len2, ↓y_len3, ↓y_len, ↓y_lenS, ↓y_itt, ↓y_iss, ↓y_iii, ↓y_iib, ↓y_i1, ↓y_i1b, ↓y_abs, ↓y_strI, ↓y_slt, ↓y_sls, ↓y_tys, ↓y_gs0, ↓y_gs1, ↓y_gs2, ↓y_gs3, ↓y_gs4, ↓y_gs5, ↓y_gs6, ↓y_gs7, ↓bIn_2, ↓bNotIn_2, ↓bEq_int, ↓bNe_int, wipeD, List.map_cons, List.map_nil, List.set_cons_zero, List.set_cons_succ, Option.some.injEq, exists_and_left, exists_eq_left', exists_eq_left, decide_true, decide_false, Bool.false_eq_true, reduceIte, Bool.not_true, Bool.not_false, List.length_cons, List.length_nil, Nat.reduceAdd, Nat.zero_add, line16, Nat.reduceLeDiff, Int.reduceEq, Int.reduceLT, Int.reduceLE, Int.reduceNeg, Int.cast_ofNat_Int, or_true, true_or, or_self, or_false, false_or, true_and, and_true, and_self, List.cons_append, List.nil_append, List.append_nil, forall_const]
    refine ⟨a, g, 6, rfl, by omega, by omega, hD2, fun r M3 hr hD3 hK3 => ?_⟩
    simp only [↓x_seq, ↓x_next, ↓x_ret, ↓x_retN, ↓x_drop, ↓x_if, ↓x_asg, ↓x_false, ↓x_brk, ↓x_cnt, ↓x_g0, ↓x_v0, ↓x_g1, ↓x_v1, ↓x_g2, ↓x_v2, ↓x_g3, ↓x_v3, ↓x_g4, ↓x_v4, ↓x_g5, ↓x_v5, ↓x_g6, ↓x_v6, ↓x_g7, ↓x_v7, ↓x_g8, ↓x_v8, ↓x_g9, ↓x_v9, ↓x_g10, ↓x_v10, ↓x_g11, ↓x_v11, ↓x_g12, ↓x_v12, ↓x_g13, ↓x_v13, ↓x_g14, ↓x_v14, ↓x_g15, ↓x_v15, ↓x_g16, ↓x_v16, ↓x_g17, ↓x_v17, ↓x_g18, ↓x_v18, ↓x_g19, ↓x_v19, ↓x_gt2, ↓x_gt3, ↓x_gt4, ↓x_gt5, ↓x_gt6, ↓x_gc, ↓x_gn, ↓x_par2, ↓x_p2, ↓x_par3, ↓x_p3, ↓x_C, ↓x_op, ↓x_test, ↓x_chain, ↓x_andT, ↓x_orT, ↓x_notT, ↓x_ifE, ↓x_andV, ↓x_orV, ↓x_notV, ↓x_nil, ↓x_cons, ↓x_star, ↓x_tup, ↓x_lst, ↓x_callB, ↓x_call, ↓x_callK, ↓x_meth, ↓x_make, ↓x_fld, ↓x_fldS, ↓x_bm0, ↓x_bm, ↓x_sl, ↓x_nop, ↓x_prt, ↓x_neg, ↓x_revL, ↓x_lc, ↓x_for, ↓x_diSeq, ↓x_diEnum, ↓x_rng1, ↓y_addi, ↓y_adds, ↓y_addt, ↓y_int, ↓y_intC, ↓y_is, ↓y_isn, ↓y_nnon, ↓y_nbl, ↓y_nint, ↓y_nstr, ↓y_ntup, ↓y_nref, ↓y_t0, ↓y_t1, ↓y_t2, ↓y_t3, ↓y_m2, ↓y_m3, ↓y_len0, ↓y_len1, ↓y_len2, ↓y_len3, ↓y_len, ↓y_lenS, ↓y_itt, ↓y_iss, ↓y_iii, ↓y_iib, ↓y_i1, ↓y_i1b, ↓y_abs, ↓y_strI, ↓y_slt, ↓y_sls, ↓y_tys, ↓y_gs0, ↓y_gs1, ↓y_gs2, ↓y_gs3, ↓y_gs4, ↓y_gs5, ↓y_gs6, ↓y_gs7, ↓bIn_2, ↓bNotIn_2, ↓bEq_int, ↓bNe_int, wipeD, List.map_cons, List.map_nil, List.set_cons_zero, List.set_cons_succ, Option.some.injEq, exists_and_left, exists_eq_left', exists_eq_left, decide_true, decide_false, Bool.false_eq_true, reduceIte, Bool.not_true, Bool.not_false, List.length_cons, List.length_nil, Nat.reduceAdd, Nat.zero_add, line16, Nat.reduceLeDiff, Int.reduceEq, Int.reduceLT, Int.reduceLE, Int.reduceNeg, Int.cast_ofNat_Int, or_true, true_or, or_self, or_false, false_or, true_and, and_true, and_self, List.cons_append, List.nil_append, List.append_nil, forall_const]
    refine ⟨a, g, 1 + r, rfl, by omega, by omega, hD3, fun ps M4 hok hne hc hD4 hK4 => ?_⟩
    exact hN _ _ ⟨ps, rfl, hok, hne, hc, hD4, hK2.trans (hK3.trans hK4)⟩
  clear hD2 hK2
  rintro σ M2 ⟨ps, rfl, hok, hne, hc, hD2, hK2⟩
  -- another
  refine seq_cut (fun σ M' => ∃ qs c, σ = [some (.fro (ns.map D.int)), some (.ref a), some (.int (0 + ((t : Nat) : Int))), some (.tup (pDs ps)), some (.tup (pDs qs)), some (.ref c), u6, u7, u8, u9, u10] ∧ okPs qs = true ∧ qs ≠ [] ∧ cPs qs ≤ 13 ∧ Dk a g M' ∧ Kp a g M M' ∧ M' c = some (.lst []) ∧ c ≠ a ∧ c ≠ g ∧ M c = none) (fun N hN => ?_) ?_
  · simp only [↓x_seq, ↓x_next, ↓x_ret, ↓x_retN, ↓x_drop, ↓x_if, ↓x_asg, ↓x_false, ↓x_brk, ↓x_cnt, ↓x_g0, ↓x_v0, ↓x_g1, ↓x_v1, ↓x_g2, ↓x_v2, ↓x_g3, ↓x_v3, ↓x_g4, ↓x_v4, ↓x_g5, ↓x_v5, ↓x_g6, ↓x_v6, ↓x_g7, ↓x_v7, ↓x_g8, ↓x_v8, ↓x_g9, ↓x_v9, ↓x_g10, ↓x_v10, ↓x_g11, ↓x_v11, ↓x_g12, ↓x_v12, ↓x_g13, ↓x_v13, ↓x_g14, ↓x_v14, ↓x_g15, ↓x_v15, ↓x_g16, ↓x_v16, ↓x_g17, ↓x_v17, ↓x_g18, ↓x_v18, ↓x_g19, ↓x_v19, ↓x_gt2, ↓x_gt3, ↓x_gt4, ↓x_gt5, ↓x_gt6, ↓x_gc, ↓x_gn, ↓x_par2, ↓x_p2, ↓x_par3, ↓x_p3, ↓x_C, ↓x_op, ↓x_test, ↓x_chain, ↓x_andT, ↓x_orT, ↓x_notT, ↓x_ifE, ↓x_andV, ↓x_orV, ↓x_notV, ↓x_nil, ↓x_cons, ↓x_star, ↓x_tup, ↓x_lst, ↓x_callB, ↓x_call, ↓x_callK, ↓x_meth, ↓x_make, ↓x_fld, ↓x_fldS, ↓x_bm0, ↓x_bm, ↓x_sl, ↓x_nop, ↓x_prt, ↓x_neg, ↓x_revL, ↓x_lc, ↓x_for, ↓x_diSeq, ↓x_diEnum, ↓x_rng1, ↓y_addi, ↓y_adds, ↓y_addt, ↓y_int, ↓y_intC, ↓y_is, ↓y_isn, ↓y_nnon, ↓y_nbl, ↓y_nint, ↓y_nstr, ↓y_ntup, ↓y_nref, ↓y_t0, ↓y_t1, ↓y_t2, ↓y_t3, ↓y_m2, ↓y_m3, ↓y_len0, ↓y_len1, ↓y_len2, ↓y_len3, ↓y_len, ↓y_lenS, ↓y_itt, ↓y_iss, ↓y_iii, ↓y_iib, ↓y_i1, ↓y_i1b, ↓y_abs, ↓y_strI, ↓y_slt, ↓y_sls, ↓y_tys, ↓y_gs0, ↓y_gs1, ↓y_gs2, ↓y_gs3, ↓y_gs4, ↓y_gs5, ↓y_gs6, ↓y_gs7, ↓bIn_2, ↓bNotIn_2, ↓bEq_int, ↓bNe_int, wipeD, List.map_cons, List.map_nil, List.set_cons_zero, List.set_cons_succ, Option.some.injEq, exists_and_left, exists_eq_left', exists_eq_left, decide_true, decide_false, Bool.false_eq_true, reduceIte, Bool.not_true, Bool.not_false, List.length_cons, List.length_nil, Nat.reduceAdd, Nat.zero_add, line16, Nat.reduceLeDiff, Int.reduceEq, Int.reduceLT, Int.reduceLE, Int.reduceNeg, Int.cast_ofNat_Int, or_true, true_or, or_self, or_false, false_or, true_and, and_true, and_self, List.cons_append, List.nil_append, List.append_nil, forall_const]
    refine ⟨a, g, ps, rfl, hok, hne, hc, hD2, fun qs M4 hok4 hne4 hc4 hD4 hK4 => ?_⟩
    simp only [↓x_seq, ↓x_next, ↓x_ret, ↓x_retN, ↓x_drop, ↓x_if, ↓x_asg, ↓x_false, ↓x_brk, ↓x_cnt, ↓x_g0, ↓x_v0, ↓x_g1, ↓x_v1, ↓x_g2, ↓x_v2, ↓x_g3, ↓x_v3, ↓x_g4, ↓x_v4, ↓x_g5, ↓x_v5, ↓x_g6, ↓x_v6, ↓x_g7, ↓x_v7, ↓x_g8, ↓x_v8, ↓x_g9, ↓x_v9, ↓x_g10, ↓x_v10, ↓x_g11, ↓x_v11, ↓x_g12, ↓x_v12, ↓x_g13, ↓x_v13, ↓x_g14, ↓x_v14, ↓x_g15, ↓x_v15, ↓x_g16, ↓x_v16, ↓x_g17, ↓x_v17, ↓x_g18, ↓x_v18, ↓x_g19, ↓x_v19, ↓x_gt2, ↓x_gt3, ↓x_gt4, ↓x_gt5, ↓x_gt6, ↓x_gc, ↓x_gn, ↓x_par2, ↓x_p2, ↓x_par3, ↓x_p3, ↓x_C, ↓x_op, ↓x_test, ↓x_chain, ↓x_andT, ↓x_orT, ↓x_notT, ↓x_ifE, ↓x_andV, ↓x_orV, ↓x_notV, ↓x_nil, ↓x_cons, ↓x_star, ↓x_tup, ↓x_lst, ↓x_callB, ↓x_call, ↓x_callK, ↓x_meth, ↓x_make, ↓x_fld, ↓x_fldS, ↓x_bm0, ↓x_bm, ↓x_sl, ↓x_nop, ↓x_prt, ↓x_neg, ↓x_revL, ↓x_lc, ↓x_for, ↓x_diSeq, ↓x_diEnum, ↓x_rng1, ↓y_addi, ↓y_adds, ↓y_addt, ↓y_int, ↓y_intC, ↓y_is, ↓y_isn, ↓y_nnon, ↓y_nbl, ↓y_nint, ↓y_nstr, ↓y_ntup, ↓y_nref, ↓y_t0, ↓y_t1, ↓y_t2, ↓y_t3, ↓y_m2, ↓y_m3, ↓y_len0, ↓y_len1, ↓y_len2, ↓y_len3, ↓y_len, ↓y_lenS, ↓y_itt, ↓y_iss, ↓y_iii, ↓y_iib, ↓y_i1, ↓y_i1b, ↓y_abs, ↓y_strI, ↓y_slt, ↓y_sls, ↓y_tys, ↓y_gs0, ↓y_gs1, ↓y_gs2, ↓y_gs3, ↓y_gs4, ↓y_gs5, ↓y_gs6, ↓y_gs7, ↓bIn_2, ↓bNotIn_2, ↓bEq_int, ↓bNe_int, wipeD, List.map_cons, List.map_nil, List.set_cons_zero, List.set_cons_succ, Option.some.injEq, exists_and_left, exists_eq_left', exists_eq_left, decide_true, decide_false, Bool.false_eq_true, reduceIte, Bool.not_true, Bool.not_false, List.length_cons, List.length_nil, Nat.reduceAdd, Nat.zero_add, line16, Nat.reduceLeDiff, Int.reduceEq, Int.reduceLT, Int.reduceLE, Int.reduceNeg, Int.cast_ofNat_Int, or_true, true_or, or_self, or_false, false_or, true_and, and_true, and_self, List.cons_append, List.nil_append, List.append_nil, forall_const]
    intro c hc0
    have hcn := hD4.na hc0
    have hK5 := hK2.trans hK4
    have hcM : M c = none := by
      cases hq : M c with
      | none => rfl
      | some o => rw [hK5 _ _ hcn.1 hcn.2 hq] at hc0; cases hc0
    exact hN _ _ ⟨qs, c, rfl, hok4, hne4, hc4, hD4.kp_new hc0, hK5.new hcM, put_same, hcn.1, hcn.2, hcM⟩
  clear hD2 hK2
  rintro σ M2 ⟨qs, c, rfl, hok2, hne2, hc2, hD2, hK2, hcv, hca, hcg, hcM⟩
  -- both
  have hall : ∀ l ∈ [ps, qs], okPs l = true ∧ l ≠ [] ∧ cPs l ≤ 13 := fun l hl => by
    rcases List.mem_cons.mp hl with h | h
    · subst h; exact ⟨hok, hne, by omega⟩
    · rw [List.mem_singleton.mp h]; exact ⟨hok2, hne2, hc2⟩
  refine seq_cut (lwJ (.fro (ns.map D.int)) a g (.int (0 + ((t : Nat) : Int))) (.tup (pDs ps)) (.tup (pDs qs)) c [ps, qs] M 2) (fun N hN => ?_) ?_
  · simp only [↓x_seq, ↓x_next, ↓x_ret, ↓x_retN, ↓x_drop, ↓x_if, ↓x_asg, ↓x_false, ↓x_brk, ↓x_cnt, ↓x_g0, ↓x_v0, ↓x_g1, ↓x_v1, ↓x_g2, ↓x_v2, ↓x_g3, ↓x_v3, ↓x_g4, ↓x_v4, ↓x_g5, ↓x_v5, ↓x_g6, ↓x_v6, ↓x_g7, ↓x_v7, ↓x_g8, ↓x_v8, ↓x_g9, ↓x_v9, ↓x_g10, ↓x_v10, ↓x_g11, ↓x_v11, ↓x_g12, ↓x_v12, ↓x_g13, ↓x_v13, ↓x_g14, ↓x_v14, ↓x_g15, ↓x_v15, ↓x_g16, ↓x_v16, ↓x_g17, ↓x_v17, ↓x_g18, ↓x_v18, ↓x_g19, ↓x_v19, ↓x_gt2, ↓x_gt3, ↓x_gt4, ↓x_gt5, ↓x_gt6, ↓x_gc, ↓x_gn, ↓x_par2, ↓x_p2, ↓x_par3, ↓x_p3, ↓x_C, ↓x_op, ↓x_test, ↓x_chain, ↓x_andT, ↓x_orT, ↓x_notT, ↓x_ifE, ↓x_andV, ↓x_orV, ↓x_notV, ↓x_nil, ↓x_cons, ↓x_star, ↓x_tup, ↓x_lst, ↓x_callB, ↓x_call, ↓x_callK, ↓x_meth, ↓x_make, ↓x_fld, ↓x_fldS, ↓x_bm0, ↓x_bm, ↓x_sl, ↓x_nop, ↓x_prt, ↓x_neg, ↓x_revL, ↓x_lc, ↓x_for, ↓x_diSeq, ↓x_diEnum, ↓x_rng1, ↓y_addi, ↓y_adds, ↓y_addt, ↓y_int, ↓y_intC, ↓y_is, ↓y_isn, ↓y_nnon, ↓y_nbl, ↓y_nint, ↓y_nstr, ↓y_ntup, ↓y_nref, ↓y_t0, ↓y_t1, ↓y_t2, ↓y_t3, ↓y_m2, ↓y_m3, ↓y_len0, ↓y_len1, ↓y_len2, ↓y_len3, ↓y_len, ↓y_lenS, ↓y_itt, ↓y_iss, ↓y_iii, ↓y_iib, ↓y_i1, ↓y_i1b, ↓y_abs, ↓y_strI, ↓y_slt, ↓y_sls, ↓y_tys, ↓y_gs0, ↓y_gs1, ↓y_gs2, ↓y_gs3, ↓y_gs4, ↓y_gs5, ↓y_gs6, ↓y_gs7, ↓bIn_2, ↓bNotIn_2, ↓bEq_int, ↓bNe_int, wipeD, List.map_cons, List.map_nil, List.set_cons_zero, List.set_cons_succ, Option.some.injEq, exists_and_left, exists_eq_left', exists_eq_left, decide_true, decide_false, Bool.false_eq_true, reduceIte, Bool.not_true, Bool.not_false, List.length_cons, List.length_nil, Nat.reduceAdd, Nat.zero_add, line16, Nat.reduceLeDiff, Int.reduceEq, Int.reduceLT, Int.reduceLE, Int.reduceNeg, Int.cast_ofNat_Int, or_true, true_or, or_self, or_false, false_or, true_and, and_true, and_self, List.cons_append, List.nil_append, List.append_nil, forall_const]
    refine forG_A [ps, qs] (fun l => .tup (pDs l)) rfl (lwJ (.fro (ns.map D.int)) a g (.int (0 + ((t : Nat) : Int))) (.tup (pDs ps)) (.tup (pDs qs)) c [ps, qs] M) ⟨u6, u7, u8, u9, u10, rfl, hD2, hK2, hcv⟩ (fun _ _ _ _ => trivial) ?_ (fun σ M' h => hN _ _ h)
    rintro j l σ M3 hl ⟨v6, v7, v8, v9, v10, rfl, hD3, hK3, hcv3⟩
    have hlm := List.mem_of_getElem? hl
    obtain ⟨hokl, hnel, hcl⟩ := hall l hlm
    have hfl : (([ps, qs].take (j + 1)).filter good).map txt2 = (([ps, qs].take j).filter good).map txt2 ++ (if good l = true then [txt2 l] else []) := by
      rw [take_snoc hl, List.filter_append, List.map_append]
      congr 1
      cases hgl : good l <;> simp [hgl]
    have hjl : (([ps, qs].take j).filter good).length ≤ 2 := Nat.le_trans (List.length_filter_le _ _) (by rw [List.length_take]; exact Nat.min_le_right _ _)
    simp only [↓x_next, ↓x_ret, ↓x_retN, ↓x_drop, ↓x_if, ↓x_asg, ↓x_false, ↓x_brk, ↓x_cnt, ↓x_g0, ↓x_v0, ↓x_g1, ↓x_v1, ↓x_g2, ↓x_v2, ↓x_g3, ↓x_v3, ↓x_g4, ↓x_v4, ↓x_g5, ↓x_v5, ↓x_g6, ↓x_v6, ↓x_g7, ↓x_v7, ↓x_g8, ↓x_v8, ↓x_g9, ↓x_v9, ↓x_g10, ↓x_v10, ↓x_g11, ↓x_v11, ↓x_g12, ↓x_v12, ↓x_g13, ↓x_v13, ↓x_g14, ↓x_v14, ↓x_g15, ↓x_v15, ↓x_g16, ↓x_v16, ↓x_g17, ↓x_v17, ↓x_g18, ↓x_v18, ↓x_g19, ↓x_v19, ↓x_gt2, ↓x_gt3, ↓x_gt4, ↓x_gt5, ↓x_gt6, ↓x_gc, ↓x_gn, ↓x_par2, ↓x_p2, ↓x_par3, ↓x_p3, ↓x_C, ↓x_op, ↓x_test, ↓x_chain, ↓x_andT, ↓x_orT, ↓x_notT, ↓x_ifE, ↓x_andV, ↓x_orV, ↓x_notV, ↓x_nil, ↓x_cons, ↓x_star, ↓x_tup, ↓x_lst, ↓x_callB, ↓x_call, ↓x_callK, ↓x_meth, ↓x_make, ↓x_fld, ↓x_fldS, ↓x_bm0, ↓x_bm, ↓x_sl, ↓x_nop, ↓x_prt, ↓x_neg, ↓x_revL, ↓x_lc, ↓x_for, ↓x_diSeq, ↓x_diEnum, ↓x_rng1, ↓y_addi, ↓y_adds, ↓y_addt, ↓y_int, ↓y_intC, ↓y_is, ↓y_isn, ↓y_nnon, ↓y_nbl, ↓y_nint, ↓y_nstr, ↓y_ntup, ↓y_nref, ↓y_t0, ↓y_t1, ↓y_t2, ↓y_t3, ↓y_m2, ↓y_m3, ↓y_len0, ↓y_len1, ↓y_len2, ↓y_len3, ↓y_len, ↓y_lenS, ↓y_itt, ↓y_iss, ↓y_iii, ↓y_iib, ↓y_i1, ↓y_i1b, ↓y_abs, ↓y_strI, ↓y_slt, ↓y_sls, ↓y_tys, ↓y_gs0, ↓y_gs1, ↓y_gs2, ↓y_gs3, ↓y_gs4, ↓y_gs5, ↓y_gs6, ↓y_gs7, ↓bIn_2, ↓bNotIn_2, ↓bEq_int, ↓bNe_int, wipeD, List.map_cons, List.map_nil, List.set_cons_zero, List.set_cons_succ, Option.some.injEq, exists_and_left, exists_eq_left', exists_eq_left, decide_true, decide_false, Bool.false_eq_true, reduceIte, Bool.not_true, Bool.not_false, List.length_cons, List.length_nil, Nat.reduceAdd, Nat.zero_add, line16, Nat.reduceLeDiff, Int.reduceEq, Int.reduceLT, Int.reduceLE, Int.reduceNeg, Int.cast_ofNat_Int, or_true, true_or, or_self, or_false, false_or, true_and, and_true, and_self, List.cons_append, List.nil_append, List.append_nil, forall_const]
    refine ⟨l, rfl, hokl, hcl, fun x hx => ?_⟩
    cases hgl : good l with
    | false =>
      rw [hgl] at hfl
      simp only [hx, hgl, ↓x_next, ↓x_ret, ↓x_retN, ↓x_drop, ↓x_if, ↓x_asg, ↓x_false, ↓x_brk, ↓x_cnt, ↓x_g0, ↓x_v0, ↓x_g1, ↓x_v1, ↓x_g2, ↓x_v2, ↓x_g3, ↓x_v3, ↓x_g4, ↓x_v4, ↓x_g5, ↓x_v5, ↓x_g6, ↓x_v6, ↓x_g7, ↓x_v7, ↓x_g8, ↓x_v8, ↓x_g9, ↓x_v9, ↓x_g10, ↓x_v10, ↓x_g11, ↓x_v11, ↓x_g12, ↓x_v12, ↓x_g13, ↓x_v13, ↓x_g14, ↓x_v14, ↓x_g15, ↓x_v15, ↓x_g16, ↓x_v16, ↓x_g17, ↓x_v17, ↓x_g18, ↓x_v18, ↓x_g19, ↓x_v19, ↓x_gt2, ↓x_gt3, ↓x_gt4, ↓x_gt5, ↓x_gt6, ↓x_gc, ↓x_gn, ↓x_par2, ↓x_p2, ↓x_par3, ↓x_p3, ↓x_C, ↓x_op, ↓x_test, ↓x_chain, ↓x_andT, ↓x_orT, ↓x_notT, ↓x_ifE, ↓x_andV, ↓x_orV, ↓x_notV, ↓x_nil, ↓x_cons, ↓x_star, ↓x_tup, ↓x_lst, ↓x_callB, ↓x_call, ↓x_callK, ↓x_meth, ↓x_make, ↓x_fld, ↓x_fldS, ↓x_bm0, ↓x_bm, ↓x_sl, ↓x_nop, ↓x_prt, ↓x_neg, ↓x_revL, ↓x_lc, ↓x_for, ↓x_diSeq, ↓x_diEnum, ↓x_rng1, ↓y_addi, ↓y_adds, ↓y_addt, ↓y_int, ↓y_intC, ↓y_is, ↓y_isn, ↓y_nnon, ↓y_nbl, ↓y_nint, ↓y_nstr, ↓y_ntup, ↓y_nref, ↓y_t0, ↓y_t1, ↓y_t2, ↓y_t3, ↓y_m2, ↓y_m3, ↓y_len0, ↓y_len1, ↓y_len2, ↓y_len3, ↓y_len, ↓y_lenS, ↓y_itt, ↓y_iss, ↓y_iii, ↓y_iib, ↓y_i1, ↓y_i1b, ↓y_abs, ↓y_strI, ↓y_slt, ↓y_sls, ↓y_tys, ↓y_gs0, ↓y_gs1, ↓y_gs2, ↓y_gs3, ↓y_gs4, ↓y_gs5, ↓y_gs6, ↓y_gs7, ↓bIn_2, ↓bNotIn_2, ↓bEq_int, ↓bNe_int, wipeD, List.map_cons, List.map_nil, List.set_cons_zero, List.set_cons_succ, Option.some.injEq, exists_and_left, exists_eq_left', exists_eq_left, decide_true, decide_false, Bool.false_eq_true, reduceIte, Bool.not_true, Bool.not_false, List.length_cons, List.length_nil, Nat.reduceAdd, Nat.zero_add, line16, Nat.reduceLeDiff, Int.reduceEq, Int.reduceLT, Int.reduceLE, Int.reduceNeg, Int.cast_ofNat_Int, or_true, true_or, or_self, or_false, false_or, true_and, and_true, and_self, List.cons_append, List.nil_append, List.append_nil, forall_const]
      exact ⟨_, _, _, _, _, rfl, hD3, hK3, by rw [hcv3, hfl]; simp⟩
    | true =>
      rw [hgl] at hfl
      have hgg := hgl
      simp only [good, Bool.and_eq_true, decide_eq_true_eq] at hgg
      obtain ⟨⟨hck, hc12⟩, hi0⟩ := hgg
      have h18 : cPs l ≤ 18 := by omega
      simp only [hx, hgl, ↓x_next, ↓x_ret, ↓x_retN, ↓x_drop, ↓x_if, ↓x_asg, ↓x_false, ↓x_brk, ↓x_cnt, ↓x_g0, ↓x_v0, ↓x_g1, ↓x_v1, ↓x_g2, ↓x_v2, ↓x_g3, ↓x_v3, ↓x_g4, ↓x_v4, ↓x_g5, ↓x_v5, ↓x_g6, ↓x_v6, ↓x_g7, ↓x_v7, ↓x_g8, ↓x_v8, ↓x_g9, ↓x_v9, ↓x_g10, ↓x_v10, ↓x_g11, ↓x_v11, ↓x_g12, ↓x_v12, ↓x_g13, ↓x_v13, ↓x_g14, ↓x_v14, ↓x_g15, ↓x_v15, ↓x_g16, ↓x_v16, ↓x_g17, ↓x_v17, ↓x_g18, ↓x_v18, ↓x_g19, ↓x_v19, ↓x_gt2, ↓x_gt3, ↓x_gt4, ↓x_gt5, ↓x_gt6, ↓x_gc, ↓x_gn, ↓x_par2, ↓x_p2, ↓x_par3, ↓x_p3, ↓x_C, ↓x_op, ↓x_test, ↓x_chain, ↓x_andT, ↓x_orT, ↓x_notT, ↓x_ifE, ↓x_andV, ↓x_orV, ↓x_notV, ↓x_nil, ↓x_cons, ↓x_star, ↓x_tup, ↓x_lst, ↓x_callB, ↓x_call, ↓x_callK, ↓x_meth, ↓x_make, ↓x_fld, ↓x_fldS, ↓x_bm0, ↓x_bm, ↓x_sl, ↓x_nop, ↓x_prt, ↓x_neg, ↓x_revL, ↓x_lc, ↓x_for, ↓x_diSeq, ↓x_diEnum, ↓x_rng1, ↓y_addi, ↓y_adds, ↓y_addt, ↓y_int, ↓y_intC, ↓y_is, ↓y_isn, ↓y_nnon, ↓y_nbl, ↓y_nint, ↓y_nstr, ↓y_ntup, ↓y_nref, ↓y_t0, ↓y_t1, ↓y_t2, ↓y_t3, ↓y_m2, ↓y_m3, ↓y_len0, ↓y_len1, ↓y_len2, ↓y_len3, ↓y_len, ↓y_lenS, ↓y_itt, ↓y_iss, ↓y_iii, ↓y_iib, ↓y_i1, ↓y_i1b, ↓y_abs, ↓y_strI, ↓y_slt, ↓y_sls, ↓y_tys, ↓y_gs0, ↓y_gs1, ↓y_gs2, ↓y_gs3, ↓y_gs4, ↓y_gs5, ↓y_gs6, ↓y_gs7, ↓bIn_2, ↓bNotIn_2, ↓bEq_int, ↓bNe_int, wipeD, List.map_cons, List.map_nil, List.set_cons_zero, List.set_cons_succ, Option.some.injEq, exists_and_left, exists_eq_left', exists_eq_left, decide_true, decide_false, Bool.false_eq_true, reduceIte, Bool.not_true, Bool.not_false, List.length_cons, List.length_nil, Nat.reduceAdd, Nat.zero_add, line16, Nat.reduceLeDiff, Int.reduceEq, Int.reduceLT, Int.reduceLE, Int.reduceNeg, Int.cast_ofNat_Int, or_true, true_or, or_self, or_false, false_or, true_and, and_true, and_self, List.cons_append, List.nil_append, List.append_nil, forall_const]
      -- kept, due
      refine seq_cut (fun σ M' => σ = [some (.fro (ns.map D.int)), some (.ref a), some (.int (0 + ((t : Nat) : Int))), some (.tup (pDs ps)), some (.tup (pDs qs)), some (.ref c), some (.tup (pDs l)), some (.str (PyData.shown (.tuple (pPs l)))), some (.str (S (tPs l))), v9, v10] ∧ M3 = M') (fun N hN => ?_) ?_
      · simp only [↓repr_psE h18 hokl, ↓x_seq, ↓x_next, ↓x_ret, ↓x_retN, ↓x_drop, ↓x_if, ↓x_asg, ↓x_false, ↓x_brk, ↓x_cnt, ↓x_g0, ↓x_v0, ↓x_g1, ↓x_v1, ↓x_g2, ↓x_v2, ↓x_g3, ↓x_v3, ↓x_g4, ↓x_v4, ↓x_g5, ↓x_v5, ↓x_g6, ↓x_v6, ↓x_g7, ↓x_v7, ↓x_g8, ↓x_v8, ↓x_g9, ↓x_v9, ↓x_g10, ↓x_v10, ↓x_g11, ↓x_v11, ↓x_g12, ↓x_v12, ↓x_g13, ↓x_v13, ↓x_g14, ↓x_v14, ↓x_g15, ↓x_v15, ↓x_g16, ↓x_v16, ↓x_g17, ↓x_v17, ↓x_g18, ↓x_v18, ↓x_g19, ↓x_v19, ↓x_gt2, ↓x_gt3, ↓x_gt4, ↓x_gt5, ↓x_gt6, ↓x_gc, ↓x_gn, ↓x_par2, ↓x_p2, ↓x_par3, ↓x_p3, ↓x_C, ↓x_op, ↓x_test, ↓x_chain, ↓x_andT, ↓x_orT, ↓x_notT, ↓x_ifE, ↓x_andV, ↓x_orV, ↓x_notV, ↓x_nil, ↓x_cons, ↓x_star, ↓x_tup, ↓x_lst, ↓x_callB, ↓x_call, ↓x_callK, ↓x_meth, ↓x_make, ↓x_fld, ↓x_fldS, ↓x_bm0, ↓x_bm, ↓x_sl, ↓x_nop, ↓x_prt, ↓x_neg, ↓x_revL, ↓x_lc, ↓x_for, ↓x_diSeq, ↓x_diEnum, ↓x_rng1, ↓y_addi, ↓y_adds, ↓y_addt, ↓y_int, ↓y_intC, ↓y_is, ↓y_isn, ↓y_nnon, ↓y_nbl, ↓y_nint, ↓y_nstr, ↓y_ntup, ↓y_nref, ↓y_t0, ↓y_t1, ↓y_t2, ↓y_t3, ↓y_m2, ↓y_m3, ↓y_len0, ↓y_len1, ↓y_len2, ↓y_len3, ↓y_len, ↓y_lenS, ↓y_itt, ↓y_iss, ↓y_iii, ↓y_iib, ↓y_i1, ↓y_i1b, ↓y_abs, ↓y_strI, ↓y_slt, ↓y_sls, ↓y_tys, ↓y_gs0, ↓y_gs1, ↓y_gs2, ↓y_gs3, ↓y_gs4, ↓y_gs5, ↓y_gs6, ↓y_gs7, ↓bIn_2, ↓bNotIn_2, ↓bEq_int, ↓bNe_int, wipeD, List.map_cons, List.map_nil, List.set_cons_zero, List.set_cons_succ, Option.some.injEq, exists_and_left, exists_eq_left', exists_eq_left, decide_true, decide_false, Bool.false_eq_true, reduceIte, Bool.not_true, Bool.not_false, List.length_cons, List.length_nil, Nat.reduceAdd, Nat.zero_add, line16, Nat.reduceLeDiff, Int.reduceEq, Int.reduceLT, Int.reduceLE, Int.reduceNeg, Int.cast_ofNat_Int, or_true, true_or, or_self, or_false, false_or, true_and, and_true, and_self, List.cons_append, List.nil_append, List.append_nil, forall_const]
        exact ⟨l, rfl, hokl, by omega, by omega, hN _ _ ⟨rfl, rfl⟩⟩
      rintro σ M4 ⟨rfl, rfl⟩
      -- told
      refine seq_cut (fun σ M' => σ = [some (.fro (ns.map D.int)), some (.ref a), some (.int (0 + ((t : Nat) : Int))), some (.tup (pDs ps)), some (.tup (pDs qs)), some (.ref c), some (.tup (pDs l)), some (.str (PyData.shown (.tuple (pPs l)))), some (.str (S (tPs l))), some (.str (S (tPs l))), v10] ∧ M3 = M') (fun N hN => ?_) ?_
      · by_cases h1 : (0 : Int) + ((t : Nat) : Int) = 1
        · simp only [↓x_seq, ↓x_next, ↓x_ret, ↓x_retN, ↓x_drop, ↓x_if, ↓x_asg, ↓x_false, ↓x_brk, ↓x_cnt, ↓x_g0, ↓x_v0, ↓x_g1, ↓x_v1, ↓x_g2, ↓x_v2, ↓x_g3, ↓x_v3, ↓x_g4, ↓x_v4, ↓x_g5, ↓x_v5, ↓x_g6, ↓x_v6, ↓x_g7, ↓x_v7, ↓x_g8, ↓x_v8, ↓x_g9, ↓x_v9, ↓x_g10, ↓x_v10, ↓x_g11, ↓x_v11, ↓x_g12, ↓x_v12, ↓x_g13, ↓x_v13, ↓x_g14, ↓x_v14, ↓x_g15, ↓x_v15, ↓x_g16, ↓x_v16, ↓x_g17, ↓x_v17, ↓x_g18, ↓x_v18, ↓x_g19, ↓x_v19, ↓x_gt2, ↓x_gt3, ↓x_gt4, ↓x_gt5, ↓x_gt6, ↓x_gc, ↓x_gn, ↓x_par2, ↓x_p2, ↓x_par3, ↓x_p3, ↓x_C, ↓x_op, ↓x_test, ↓x_chain, ↓x_andT, ↓x_orT, ↓x_notT, ↓x_ifE, ↓x_andV, ↓x_orV, ↓x_notV, ↓x_nil, ↓x_cons, ↓x_star, ↓x_tup, ↓x_lst, ↓x_callB, ↓x_call, ↓x_callK, ↓x_meth, ↓x_make, ↓x_fld, ↓x_fldS, ↓x_bm0, ↓x_bm, ↓x_sl, ↓x_nop, ↓x_prt, ↓x_neg, ↓x_revL, ↓x_lc, ↓x_for, ↓x_diSeq, ↓x_diEnum, ↓x_rng1, ↓y_addi, ↓y_adds, ↓y_addt, ↓y_int, ↓y_intC, ↓y_is, ↓y_isn, ↓y_nnon, ↓y_nbl, ↓y_nint, ↓y_nstr, ↓y_ntup, ↓y_nref, ↓y_t0, ↓y_t1, ↓y_t2, ↓y_t3, ↓y_m2, ↓y_m3, ↓y_len0, ↓y_len1, ↓y_len2, ↓y_len3, ↓y_len, ↓y_lenS, ↓y_itt, ↓y_iss, ↓y_iii, ↓y_iib, ↓y_i1, ↓y_i1b, ↓y_abs, ↓y_strI, ↓y_slt, ↓y_sls, ↓y_tys, ↓y_gs0, ↓y_gs1, ↓y_gs2, ↓y_gs3, ↓y_gs4, ↓y_gs5, ↓y_gs6, ↓y_gs7, ↓bIn_2, ↓bNotIn_2, ↓bEq_int, ↓bNe_int, wipeD, List.map_cons, List.map_nil, List.set_cons_zero, List.set_cons_succ, Option.some.injEq, exists_and_left, exists_eq_left', exists_eq_left, decide_true, decide_false, Bool.false_eq_true, reduceIte, Bool.not_true, Bool.not_false, List.length_cons, List.length_nil, Nat.reduceAdd, Nat.zero_add, line16, Nat.reduceLeDiff, Int.reduceEq, Int.reduceLT, Int.reduceLE, Int.reduceNeg, Int.cast_ofNat_Int, or_true, true_or, or_self, or_false, false_or, true_and, and_true, and_self, List.cons_append, List.nil_append, List.append_nil, forall_const, h1]
          exact ⟨l, rfl, hokl, by omega, by omega, by rw [← h1]; exact hN _ _ ⟨rfl, rfl⟩⟩
        · simp only [↓x_seq, ↓x_next, ↓x_ret, ↓x_retN, ↓x_drop, ↓x_if, ↓x_asg, ↓x_false, ↓x_brk, ↓x_cnt, ↓x_g0, ↓x_v0, ↓x_g1, ↓x_v1, ↓x_g2, ↓x_v2, ↓x_g3, ↓x_v3, ↓x_g4, ↓x_v4, ↓x_g5, ↓x_v5, ↓x_g6, ↓x_v6, ↓x_g7, ↓x_v7, ↓x_g8, ↓x_v8, ↓x_g9, ↓x_v9, ↓x_g10, ↓x_v10, ↓x_g11, ↓x_v11, ↓x_g12, ↓x_v12, ↓x_g13, ↓x_v13, ↓x_g14, ↓x_v14, ↓x_g15, ↓x_v15, ↓x_g16, ↓x_v16, ↓x_g17, ↓x_v17, ↓x_g18, ↓x_v18, ↓x_g19, ↓x_v19, ↓x_gt2, ↓x_gt3, ↓x_gt4, ↓x_gt5, ↓x_gt6, ↓x_gc, ↓x_gn, ↓x_par2, ↓x_p2, ↓x_par3, ↓x_p3, ↓x_C, ↓x_op, ↓x_test, ↓x_chain, ↓x_andT, ↓x_orT, ↓x_notT, ↓x_ifE, ↓x_andV, ↓x_orV, ↓x_notV, ↓x_nil, ↓x_cons, ↓x_star, ↓x_tup, ↓x_lst, ↓x_callB, ↓x_call, ↓x_callK, ↓x_meth, ↓x_make, ↓x_fld, ↓x_fldS, ↓x_bm0, ↓x_bm, ↓x_sl, ↓x_nop, ↓x_prt, ↓x_neg, ↓x_revL, ↓x_lc, ↓x_for, ↓x_diSeq, ↓x_diEnum, ↓x_rng1, ↓y_addi, ↓y_adds, ↓y_addt, ↓y_int, ↓y_intC, ↓y_is, ↓y_isn, ↓y_nnon, ↓y_nbl, ↓y_nint, ↓y_nstr, ↓y_ntup, ↓y_nref, ↓y_t0, ↓y_t1, ↓y_t2, ↓y_t3, ↓y_m2, ↓y_m3, ↓y_len0, ↓y_len1, ↓y_len2, ↓y_len3, ↓y_len, ↓y_lenS, ↓y_itt, ↓y_iss, ↓y_iii, ↓y_iib, ↓y_i1, ↓y_i1b, ↓y_abs, ↓y_strI, ↓y_slt, ↓y_sls, ↓y_tys, ↓y_gs0, ↓y_gs1, ↓y_gs2, ↓y_gs3, ↓y_gs4, ↓y_gs5, ↓y_gs6, ↓y_gs7, ↓bIn_2, ↓bNotIn_2, ↓bEq_int, ↓bNe_int, wipeD, List.map_cons, List.map_nil, List.set_cons_zero, List.set_cons_succ, Option.some.injEq, exists_and_left, exists_eq_left', exists_eq_left, decide_true, decide_false, Bool.false_eq_true, reduceIte, Bool.not_true, Bool.not_false, List.length_cons, List.length_nil, Nat.reduceAdd, Nat.zero_add, line16, Nat.reduceLeDiff, Int.reduceEq, Int.reduceLT, Int.reduceLE, Int.reduceNeg, Int.cast_ofNat_Int, or_true, true_or, or_self, or_false, false_or, true_and, and_true, and_self, List.cons_append, List.nil_append, List.append_nil, forall_const, h1]
          exact ⟨l, rfl, hokl, by omega, by omega, hN _ _ ⟨rfl, rfl⟩⟩
      rintro σ M4 ⟨rfl, rfl⟩
      -- all as it was
      refine seq_cut (fun σ M' => σ = [some (.fro (ns.map D.int)), some (.ref a), some (.int (0 + ((t : Nat) : Int))), some (.tup (pDs ps)), some (.tup (pDs qs)), some (.ref c), some (.tup (pDs l)), some (.str (PyData.shown (.tuple (pPs l)))), some (.str (S (tPs l))), some (.str (S (tPs l))), v10] ∧ M3 = M') (fun N hN => ?_) ?_
      · simp only [↓repr_psE h18 hokl, ↓repr_SE h18 hokl, ↓y_neS, ↓x_seq, ↓x_next, ↓x_ret, ↓x_retN, ↓x_drop, ↓x_if, ↓x_asg, ↓x_false, ↓x_brk, ↓x_cnt, ↓x_g0, ↓x_v0, ↓x_g1, ↓x_v1, ↓x_g2, ↓x_v2, ↓x_g3, ↓x_v3, ↓x_g4, ↓x_v4, ↓x_g5, ↓x_v5, ↓x_g6, ↓x_v6, ↓x_g7, ↓x_v7, ↓x_g8, ↓x_v8, ↓x_g9, ↓x_v9, ↓x_g10, ↓x_v10, ↓x_g11, ↓x_v11, ↓x_g12, ↓x_v12, ↓x_g13, ↓x_v13, ↓x_g14, ↓x_v14, ↓x_g15, ↓x_v15, ↓x_g16, ↓x_v16, ↓x_g17, ↓x_v17, ↓x_g18, ↓x_v18, ↓x_g19, ↓x_v19, ↓x_gt2, ↓x_gt3, ↓x_gt4, ↓x_gt5, ↓x_gt6, ↓x_gc, ↓x_gn, ↓x_par2, ↓x_p2, ↓x_par3, ↓x_p3, ↓x_C, ↓x_op, ↓x_test, ↓x_chain, ↓x_andT, ↓x_orT, ↓x_notT, ↓x_ifE, ↓x_andV, ↓x_orV, ↓x_notV, ↓x_nil, ↓x_cons, ↓x_star, ↓x_tup, ↓x_lst, ↓x_callB, ↓x_call, ↓x_callK, ↓x_meth, ↓x_make, ↓x_fld, ↓x_fldS, ↓x_bm0, ↓x_bm, ↓x_sl, ↓x_nop, ↓x_prt, ↓x_neg, ↓x_revL, ↓x_lc, ↓x_for, ↓x_diSeq, ↓x_diEnum, ↓x_rng1, ↓y_addi, ↓y_adds, ↓y_addt, ↓y_int, ↓y_intC, ↓y_is, ↓y_isn, ↓y_nnon, ↓y_nbl, ↓y_nint, ↓y_nstr, ↓y_ntup, ↓y_nref, ↓y_t0, ↓y_t1, ↓y_t2, ↓y_t3, ↓y_m2, ↓y_m3, ↓y_len0, ↓y_len1, ↓y_len2, ↓y_len3, ↓y_len, ↓y_lenS, ↓y_itt, ↓y_iss, ↓y_iii, ↓y_iib, ↓y_i1, ↓y_i1b, ↓y_abs, ↓y_strI, ↓y_slt, ↓y_sls, ↓y_tys, ↓y_gs0, ↓y_gs1, ↓y_gs2, ↓y_gs3, ↓y_gs4, ↓y_gs5, ↓y_gs6, ↓y_gs7, ↓bIn_2, ↓bNotIn_2, ↓bEq_int, ↓bNe_int, wipeD, List.map_cons, List.map_nil, List.set_cons_zero, List.set_cons_succ, Option.some.injEq, exists_and_left, exists_eq_left', exists_eq_left, decide_true, decide_false, Bool.false_eq_true, reduceIte, Bool.not_true, Bool.not_false, List.length_cons, List.length_nil, Nat.reduceAdd, Nat.zero_add, line16, Nat.reduceLeDiff, Int.reduceEq, Int.reduceLT, Int.reduceLE, Int.reduceNeg, Int.cast_ofNat_Int, or_true, true_or, or_self, or_false, false_or, true_and, and_true, and_self, List.cons_append, List.nil_append, List.append_nil, forall_const]
        refine ⟨l, rfl, hokl, by omega, by omega, ?_⟩
        simp only [↓repr_psE h18 hokl, ↓repr_SE h18 hokl, ↓y_neS, ↓x_seq, ↓x_next, ↓x_ret, ↓x_retN, ↓x_drop, ↓x_if, ↓x_asg, ↓x_false, ↓x_brk, ↓x_cnt, ↓x_g0, ↓x_v0, ↓x_g1, ↓x_v1, ↓x_g2, ↓x_v2, ↓x_g3, ↓x_v3, ↓x_g4, ↓x_v4, ↓x_g5, ↓x_v5, ↓x_g6, ↓x_v6, ↓x_g7, ↓x_v7, ↓x_g8, ↓x_v8, ↓x_g9, ↓x_v9, ↓x_g10, ↓x_v10, ↓x_g11, ↓x_v11, ↓x_g12, ↓x_v12, ↓x_g13, ↓x_v13, ↓x_g14, ↓x_v14, ↓x_g15, ↓x_v15, ↓x_g16, ↓x_v16, ↓x_g17, ↓x_v17, ↓x_g18, ↓x_v18, ↓x_g19, ↓x_v19, ↓x_gt2, ↓x_gt3, ↓x_gt4, ↓x_gt5, ↓x_gt6, ↓x_gc, ↓x_gn, ↓x_par2, ↓x_p2, ↓x_par3, ↓x_p3, ↓x_C, ↓x_op, ↓x_test, ↓x_chain, ↓x_andT, ↓x_orT, ↓x_notT, ↓x_ifE, ↓x_andV, ↓x_orV, ↓x_notV, ↓x_nil, ↓x_cons, ↓x_star, ↓x_tup, ↓x_lst, ↓x_callB, ↓x_call, ↓x_callK, ↓x_meth, ↓x_make, ↓x_fld, ↓x_fldS, ↓x_bm0, ↓x_bm, ↓x_sl, ↓x_nop, ↓x_prt, ↓x_neg, ↓x_revL, ↓x_lc, ↓x_for, ↓x_diSeq, ↓x_diEnum, ↓x_rng1, ↓y_addi, ↓y_adds, ↓y_addt, ↓y_int, ↓y_intC, ↓y_is, ↓y_isn, ↓y_nnon, ↓y_nbl, ↓y_nint, ↓y_nstr, ↓y_ntup, ↓y_nref, ↓y_t0, ↓y_t1, ↓y_t2, ↓y_t3, ↓y_m2, ↓y_m3, ↓y_len0, ↓y_len1, ↓y_len2, ↓y_len3, ↓y_len, ↓y_lenS, ↓y_itt, ↓y_iss, ↓y_iii, ↓y_iib, ↓y_i1, ↓y_i1b, ↓y_abs, ↓y_strI, ↓y_slt, ↓y_sls, ↓y_tys, ↓y_gs0, ↓y_gs1, ↓y_gs2, ↓y_gs3, ↓y_gs4, ↓y_gs5, ↓y_gs6, ↓y_gs7, ↓bIn_2, ↓bNotIn_2, ↓bEq_int, ↓bNe_int, wipeD, List.map_cons, List.map_nil, List.set_cons_zero, List.set_cons_succ, Option.some.injEq, exists_and_left, exists_eq_left', exists_eq_left, decide_true, decide_false, Bool.false_eq_true, reduceIte, Bool.not_true, Bool.not_false, List.length_cons, List.length_nil, Nat.reduceAdd, Nat.zero_add, line16, Nat.reduceLeDiff, Int.reduceEq, Int.reduceLT, Int.reduceLE, Int.reduceNeg, Int.cast_ofNat_Int, or_true, true_or, or_self, or_false, false_or, true_and, and_true, and_self, List.cons_append, List.nil_append, List.append_nil, forall_const]
        exact hN _ _ ⟨rfl, rfl⟩
      rintro σ M4 ⟨rfl, rfl⟩
      -- back
      refine seq_cut (fun σ M' => σ = [some (.fro (ns.map D.int)), some (.ref a), some (.int (0 + ((t : Nat) : Int))), some (.tup (pDs ps)), some (.tup (pDs qs)), some (.ref c), some (.tup (pDs l)), some (.str (PyData.shown (.tuple (pPs l)))), some (.str (S (tPs l))), some (.str (S (tPs l))), some (.tup (pDs l))] ∧ M3 = M') (fun N hN => ?_) ?_
      · by_cases h1 : (0 : Int) + ((t : Nat) : Int) = 2
        · simp only [↓x_seq, ↓x_next, ↓x_ret, ↓x_retN, ↓x_drop, ↓x_if, ↓x_asg, ↓x_false, ↓x_brk, ↓x_cnt, ↓x_g0, ↓x_v0, ↓x_g1, ↓x_v1, ↓x_g2, ↓x_v2, ↓x_g3, ↓x_v3, ↓x_g4, ↓x_v4, ↓x_g5, ↓x_v5, ↓x_g6, ↓x_v6, ↓x_g7, ↓x_v7, ↓x_g8, ↓x_v8, ↓x_g9, ↓x_v9, ↓x_g10, ↓x_v10, ↓x_g11, ↓x_v11, ↓x_g12, ↓x_v12, ↓x_g13, ↓x_v13, ↓x_g14, ↓x_v14, ↓x_g15, ↓x_v15, ↓x_g16, ↓x_v16, ↓x_g17, ↓x_v17, ↓x_g18, ↓x_v18, ↓x_g19, ↓x_v19, ↓x_gt2, ↓x_gt3, ↓x_gt4, ↓x_gt5, ↓x_gt6, ↓x_gc, ↓x_gn, ↓x_par2, ↓x_p2, ↓x_par3, ↓x_p3, ↓x_C, ↓x_op, ↓x_test, ↓x_chain, ↓x_andT, ↓x_orT, ↓x_notT, ↓x_ifE, ↓x_andV, ↓x_orV, ↓x_notV, ↓x_nil, ↓x_cons, ↓x_star, ↓x_tup, ↓x_lst, ↓x_callB, ↓x_call, ↓x_callK, ↓x_meth, ↓x_make, ↓x_fld, ↓x_fldS, ↓x_bm0, ↓x_bm, ↓x_sl, ↓x_nop, ↓x_prt, ↓x_neg, ↓x_revL, ↓x_lc, ↓x_for, ↓x_diSeq, ↓x_diEnum, ↓x_rng1, ↓y_addi, ↓y_adds, ↓y_addt, ↓y_int, ↓y_intC, ↓y_is, ↓y_isn, ↓y_nnon, ↓y_nbl, ↓y_nint, ↓y_nstr, ↓y_ntup, ↓y_nref, ↓y_t0, ↓y_t1, ↓y_t2, ↓y_t3, ↓y_m2, ↓y_m3, ↓y_len0, ↓y_len1, ↓y_len2, ↓y_len3, ↓y_len, ↓y_lenS, ↓y_itt, ↓y_iss, ↓y_iii, ↓y_iib, ↓y_i1, ↓y_i1b, ↓y_abs, ↓y_strI, ↓y_slt, ↓y_sls, ↓y_tys, ↓y_gs0, ↓y_gs1, ↓y_gs2, ↓y_gs3, ↓y_gs4, ↓y_gs5, ↓y_gs6, ↓y_gs7, ↓bIn_2, ↓bNotIn_2, ↓bEq_int, ↓bNe_int, wipeD, List.map_cons, List.map_nil, List.set_cons_zero, List.set_cons_succ, Option.some.injEq, exists_and_left, exists_eq_left', exists_eq_left, decide_true, decide_false, Bool.false_eq_true, reduceIte, Bool.not_true, Bool.not_false, List.length_cons, List.length_nil, Nat.reduceAdd, Nat.zero_add, line16, Nat.reduceLeDiff, Int.reduceEq, Int.reduceLT, Int.reduceLE, Int.reduceNeg, Int.cast_ofNat_Int, or_true, true_or, or_self, or_false, false_or, true_and, and_true, and_self, List.cons_append, List.nil_append, List.append_nil, forall_const, h1]
          exact ⟨l, rfl, hnel, hokl, hc12, hck, hi0, by rw [← h1]; exact hN _ _ ⟨rfl, rfl⟩⟩
        · simp only [↓x_seq, ↓x_next, ↓x_ret, ↓x_retN, ↓x_drop, ↓x_if, ↓x_asg, ↓x_false, ↓x_brk, ↓x_cnt, ↓x_g0, ↓x_v0, ↓x_g1, ↓x_v1, ↓x_g2, ↓x_v2, ↓x_g3, ↓x_v3, ↓x_g4, ↓x_v4, ↓x_g5, ↓x_v5, ↓x_g6, ↓x_v6, ↓x_g7, ↓x_v7, ↓x_g8, ↓x_v8, ↓x_g9, ↓x_v9, ↓x_g10, ↓x_v10, ↓x_g11, ↓x_v11, ↓x_g12, ↓x_v12, ↓x_g13, ↓x_v13, ↓x_g14, ↓x_v14, ↓x_g15, ↓x_v15, ↓x_g16, ↓x_v16, ↓x_g17, ↓x_v17, ↓x_g18, ↓x_v18, ↓x_g19, ↓x_v19, ↓x_gt2, ↓x_gt3, ↓x_gt4, ↓x_gt5, ↓x_gt6, ↓x_gc, ↓x_gn, ↓x_par2, ↓x_p2, ↓x_par3, ↓x_p3, ↓x_C, ↓x_op, ↓x_test, ↓x_chain, ↓x_andT, ↓x_orT, ↓x_notT, ↓x_ifE, ↓x_andV, ↓x_orV, ↓x_notV, ↓x_nil, ↓x_cons, ↓x_star, ↓x_tup, ↓x_lst, ↓x_callB, ↓x_call, ↓x_callK, ↓x_meth, ↓x_make, ↓x_fld, ↓x_fldS, ↓x_bm0, ↓x_bm, ↓x_sl, ↓x_nop, ↓x_prt, ↓x_neg, ↓x_revL, ↓x_lc, ↓x_for, ↓x_diSeq, ↓x_diEnum, ↓x_rng1, ↓y_addi, ↓y_adds, ↓y_addt, ↓y_int, ↓y_intC, ↓y_is, ↓y_isn, ↓y_nnon, ↓y_nbl, ↓y_nint, ↓y_nstr, ↓y_ntup, ↓y_nref, ↓y_t0, ↓y_t1, ↓y_t2, ↓y_t3, ↓y_m2, ↓y_m3, ↓y_len0, ↓y_len1, ↓y_len2, ↓y_len3, ↓y_len, ↓y_lenS, ↓y_itt, ↓y_iss, ↓y_iii, ↓y_iib, ↓y_i1, ↓y_i1b, ↓y_abs, ↓y_strI, ↓y_slt, ↓y_sls, ↓y_tys, ↓y_gs0, ↓y_gs1, ↓y_gs2, ↓y_gs3, ↓y_gs4, ↓y_gs5, ↓y_gs6, ↓y_gs7, ↓bIn_2, ↓bNotIn_2, ↓bEq_int, ↓bNe_int, wipeD, List.map_cons, List.map_nil, List.set_cons_zero, List.set_cons_succ, Option.some.injEq, exists_and_left, exists_eq_left', exists_eq_left, decide_true, decide_false, Bool.false_eq_true, reduceIte, Bool.not_true, Bool.not_false, List.length_cons, List.length_nil, Nat.reduceAdd, Nat.zero_add, line16, Nat.reduceLeDiff, Int.reduceEq, Int.reduceLT, Int.reduceLE, Int.reduceNeg, Int.cast_ofNat_Int, or_true, true_or, or_self, or_false, false_or, true_and, and_true, and_self, List.cons_append, List.nil_append, List.append_nil, forall_const, h1]
          exact ⟨l, rfl, hnel, hokl, hc12, hck, hi0, hN _ _ ⟨rfl, rfl⟩⟩
      rintro σ M4 ⟨rfl, rfl⟩
      -- the same again
      refine seq_cut (fun σ M' => σ = [some (.fro (ns.map D.int)), some (.ref a), some (.int (0 + ((t : Nat) : Int))), some (.tup (pDs ps)), some (.tup (pDs qs)), some (.ref c), some (.tup (pDs l)), some (.str (PyData.shown (.tuple (pPs l)))), some (.str (S (tPs l))), some (.str (S (tPs l))), some (.tup (pDs l))] ∧ M3 = M') (fun N hN => ?_) ?_
      · simp only [↓repr_psE h18 hokl, ↓repr_SE h18 hokl, ↓y_neS, ↓x_seq, ↓x_next, ↓x_ret, ↓x_retN, ↓x_drop, ↓x_if, ↓x_asg, ↓x_false, ↓x_brk, ↓x_cnt, ↓x_g0, ↓x_v0, ↓x_g1, ↓x_v1, ↓x_g2, ↓x_v2, ↓x_g3, ↓x_v3, ↓x_g4, ↓x_v4, ↓x_g5, ↓x_v5, ↓x_g6, ↓x_v6, ↓x_g7, ↓x_v7, ↓x_g8, ↓x_v8, ↓x_g9, ↓x_v9, ↓x_g10, ↓x_v10, ↓x_g11, ↓x_v11, ↓x_g12, ↓x_v12, ↓x_g13, ↓x_v13, ↓x_g14, ↓x_v14, ↓x_g15, ↓x_v15, ↓x_g16, ↓x_v16, ↓x_g17, ↓x_v17, ↓x_g18, ↓x_v18, ↓x_g19, ↓x_v19, ↓x_gt2, ↓x_gt3, ↓x_gt4, ↓x_gt5, ↓x_gt6, ↓x_gc, ↓x_gn, ↓x_par2, ↓x_p2, ↓x_par3, ↓x_p3, ↓x_C, ↓x_op, ↓x_test, ↓x_chain, ↓x_andT, ↓x_orT, ↓x_notT, ↓x_ifE, ↓x_andV, ↓x_orV, ↓x_notV, ↓x_nil, ↓x_cons, ↓x_star, ↓x_tup, ↓x_lst, ↓x_callB, ↓x_call, ↓x_callK, ↓x_meth, ↓x_make, ↓x_fld, ↓x_fldS, ↓x_bm0, ↓x_bm, ↓x_sl, ↓x_nop, ↓x_prt, ↓x_neg, ↓x_revL, ↓x_lc, ↓x_for, ↓x_diSeq, ↓x_diEnum, ↓x_rng1, ↓y_addi, ↓y_adds, ↓y_addt, ↓y_int, ↓y_intC, ↓y_is, ↓y_isn, ↓y_nnon, ↓y_nbl, ↓y_nint, ↓y_nstr, ↓y_ntup, ↓y_nref, ↓y_t0, ↓y_t1, ↓y_t2, ↓y_t3, ↓y_m2, ↓y_m3, ↓y_len0, ↓y_len1, ↓y_len2, ↓y_len3, ↓y_len, ↓y_lenS, ↓y_itt, ↓y_iss, ↓y_iii, ↓y_iib, ↓y_i1, ↓y_i1b, ↓y_abs, ↓y_strI, ↓y_slt, ↓y_sls, ↓y_tys, ↓y_gs0, ↓y_gs1, ↓y_gs2, ↓y_gs3, ↓y_gs4, ↓y_gs5, ↓y_gs6, ↓y_gs7, ↓bIn_2, ↓bNotIn_2, ↓bEq_int, ↓bNe_int, wipeD, List.map_cons, List.map_nil, List.set_cons_zero, List.set_cons_succ, Option.some.injEq, exists_and_left, exists_eq_left', exists_eq_left, decide_true, decide_false, Bool.false_eq_true, reduceIte, Bool.not_true, Bool.not_false, List.length_cons, List.length_nil, Nat.reduceAdd, Nat.zero_add, line16, Nat.reduceLeDiff, Int.reduceEq, Int.reduceLT, Int.reduceLE, Int.reduceNeg, Int.cast_ofNat_Int, or_true, true_or, or_self, or_false, false_or, true_and, and_true, and_self, List.cons_append, List.nil_append, List.append_nil, forall_const]
        refine ⟨l, rfl, hnel, hokl, hc12, hck, hi0, ?_⟩
        simp only [↓repr_psE h18 hokl, ↓repr_SE h18 hokl, ↓y_neS, ↓x_seq, ↓x_next, ↓x_ret, ↓x_retN, ↓x_drop, ↓x_if, ↓x_asg, ↓x_false, ↓x_brk, ↓x_cnt, ↓x_g0, ↓x_v0, ↓x_g1, ↓x_v1, ↓x_g2, ↓x_v2, ↓x_g3, ↓x_v3, ↓x_g4, ↓x_v4, ↓x_g5, ↓x_v5, ↓x_g6, ↓x_v6, ↓x_g7, ↓x_v7, ↓x_g8, ↓x_v8, ↓x_g9, ↓x_v9, ↓x_g10, ↓x_v10, ↓x_g11, ↓x_v11, ↓x_g12, ↓x_v12, ↓x_g13, ↓x_v13, ↓x_g14, ↓x_v14, ↓x_g15, ↓x_v15, ↓x_g16, ↓x_v16, ↓x_g17, ↓x_v17, ↓x_g18, ↓x_v18, ↓x_g19, ↓x_v19, ↓x_gt2, ↓x_gt3, ↓x_gt4, ↓x_gt5, ↓x_gt6, ↓x_gc, ↓x_gn, ↓x_par2, ↓x_p2, ↓x_par3, ↓x_p3, ↓x_C, ↓x_op, ↓x_test, ↓x_chain, ↓x_andT, ↓x_orT, ↓x_notT, ↓x_ifE, ↓x_andV, ↓x_orV, ↓x_notV, ↓x_nil, ↓x_cons, ↓x_star, ↓x_tup, ↓x_lst, ↓x_callB, ↓x_call, ↓x_callK, ↓x_meth, ↓x_make, ↓x_fld, ↓x_fldS, ↓x_bm0, ↓x_bm, ↓x_sl, ↓x_nop, ↓x_prt, ↓x_neg, ↓x_revL, ↓x_lc, ↓x_for, ↓x_diSeq, ↓x_diEnum, ↓x_rng1, ↓y_addi, ↓y_adds, ↓y_addt, ↓y_int, ↓y_intC, ↓y_is, ↓y_isn, ↓y_nnon, ↓y_nbl, ↓y_nint, ↓y_nstr, ↓y_ntup, ↓y_nref, ↓y_t0, ↓y_t1, ↓y_t2, ↓y_t3, ↓y_m2, ↓y_m3, ↓y_len0, ↓y_len1, ↓y_len2, ↓y_len3, ↓y_len, ↓y_lenS, ↓y_itt, ↓y_iss, ↓y_iii, ↓y_iib, ↓y_i1, ↓y_i1b, ↓y_abs, ↓y_strI, ↓y_slt, ↓y_sls, ↓y_tys, ↓y_gs0, ↓y_gs1, ↓y_gs2, ↓y_gs3, ↓y_gs4, ↓y_gs5, ↓y_gs6, ↓y_gs7, ↓bIn_2, ↓bNotIn_2, ↓bEq_int, ↓bNe_int, wipeD, List.map_cons, List.map_nil, List.set_cons_zero, List.set_cons_succ, Option.some.injEq, exists_and_left, exists_eq_left', exists_eq_left, decide_true, decide_false, Bool.false_eq_true, reduceIte, Bool.not_true, Bool.not_false, List.length_cons, List.length_nil, Nat.reduceAdd, Nat.zero_add, line16, Nat.reduceLeDiff, Int.reduceEq, Int.reduceLT, Int.reduceLE, Int.reduceNeg, Int.cast_ofNat_Int, or_true, true_or, or_self, or_false, false_or, true_and, and_true, and_self, List.cons_append, List.nil_append, List.append_nil, forall_const]
        exact hN _ _ ⟨rfl, rfl⟩
      rintro σ M4 ⟨rfl, rfl⟩
      simp only [↓y_app hcv3, ↓y_tyl hcv3, ↓x_seq, ↓x_next, ↓x_ret, ↓x_retN, ↓x_drop, ↓x_if, ↓x_asg, ↓x_false, ↓x_brk, ↓x_cnt, ↓x_g0, ↓x_v0, ↓x_g1, ↓x_v1, ↓x_g2, ↓x_v2, ↓x_g3, ↓x_v3, ↓x_g4, ↓x_v4, ↓x_g5, ↓x_v5, ↓x_g6, ↓x_v6, ↓x_g7, ↓x_v7, ↓x_g8, ↓x_v8, ↓x_g9, ↓x_v9, ↓x_g10, ↓x_v10, ↓x_g11, ↓x_v11, ↓x_g12, ↓x_v12, ↓x_g13, ↓x_v13, ↓x_g14, ↓x_v14, ↓x_g15, ↓x_v15, ↓x_g16, ↓x_v16, ↓x_g17, ↓x_v17, ↓x_g18, ↓x_v18, ↓x_g19, ↓x_v19, ↓x_gt2, ↓x_gt3, ↓x_gt4, ↓x_gt5, ↓x_gt6, ↓x_gc, ↓x_gn, ↓x_par2, ↓x_p2, ↓x_par3, ↓x_p3, ↓x_C, ↓x_op, ↓x_test, ↓x_chain, ↓x_andT, ↓x_orT, ↓x_notT, ↓x_ifE, ↓x_andV, ↓x_orV, ↓x_notV, ↓x_nil, ↓x_cons, ↓x_star, ↓x_tup, ↓x_lst, ↓x_callB, ↓x_call, ↓x_callK, ↓x_meth, ↓x_make, ↓x_fld, ↓x_fldS, ↓x_bm0, ↓x_bm, ↓x_sl, ↓x_nop, ↓x_prt, ↓x_neg, ↓x_revL, ↓x_lc, ↓x_for, ↓x_diSeq, ↓x_diEnum, ↓x_rng1, ↓y_addi, ↓y_adds, ↓y_addt, ↓y_int, ↓y_intC, ↓y_is, ↓y_isn, ↓y_nnon, ↓y_nbl, ↓y_nint, ↓y_nstr, ↓y_ntup, ↓y_nref, ↓y_t0, ↓y_t1, ↓y_t2, ↓y_t3, ↓y_m2, ↓y_m3, ↓y_len0, ↓y_len1, ↓y_len2, ↓y_len3, ↓y_len, ↓y_lenS, ↓y_itt, ↓y_iss, ↓y_iii, ↓y_iib, ↓y_i1, ↓y_i1b, ↓y_abs, ↓y_strI, ↓y_slt, ↓y_sls, ↓y_tys, ↓y_gs0, ↓y_gs1, ↓y_gs2, ↓y_gs3, ↓y_gs4, ↓y_gs5, ↓y_gs6, ↓y_gs7, ↓bIn_2, ↓bNotIn_2, ↓bEq_int, ↓bNe_int, wipeD, List.map_cons, List.map_nil, List.set_cons_zero, List.set_cons_succ, Option.some.injEq, exists_and_left, exists_eq_left', exists_eq_left, decide_true, decide_false, Bool.false_eq_true, reduceIte, Bool.not_true, Bool.not_false, List.length_cons, List.length_nil, Nat.reduceAdd, Nat.zero_add, line16, Nat.reduceLeDiff, Int.reduceEq, Int.reduceLT, Int.reduceLE, Int.reduceNeg, Int.cast_ofNat_Int, or_true, true_or, or_self, or_false, false_or, true_and, and_true, and_self, List.cons_append, List.nil_append, List.append_nil, forall_const]
      refine ⟨by rw [List.length_map]; omega, _, _, _, _, _, rfl, hD3.put hca hcg, fun b o e1 e2 z => (put_ne (ne_of z hcM)).trans (hK3 b o e1 e2 z), ?_⟩
      rw [put_same, hfl]; simp [txt2]
  rintro σ M3 ⟨v6, v7, v8, v9, v10, rfl, hD3, hK3, hcv3⟩
  have go : ∀ M', Dk a g M' → Kp a g M M' → lwI (.fro (ns.map D.int)) a g M (i + 1) [some (.fro (ns.map D.int)), some (.ref a), some (.int (0 + ((t : Nat) : Int))), some (.tup (pDs ps)), some (.tup (pDs qs)), some (.ref c), v6, v7, v8, v9, v10] M' := fun M' h1 h2 => ⟨_, _, _, _, _, _, _, _, _, rfl, h1, h2⟩
  have hlenL : ∀ (L : List D) Q', M3 c = some (.lst L) → bLen [.ref c] M3 Q' = Q' (.int ((L.length : Nat) : Int)) M3 := fun L Q' h => by
    show (match M3 c with | some (.lst l) => _ | _ => False) = _
    rw [h]
  cases h1 : good ps with
  | false =>
    have hle : ((([ps, qs].take 2).filter good).map txt2).length ≤ 1 := by
      cases h2 : good qs <;> simp [h1, h2]
    have hne2 : ¬ ((((([ps, qs].take 2).filter good).map txt2).length : Nat) : Int) = 2 := by omega
    simp only [↓hlenL _ _ hcv3, hne2, ↓x_seq, ↓x_next, ↓x_ret, ↓x_retN, ↓x_drop, ↓x_if, ↓x_asg, ↓x_false, ↓x_brk, ↓x_cnt, ↓x_g0, ↓x_v0, ↓x_g1, ↓x_v1, ↓x_g2, ↓x_v2, ↓x_g3, ↓x_v3, ↓x_g4, ↓x_v4, ↓x_g5, ↓x_v5, ↓x_g6, ↓x_v6, ↓x_g7, ↓x_v7, ↓x_g8, ↓x_v8, ↓x_g9, ↓x_v9, ↓x_g10, ↓x_v10, ↓x_g11, ↓x_v11, ↓x_g12, ↓x_v12, ↓x_g13, ↓x_v13, ↓x_g14, ↓x_v14, ↓x_g15, ↓x_v15, ↓x_g16, ↓x_v16, ↓x_g17, ↓x_v17, ↓x_g18, ↓x_v18, ↓x_g19, ↓x_v19, ↓x_gt2, ↓x_gt3, ↓x_gt4, ↓x_gt5, ↓x_gt6, ↓x_gc, ↓x_gn, ↓x_par2, ↓x_p2, ↓x_par3, ↓x_p3, ↓x_C, ↓x_op, ↓x_test, ↓x_chain, ↓x_andT, ↓x_orT, ↓x_notT, ↓x_ifE, ↓x_andV, ↓x_orV, ↓x_notV, ↓x_nil, ↓x_cons, ↓x_star, ↓x_tup, ↓x_lst, ↓x_callB, ↓x_call, ↓x_callK, ↓x_meth, ↓x_make, ↓x_fld, ↓x_fldS, ↓x_bm0, ↓x_bm, ↓x_sl, ↓x_nop, ↓x_prt, ↓x_neg, ↓x_revL, ↓x_lc, ↓x_for, ↓x_diSeq, ↓x_diEnum, ↓x_rng1, ↓y_addi, ↓y_adds, ↓y_addt, ↓y_int, ↓y_intC, ↓y_is, ↓y_isn, ↓y_nnon, ↓y_nbl, ↓y_nint, ↓y_nstr, ↓y_ntup, ↓y_nref, ↓y_t0, ↓y_t1, ↓y_t2, ↓y_t3, ↓y_m2, ↓y_m3, ↓y_len0, ↓y_len1, ↓y_len2, ↓y_len3, ↓y_len, ↓y_lenS, ↓y_itt, ↓y_iss, ↓y_iii, ↓y_iib, ↓y_i1, ↓y_i1b, ↓y_abs, ↓y_strI, ↓y_slt, ↓y_sls, ↓y_tys, ↓y_gs0, ↓y_gs1, ↓y_gs2, ↓y_gs3, ↓y_gs4, ↓y_gs5, ↓y_gs6, ↓y_gs7, ↓bIn_2, ↓bNotIn_2, ↓bEq_int, ↓bNe_int, wipeD, List.map_cons, List.map_nil, List.set_cons_zero, List.set_cons_succ, Option.some.injEq, exists_and_left, exists_eq_left', exists_eq_left, decide_true, decide_false, Bool.false_eq_true, reduceIte, Bool.not_true, Bool.not_false, List.length_cons, List.length_nil, Nat.reduceAdd, Nat.zero_add, line16, Nat.reduceLeDiff, Int.reduceEq, Int.reduceLT, Int.reduceLE, Int.reduceNeg, Int.cast_ofNat_Int, or_true, true_or, or_self, or_false, false_or, true_and, and_true, and_self, List.cons_append, List.nil_append, List.append_nil, forall_const]
    exact go _ hD3 hK3
  | true =>
    cases h2 : good qs with
    | false =>
      have hle : ((([ps, qs].take 2).filter good).map txt2).length ≤ 1 := by simp [h1, h2]
      have hne2 : ¬ ((((([ps, qs].take 2).filter good).map txt2).length : Nat) : Int) = 2 := by omega
      simp only [↓hlenL _ _ hcv3, hne2, ↓x_seq, ↓x_next, ↓x_ret, ↓x_retN, ↓x_drop, ↓x_if, ↓x_asg, ↓x_false, ↓x_brk, ↓x_cnt, ↓x_g0, ↓x_v0, ↓x_g1, ↓x_v1, ↓x_g2, ↓x_v2, ↓x_g3, ↓x_v3, ↓x_g4, ↓x_v4, ↓x_g5, ↓x_v5, ↓x_g6, ↓x_v6, ↓x_g7, ↓x_v7, ↓x_g8, ↓x_v8, ↓x_g9, ↓x_v9, ↓x_g10, ↓x_v10, ↓x_g11, ↓x_v11, ↓x_g12, ↓x_v12, ↓x_g13, ↓x_v13, ↓x_g14, ↓x_v14, ↓x_g15, ↓x_v15, ↓x_g16, ↓x_v16, ↓x_g17, ↓x_v17, ↓x_g18, ↓x_v18, ↓x_g19, ↓x_v19, ↓x_gt2, ↓x_gt3, ↓x_gt4, ↓x_gt5, ↓x_gt6, ↓x_gc, ↓x_gn, ↓x_par2, ↓x_p2, ↓x_par3, ↓x_p3, ↓x_C, ↓x_op, ↓x_test, ↓x_chain, ↓x_andT, ↓x_orT, ↓x_notT, ↓x_ifE, ↓x_andV, ↓x_orV, ↓x_notV, ↓x_nil, ↓x_cons, ↓x_star, ↓x_tup, ↓x_lst, ↓x_callB, ↓x_call, ↓x_callK, ↓x_meth, ↓x_make, ↓x_fld, ↓x_fldS, ↓x_bm0, ↓x_bm, ↓x_sl, ↓x_nop, ↓x_prt, ↓x_neg, ↓x_revL, ↓x_lc, ↓x_for, ↓x_diSeq, ↓x_diEnum, ↓x_rng1, ↓y_addi, ↓y_adds, ↓y_addt, ↓y_int, ↓y_intC, ↓y_is, ↓y_isn, ↓y_nnon, ↓y_nbl, ↓y_nint, ↓y_nstr, ↓y_ntup, ↓y_nref, ↓y_t0, ↓y_t1, ↓y_t2, ↓y_t3, ↓y_m2, ↓y_m3, ↓y_len0, ↓y_len1, ↓y_len2, ↓y_len3, ↓y_len, ↓y_lenS, ↓y_itt, ↓y_iss, ↓y_iii, ↓y_iib, ↓y_i1, ↓y_i1b, ↓y_abs, ↓y_strI, ↓y_slt, ↓y_sls, ↓y_tys, ↓y_gs0, ↓y_gs1, ↓y_gs2, ↓y_gs3, ↓y_gs4, ↓y_gs5, ↓y_gs6, ↓y_gs7, ↓bIn_2, ↓bNotIn_2, ↓bEq_int, ↓bNe_int, wipeD, List.map_cons, List.map_nil, List.set_cons_zero, List.set_cons_succ, Option.some.injEq, exists_and_left, exists_eq_left', exists_eq_left, decide_true, decide_false, Bool.false_eq_true, reduceIte, Bool.not_true, Bool.not_false, List.length_cons, List.length_nil, Nat.reduceAdd, Nat.zero_add, line16, Nat.reduceLeDiff, Int.reduceEq, Int.reduceLT, Int.reduceLE, Int.reduceNeg, Int.cast_ofNat_Int, or_true, true_or, or_self, or_false, false_or, true_and, and_true, and_self, List.cons_append, List.nil_append, List.append_nil, forall_const]
      exact go _ hD3 hK3
    | true =>
      have hv : M3 c = some (.lst [txt2 ps, txt2 qs]) := by rw [hcv3]; simp [h1, h2]
      have e1 : ∀ Q', bEq (.tup (pDs ps)) (.tup (pDs qs)) M3 Q' = Q' (.bl (decide (S (tPs ps) = S (tPs qs)))) M3 := fun Q' => by
        rw [← same_texts hne hne2]
        exact bEq_of (by show (toPs _).map _ = _; rw [toP_ps]; rfl) (by show (toPs _).map _ = _; rw [toP_ps]; rfl) (shape_ps (by omega)) (shape_ps (by omega))
      simp only [↓hlenL _ _ hv, ↓y_ixl hv, atI_0, atI_1, txt2, ↓e1, ↓bEq_str (so_Ps hok) (so_Ps hok2), ↓y_neSb, ↓x_seq, ↓x_next, ↓x_ret, ↓x_retN, ↓x_drop, ↓x_if, ↓x_asg, ↓x_false, ↓x_brk, ↓x_cnt, ↓x_g0, ↓x_v0, ↓x_g1, ↓x_v1, ↓x_g2, ↓x_v2, ↓x_g3, ↓x_v3, ↓x_g4, ↓x_v4, ↓x_g5, ↓x_v5, ↓x_g6, ↓x_v6, ↓x_g7, ↓x_v7, ↓x_g8, ↓x_v8, ↓x_g9, ↓x_v9, ↓x_g10, ↓x_v10, ↓x_g11, ↓x_v11, ↓x_g12, ↓x_v12, ↓x_g13, ↓x_v13, ↓x_g14, ↓x_v14, ↓x_g15, ↓x_v15, ↓x_g16, ↓x_v16, ↓x_g17, ↓x_v17, ↓x_g18, ↓x_v18, ↓x_g19, ↓x_v19, ↓x_gt2, ↓x_gt3, ↓x_gt4, ↓x_gt5, ↓x_gt6, ↓x_gc, ↓x_gn, ↓x_par2, ↓x_p2, ↓x_par3, ↓x_p3, ↓x_C, ↓x_op, ↓x_test, ↓x_chain, ↓x_andT, ↓x_orT, ↓x_notT, ↓x_ifE, ↓x_andV, ↓x_orV, ↓x_notV, ↓x_nil, ↓x_cons, ↓x_star, ↓x_tup, ↓x_lst, ↓x_callB, ↓x_call, ↓x_callK, ↓x_meth, ↓x_make, ↓x_fld, ↓x_fldS, ↓x_bm0, ↓x_bm, ↓x_sl, ↓x_nop, ↓x_prt, ↓x_neg, ↓x_revL, ↓x_lc, ↓x_for, ↓x_diSeq, ↓x_diEnum, ↓x_rng1, ↓y_addi, ↓y_adds, ↓y_addt, ↓y_int, ↓y_intC, ↓y_is, ↓y_isn, ↓y_nnon, ↓y_nbl, ↓y_nint, ↓y_nstr, ↓y_ntup, ↓y_nref, ↓y_t0, ↓y_t1, ↓y_t2, ↓y_t3, ↓y_m2, ↓y_m3, ↓y_len0, ↓y_len1, ↓y_len2, ↓y_len3, ↓y_len, ↓y_lenS, ↓y_itt, ↓y_iss, ↓y_iii, ↓y_iib, ↓y_i1, ↓y_i1b, ↓y_abs, ↓y_strI, ↓y_slt, ↓y_sls, ↓y_tys, ↓y_gs0, ↓y_gs1, ↓y_gs2, ↓y_gs3, ↓y_gs4, ↓y_gs5, ↓y_gs6, ↓y_gs7, ↓bIn_2, ↓bNotIn_2, ↓bEq_int, ↓bNe_int, wipeD, List.map_cons, List.map_nil, List.set_cons_zero, List.set_cons_succ, Option.some.injEq, exists_and_left, exists_eq_left', exists_eq_left, decide_true, decide_false, Bool.false_eq_true, reduceIte, Bool.not_true, Bool.not_false, List.length_cons, List.length_nil, Nat.reduceAdd, Nat.zero_add, line16, Nat.reduceLeDiff, Int.reduceEq, Int.reduceLT, Int.reduceLE, Int.reduceNeg, Int.cast_ofNat_Int, or_true, true_or, or_self, or_false, false_or, true_and, and_true, and_self, List.cons_append, List.nil_append, List.append_nil, forall_const]
      simp only [beq_self_eq_true, Bool.not_true, ↓x_seq, ↓x_next, ↓x_ret, ↓x_retN, ↓x_drop, ↓x_if, ↓x_asg, ↓x_false, ↓x_brk, ↓x_cnt, ↓x_g0, ↓x_v0, ↓x_g1, ↓x_v1, ↓x_g2, ↓x_v2, ↓x_g3, ↓x_v3, ↓x_g4, ↓x_v4, ↓x_g5, ↓x_v5, ↓x_g6, ↓x_v6, ↓x_g7, ↓x_v7, ↓x_g8, ↓x_v8, ↓x_g9, ↓x_v9, ↓x_g10, ↓x_v10, ↓x_g11, ↓x_v11, ↓x_g12, ↓x_v12, ↓x_g13, ↓x_v13, ↓x_g14, ↓x_v14, ↓x_g15, ↓x_v15, ↓x_g16, ↓x_v16, ↓x_g17, ↓x_v17, ↓x_g18, ↓x_v18, ↓x_g19, ↓x_v19, ↓x_gt2, ↓x_gt3, ↓x_gt4, ↓x_gt5, ↓x_gt6, ↓x_gc, ↓x_gn, ↓x_par2, ↓x_p2, ↓x_par3, ↓x_p3, ↓x_C, ↓x_op, ↓x_test, ↓x_chain, ↓x_andT, ↓x_orT, ↓x_notT, ↓x_ifE, ↓x_andV, ↓x_orV, ↓x_notV, ↓x_nil, ↓x_cons, ↓x_star, ↓x_tup, ↓x_lst, ↓x_callB, ↓x_call, ↓x_callK, ↓x_meth, ↓x_make, ↓x_fld, ↓x_fldS, ↓x_bm0, ↓x_bm, ↓x_sl, ↓x_nop, ↓x_prt, ↓x_neg, ↓x_revL, ↓x_lc, ↓x_for, ↓x_diSeq, ↓x_diEnum, ↓x_rng1, ↓y_addi, ↓y_adds, ↓y_addt, ↓y_int, ↓y_intC, ↓y_is, ↓y_isn, ↓y_nnon, ↓y_nbl, ↓y_nint, ↓y_nstr, ↓y_ntup, ↓y_nref, ↓y_t0, ↓y_t1, ↓y_t2, ↓y_t3, ↓y_m2, ↓y_m3, ↓y_len0, ↓y_len1, ↓y_len2, ↓y_len3, ↓y_len, ↓y_lenS, ↓y_itt, ↓y_iss, ↓y_iii, ↓y_iib, ↓y_i1, ↓y_i1b, ↓y_abs, ↓y_strI, ↓y_slt, ↓y_sls, ↓y_tys, ↓y_gs0, ↓y_gs1, ↓y_gs2, ↓y_gs3, ↓y_gs4, ↓y_gs5, ↓y_gs6, ↓y_gs7, ↓bIn_2, ↓bNotIn_2, ↓bEq_int, ↓bNe_int, wipeD, List.map_cons, List.map_nil, List.set_cons_zero, List.set_cons_succ, Option.some.injEq, exists_and_left, exists_eq_left', exists_eq_left, decide_true, decide_false, Bool.false_eq_true, reduceIte, Bool.not_true, Bool.not_false, List.length_cons, List.length_nil, Nat.reduceAdd, Nat.zero_add, line16, Nat.reduceLeDiff, Int.reduceEq, Int.reduceLT, Int.reduceLE, Int.reduceNeg, Int.cast_ofNat_Int, or_true, true_or, or_self, or_false, false_or, true_and, and_true, and_self, List.cons_append, List.nil_append, List.append_nil, forall_const]
      exact go _ hD3 hK3
end
end K76
namespace K76
open PySem PySem.Spec PyProof.Rows L2 DL
theorem all_mk {P : Program} {w : World} {K : PySem.W.Frag} {h : Heap} {mg : Str → Option Value} {fa : Addr} (X : K.In h) (G : h.Ns mainGlobals mg) (isLaw : mg "law" = some (.ref fa))
    {t_MAX_ROOMS t_MAX_PARTS t_MAX_DEEP t_FIGURES : Tok}
    {C_ProgramReader f_is_integer f_is_within f_are_programs f_is_part f_within f_part_error f_program_error f_in_brackets f_part_text f_program_text f_ProgramReader___init__ f_ProgramReader_takes f_ProgramReader_need f_ProgramReader_bracketed f_ProgramReader_parts f_ProgramReader_room f_ProgramReader_one_part f_read_program f__law_deck f__law_draw f__law_pick f__law_parts f__law_part f__law_program f__law_count f__law_program_error f__law_first_error f__law_lots f__law_text f__law_near f_law : Addr} {oc_is_integer kV_is_integer dc_is_integer pm_is_integer cd_is_integer ct_is_integer oc_is_within kV_is_within dc_is_within pm_is_within cd_is_within ct_is_within oc_are_programs kV_are_programs dc_are_programs pm_are_programs cd_are_programs ct_are_programs oc_is_part kV_is_part dc_is_part pm_is_part cd_is_part ct_is_part oc_within kV_within dc_within pm_within cd_within ct_within oc_part_error kV_part_error dc_part_error pm_part_error cd_part_error ct_part_error oc_program_error kV_program_error dc_program_error pm_program_error cd_program_error ct_program_error oc_in_brackets kV_in_brackets dc_in_brackets pm_in_brackets cd_in_brackets ct_in_brackets oc_part_text kV_part_text dc_part_text pm_part_text cd_part_text ct_part_text oc_program_text kV_program_text dc_program_text pm_program_text cd_program_text ct_program_text oc_ProgramReader___init__ kV_ProgramReader___init__ dc_ProgramReader___init__ pm_ProgramReader___init__ cd_ProgramReader___init__ ct_ProgramReader___init__ oc_ProgramReader_takes kV_ProgramReader_takes dc_ProgramReader_takes pm_ProgramReader_takes cd_ProgramReader_takes ct_ProgramReader_takes oc_ProgramReader_need kV_ProgramReader_need dc_ProgramReader_need pm_ProgramReader_need cd_ProgramReader_need ct_ProgramReader_need oc_ProgramReader_bracketed kV_ProgramReader_bracketed dc_ProgramReader_bracketed pm_ProgramReader_bracketed cd_ProgramReader_bracketed ct_ProgramReader_bracketed oc_ProgramReader_parts kV_ProgramReader_parts dc_ProgramReader_parts pm_ProgramReader_parts cd_ProgramReader_parts ct_ProgramReader_parts oc_ProgramReader_room kV_ProgramReader_room dc_ProgramReader_room pm_ProgramReader_room cd_ProgramReader_room ct_ProgramReader_room oc_ProgramReader_one_part kV_ProgramReader_one_part dc_ProgramReader_one_part pm_ProgramReader_one_part cd_ProgramReader_one_part ct_ProgramReader_one_part oc_read_program kV_read_program dc_read_program pm_read_program cd_read_program ct_read_program oc__law_deck kV__law_deck dc__law_deck pm__law_deck cd__law_deck ct__law_deck oc__law_draw kV__law_draw dc__law_draw pm__law_draw cd__law_draw ct__law_draw oc__law_pick kV__law_pick dc__law_pick pm__law_pick cd__law_pick ct__law_pick oc__law_parts kV__law_parts dc__law_parts pm__law_parts cd__law_parts ct__law_parts oc__law_part kV__law_part dc__law_part pm__law_part cd__law_part ct__law_part oc__law_program kV__law_program dc__law_program pm__law_program cd__law_program ct__law_program oc__law_count kV__law_count dc__law_count pm__law_count cd__law_count ct__law_count oc__law_program_error kV__law_program_error dc__law_program_error pm__law_program_error cd__law_program_error ct__law_program_error oc__law_first_error kV__law_first_error dc__law_first_error pm__law_first_error cd__law_first_error ct__law_first_error oc__law_lots kV__law_lots dc__law_lots pm__law_lots cd__law_lots ct__law_lots oc__law_text kV__law_text dc__law_text pm__law_text cd__law_text ct__law_text oc__law_near kV__law_near dc__law_near pm__law_near cd__law_near ct__law_near oc_law kV_law dc_law pm_law cd_law ct_law : Value} {od_is_integer an_is_integer od_is_within an_is_within od_are_programs an_are_programs od_is_part an_is_part od_within an_within od_part_error an_part_error od_program_error an_program_error od_in_brackets an_in_brackets od_part_text an_part_text od_program_text an_program_text od_ProgramReader___init__ an_ProgramReader___init__ od_ProgramReader_takes an_ProgramReader_takes od_ProgramReader_need an_ProgramReader_need od_ProgramReader_bracketed an_ProgramReader_bracketed od_ProgramReader_parts an_ProgramReader_parts od_ProgramReader_room an_ProgramReader_room od_ProgramReader_one_part an_ProgramReader_one_part od_read_program an_read_program od__law_deck an__law_deck od__law_draw an__law_draw od__law_pick an__law_pick od__law_parts an__law_parts od__law_part an__law_part od__law_program an__law_program od__law_count an__law_count od__law_program_error an__law_program_error od__law_first_error an__law_first_error od__law_lots an__law_lots od__law_text an__law_text od__law_near an__law_near od_law an_law : Option Addr} {sl_is_integer sl_is_within sl_are_programs sl_is_part sl_within sl_part_error sl_program_error sl_in_brackets sl_part_text sl_program_text sl_ProgramReader___init__ sl_ProgramReader_takes sl_ProgramReader_need sl_ProgramReader_bracketed sl_ProgramReader_parts sl_ProgramReader_room sl_ProgramReader_one_part sl_read_program sl__law_deck sl__law_draw sl__law_pick sl__law_parts sl__law_part sl__law_program sl__law_count sl__law_program_error sl__law_first_error sl__law_lots sl__law_text sl__law_near sl_law : Array (Option Value)}
    (z_range : PySem.W.nsIn K mainGlobals "range" = some none)
    (z_enumerate : PySem.W.nsIn K mainGlobals "enumerate" = some none)
    (z_isinstance : PySem.W.nsIn K mainGlobals "isinstance" = some none)
    (z_int : PySem.W.nsIn K mainGlobals "int" = some none)
    (z_tuple : PySem.W.nsIn K mainGlobals "tuple" = some none)
    (z_all : PySem.W.nsIn K mainGlobals "all" = some none)
    (z_len : PySem.W.nsIn K mainGlobals "len" = some none)
    (z_str : PySem.W.nsIn K mainGlobals "str" = some none)
    (z_abs : PySem.W.nsIn K mainGlobals "abs" = some none)
    (z_list : PySem.W.nsIn K mainGlobals "list" = some none)
    (z_bool : PySem.W.nsIn K mainGlobals "bool" = some none)
    (z_repr : PySem.W.nsIn K mainGlobals "repr" = some none)
    (e_MAX_ROOMS : PySem.W.nsIn K mainGlobals "MAX_ROOMS" = some (some (.int 6 t_MAX_ROOMS)))
    (e_MAX_PARTS : PySem.W.nsIn K mainGlobals "MAX_PARTS" = some (some (.int 12 t_MAX_PARTS)))
    (e_MAX_DEEP : PySem.W.nsIn K mainGlobals "MAX_DEEP" = some (some (.int 5 t_MAX_DEEP)))
    (e_FIGURES : PySem.W.nsIn K mainGlobals "FIGURES" = some (some (.str "0123456789" t_FIGURES)))
    (g_ProgramReader : PySem.W.nsIn K mainGlobals "ProgramReader" = some (some (.ref C_ProgramReader)))
    (a_is_integer : PySem.W.nsIn K mainGlobals "is_integer" = some (some (.ref f_is_integer)))
    (l_is_integer : K.lookup f_is_integer = some ⟨oc_is_integer, od_is_integer, .func (PySem.W.fnOf "is_integer" "is_integer" (defArgs s_is_integer) (defBody s_is_integer) (defScope s_is_integer) .none kV_is_integer dc_is_integer pm_is_integer an_is_integer cd_is_integer ct_is_integer), sl_is_integer⟩)
    (c_is_integer : PySem.W.codeIn K cd_is_integer "is_integer" = true)
    (k_is_integer : PySem.W.keepIn K (.ref f_is_integer) = true)
    (a_is_within : PySem.W.nsIn K mainGlobals "is_within" = some (some (.ref f_is_within)))
    (l_is_within : K.lookup f_is_within = some ⟨oc_is_within, od_is_within, .func (PySem.W.fnOf "is_within" "is_within" (defArgs s_is_within) (defBody s_is_within) (defScope s_is_within) .none kV_is_within dc_is_within pm_is_within an_is_within cd_is_within ct_is_within), sl_is_within⟩)
    (c_is_within : PySem.W.codeIn K cd_is_within "is_within" = true)
    (k_is_within : PySem.W.keepIn K (.ref f_is_within) = true)
    (a_are_programs : PySem.W.nsIn K mainGlobals "are_programs" = some (some (.ref f_are_programs)))
    (l_are_programs : K.lookup f_are_programs = some ⟨oc_are_programs, od_are_programs, .func (PySem.W.fnOf "are_programs" "are_programs" (defArgs s_are_programs) (defBody s_are_programs) (defScope s_are_programs) .none kV_are_programs dc_are_programs pm_are_programs an_are_programs cd_are_programs ct_are_programs), sl_are_programs⟩)
    (c_are_programs : PySem.W.codeIn K cd_are_programs "are_programs" = true)
    (k_are_programs : PySem.W.keepIn K (.ref f_are_programs) = true)
    (a_is_part : PySem.W.nsIn K mainGlobals "is_part" = some (some (.ref f_is_part)))
    (l_is_part : K.lookup f_is_part = some ⟨oc_is_part, od_is_part, .func (PySem.W.fnOf "is_part" "is_part" (defArgs s_is_part) (defBody s_is_part) (defScope s_is_part) .none kV_is_part dc_is_part pm_is_part an_is_part cd_is_part ct_is_part), sl_is_part⟩)
    (c_is_part : PySem.W.codeIn K cd_is_part "is_part" = true)
    (k_is_part : PySem.W.keepIn K (.ref f_is_part) = true)
    (a_within : PySem.W.nsIn K mainGlobals "within" = some (some (.ref f_within)))
    (l_within : K.lookup f_within = some ⟨oc_within, od_within, .func (PySem.W.fnOf "within" "within" (defArgs s_within) (defBody s_within) (defScope s_within) .none kV_within dc_within pm_within an_within cd_within ct_within), sl_within⟩)
    (c_within : PySem.W.codeIn K cd_within "within" = true)
    (k_within : PySem.W.keepIn K (.ref f_within) = true)
    (a_part_error : PySem.W.nsIn K mainGlobals "part_error" = some (some (.ref f_part_error)))
    (l_part_error : K.lookup f_part_error = some ⟨oc_part_error, od_part_error, .func (PySem.W.fnOf "part_error" "part_error" (defArgs s_part_error) (defBody s_part_error) (defScope s_part_error) .none kV_part_error dc_part_error pm_part_error an_part_error cd_part_error ct_part_error), sl_part_error⟩)
    (c_part_error : PySem.W.codeIn K cd_part_error "part_error" = true)
    (k_part_error : PySem.W.keepIn K (.ref f_part_error) = true)
    (a_program_error : PySem.W.nsIn K mainGlobals "program_error" = some (some (.ref f_program_error)))
    (l_program_error : K.lookup f_program_error = some ⟨oc_program_error, od_program_error, .func (PySem.W.fnOf "program_error" "program_error" (defArgs s_program_error) (defBody s_program_error) (defScope s_program_error) .none kV_program_error dc_program_error pm_program_error an_program_error cd_program_error ct_program_error), sl_program_error⟩)
    (c_program_error : PySem.W.codeIn K cd_program_error "program_error" = true)
    (k_program_error : PySem.W.keepIn K (.ref f_program_error) = true)
    (a_in_brackets : PySem.W.nsIn K mainGlobals "in_brackets" = some (some (.ref f_in_brackets)))
    (l_in_brackets : K.lookup f_in_brackets = some ⟨oc_in_brackets, od_in_brackets, .func (PySem.W.fnOf "in_brackets" "in_brackets" (defArgs s_in_brackets) (defBody s_in_brackets) (defScope s_in_brackets) .none kV_in_brackets dc_in_brackets pm_in_brackets an_in_brackets cd_in_brackets ct_in_brackets), sl_in_brackets⟩)
    (c_in_brackets : PySem.W.codeIn K cd_in_brackets "in_brackets" = true)
    (k_in_brackets : PySem.W.keepIn K (.ref f_in_brackets) = true)
    (a_part_text : PySem.W.nsIn K mainGlobals "part_text" = some (some (.ref f_part_text)))
    (l_part_text : K.lookup f_part_text = some ⟨oc_part_text, od_part_text, .func (PySem.W.fnOf "part_text" "part_text" (defArgs s_part_text) (defBody s_part_text) (defScope s_part_text) .none kV_part_text dc_part_text pm_part_text an_part_text cd_part_text ct_part_text), sl_part_text⟩)
    (c_part_text : PySem.W.codeIn K cd_part_text "part_text" = true)
    (k_part_text : PySem.W.keepIn K (.ref f_part_text) = true)
    (a_program_text : PySem.W.nsIn K mainGlobals "program_text" = some (some (.ref f_program_text)))
    (l_program_text : K.lookup f_program_text = some ⟨oc_program_text, od_program_text, .func (PySem.W.fnOf "program_text" "program_text" (defArgs s_program_text) (defBody s_program_text) (defScope s_program_text) .none kV_program_text dc_program_text pm_program_text an_program_text cd_program_text ct_program_text), sl_program_text⟩)
    (c_program_text : PySem.W.codeIn K cd_program_text "program_text" = true)
    (k_program_text : PySem.W.keepIn K (.ref f_program_text) = true)
    (a_ProgramReader___init__ : PySem.W.findIn K (.ref C_ProgramReader) "__init__" = some (some (.ref f_ProgramReader___init__)))
    (i_ProgramReader___init__ : PySem.W.isFn K (.ref f_ProgramReader___init__) = true)
    (l_ProgramReader___init__ : K.lookup f_ProgramReader___init__ = some ⟨oc_ProgramReader___init__, od_ProgramReader___init__, .func (PySem.W.fnOf "__init__" "ProgramReader.__init__" (defArgs s_ProgramReader___init__) (defBody s_ProgramReader___init__) (defScope s_ProgramReader___init__) .none kV_ProgramReader___init__ dc_ProgramReader___init__ pm_ProgramReader___init__ an_ProgramReader___init__ cd_ProgramReader___init__ ct_ProgramReader___init__), sl_ProgramReader___init__⟩)
    (c_ProgramReader___init__ : PySem.W.codeIn K cd_ProgramReader___init__ "ProgramReader.__init__" = true)
    (k_ProgramReader___init__ : PySem.W.keepIn K (.ref f_ProgramReader___init__) = true)
    (a_ProgramReader_takes : PySem.W.findIn K (.ref C_ProgramReader) "takes" = some (some (.ref f_ProgramReader_takes)))
    (i_ProgramReader_takes : PySem.W.isFn K (.ref f_ProgramReader_takes) = true)
    (l_ProgramReader_takes : K.lookup f_ProgramReader_takes = some ⟨oc_ProgramReader_takes, od_ProgramReader_takes, .func (PySem.W.fnOf "takes" "ProgramReader.takes" (defArgs s_ProgramReader_takes) (defBody s_ProgramReader_takes) (defScope s_ProgramReader_takes) .none kV_ProgramReader_takes dc_ProgramReader_takes pm_ProgramReader_takes an_ProgramReader_takes cd_ProgramReader_takes ct_ProgramReader_takes), sl_ProgramReader_takes⟩)
    (c_ProgramReader_takes : PySem.W.codeIn K cd_ProgramReader_takes "ProgramReader.takes" = true)
    (k_ProgramReader_takes : PySem.W.keepIn K (.ref f_ProgramReader_takes) = true)
    (a_ProgramReader_need : PySem.W.findIn K (.ref C_ProgramReader) "need" = some (some (.ref f_ProgramReader_need)))
    (i_ProgramReader_need : PySem.W.isFn K (.ref f_ProgramReader_need) = true)
    (l_ProgramReader_need : K.lookup f_ProgramReader_need = some ⟨oc_ProgramReader_need, od_ProgramReader_need, .func (PySem.W.fnOf "need" "ProgramReader.need" (defArgs s_ProgramReader_need) (defBody s_ProgramReader_need) (defScope s_ProgramReader_need) .none kV_ProgramReader_need dc_ProgramReader_need pm_ProgramReader_need an_ProgramReader_need cd_ProgramReader_need ct_ProgramReader_need), sl_ProgramReader_need⟩)
    (c_ProgramReader_need : PySem.W.codeIn K cd_ProgramReader_need "ProgramReader.need" = true)
    (k_ProgramReader_need : PySem.W.keepIn K (.ref f_ProgramReader_need) = true)
    (a_ProgramReader_bracketed : PySem.W.findIn K (.ref C_ProgramReader) "bracketed" = some (some (.ref f_ProgramReader_bracketed)))
    (i_ProgramReader_bracketed : PySem.W.isFn K (.ref f_ProgramReader_bracketed) = true)
    (l_ProgramReader_bracketed : K.lookup f_ProgramReader_bracketed = some ⟨oc_ProgramReader_bracketed, od_ProgramReader_bracketed, .func (PySem.W.fnOf "bracketed" "ProgramReader.bracketed" (defArgs s_ProgramReader_bracketed) (defBody s_ProgramReader_bracketed) (defScope s_ProgramReader_bracketed) .none kV_ProgramReader_bracketed dc_ProgramReader_bracketed pm_ProgramReader_bracketed an_ProgramReader_bracketed cd_ProgramReader_bracketed ct_ProgramReader_bracketed), sl_ProgramReader_bracketed⟩)
    (c_ProgramReader_bracketed : PySem.W.codeIn K cd_ProgramReader_bracketed "ProgramReader.bracketed" = true)
    (k_ProgramReader_bracketed : PySem.W.keepIn K (.ref f_ProgramReader_bracketed) = true)
    (a_ProgramReader_parts : PySem.W.findIn K (.ref C_ProgramReader) "parts" = some (some (.ref f_ProgramReader_parts)))
    (i_ProgramReader_parts : PySem.W.isFn K (.ref f_ProgramReader_parts) = true)
    (l_ProgramReader_parts : K.lookup f_ProgramReader_parts = some ⟨oc_ProgramReader_parts, od_ProgramReader_parts, .func (PySem.W.fnOf "parts" "ProgramReader.parts" (defArgs s_ProgramReader_parts) (defBody s_ProgramReader_parts) (defScope s_ProgramReader_parts) .none kV_ProgramReader_parts dc_ProgramReader_parts pm_ProgramReader_parts an_ProgramReader_parts cd_ProgramReader_parts ct_ProgramReader_parts), sl_ProgramReader_parts⟩)
    (c_ProgramReader_parts : PySem.W.codeIn K cd_ProgramReader_parts "ProgramReader.parts" = true)
    (k_ProgramReader_parts : PySem.W.keepIn K (.ref f_ProgramReader_parts) = true)
    (a_ProgramReader_room : PySem.W.findIn K (.ref C_ProgramReader) "room" = some (some (.ref f_ProgramReader_room)))
    (i_ProgramReader_room : PySem.W.isFn K (.ref f_ProgramReader_room) = true)
    (l_ProgramReader_room : K.lookup f_ProgramReader_room = some ⟨oc_ProgramReader_room, od_ProgramReader_room, .func (PySem.W.fnOf "room" "ProgramReader.room" (defArgs s_ProgramReader_room) (defBody s_ProgramReader_room) (defScope s_ProgramReader_room) .none kV_ProgramReader_room dc_ProgramReader_room pm_ProgramReader_room an_ProgramReader_room cd_ProgramReader_room ct_ProgramReader_room), sl_ProgramReader_room⟩)
    (c_ProgramReader_room : PySem.W.codeIn K cd_ProgramReader_room "ProgramReader.room" = true)
    (k_ProgramReader_room : PySem.W.keepIn K (.ref f_ProgramReader_room) = true)
    (a_ProgramReader_one_part : PySem.W.findIn K (.ref C_ProgramReader) "one_part" = some (some (.ref f_ProgramReader_one_part)))
    (i_ProgramReader_one_part : PySem.W.isFn K (.ref f_ProgramReader_one_part) = true)
    (l_ProgramReader_one_part : K.lookup f_ProgramReader_one_part = some ⟨oc_ProgramReader_one_part, od_ProgramReader_one_part, .func (PySem.W.fnOf "one_part" "ProgramReader.one_part" (defArgs s_ProgramReader_one_part) (defBody s_ProgramReader_one_part) (defScope s_ProgramReader_one_part) .none kV_ProgramReader_one_part dc_ProgramReader_one_part pm_ProgramReader_one_part an_ProgramReader_one_part cd_ProgramReader_one_part ct_ProgramReader_one_part), sl_ProgramReader_one_part⟩)
    (c_ProgramReader_one_part : PySem.W.codeIn K cd_ProgramReader_one_part "ProgramReader.one_part" = true)
    (k_ProgramReader_one_part : PySem.W.keepIn K (.ref f_ProgramReader_one_part) = true)
    (a_read_program : PySem.W.nsIn K mainGlobals "read_program" = some (some (.ref f_read_program)))
    (l_read_program : K.lookup f_read_program = some ⟨oc_read_program, od_read_program, .func (PySem.W.fnOf "read_program" "read_program" (defArgs s_read_program) (defBody s_read_program) (defScope s_read_program) .none kV_read_program dc_read_program pm_read_program an_read_program cd_read_program ct_read_program), sl_read_program⟩)
    (c_read_program : PySem.W.codeIn K cd_read_program "read_program" = true)
    (k_read_program : PySem.W.keepIn K (.ref f_read_program) = true)
    (a__law_deck : PySem.W.nsIn K mainGlobals "_law_deck" = some (some (.ref f__law_deck)))
    (l__law_deck : K.lookup f__law_deck = some ⟨oc__law_deck, od__law_deck, .func (PySem.W.fnOf "_law_deck" "_law_deck" (defArgs s__law_deck) (defBody s__law_deck) (defScope s__law_deck) .none kV__law_deck dc__law_deck pm__law_deck an__law_deck cd__law_deck ct__law_deck), sl__law_deck⟩)
    (c__law_deck : PySem.W.codeIn K cd__law_deck "_law_deck" = true)
    (k__law_deck : PySem.W.keepIn K (.ref f__law_deck) = true)
    (a__law_draw : PySem.W.nsIn K mainGlobals "_law_draw" = some (some (.ref f__law_draw)))
    (l__law_draw : K.lookup f__law_draw = some ⟨oc__law_draw, od__law_draw, .func (PySem.W.fnOf "_law_draw" "_law_draw" (defArgs s__law_draw) (defBody s__law_draw) (defScope s__law_draw) .none kV__law_draw dc__law_draw pm__law_draw an__law_draw cd__law_draw ct__law_draw), sl__law_draw⟩)
    (c__law_draw : PySem.W.codeIn K cd__law_draw "_law_draw" = true)
    (k__law_draw : PySem.W.keepIn K (.ref f__law_draw) = true)
    (a__law_pick : PySem.W.nsIn K mainGlobals "_law_pick" = some (some (.ref f__law_pick)))
    (l__law_pick : K.lookup f__law_pick = some ⟨oc__law_pick, od__law_pick, .func (PySem.W.fnOf "_law_pick" "_law_pick" (defArgs s__law_pick) (defBody s__law_pick) (defScope s__law_pick) .none kV__law_pick dc__law_pick pm__law_pick an__law_pick cd__law_pick ct__law_pick), sl__law_pick⟩)
    (c__law_pick : PySem.W.codeIn K cd__law_pick "_law_pick" = true)
    (k__law_pick : PySem.W.keepIn K (.ref f__law_pick) = true)
    (a__law_parts : PySem.W.nsIn K mainGlobals "_law_parts" = some (some (.ref f__law_parts)))
    (l__law_parts : K.lookup f__law_parts = some ⟨oc__law_parts, od__law_parts, .func (PySem.W.fnOf "_law_parts" "_law_parts" (defArgs s__law_parts) (defBody s__law_parts) (defScope s__law_parts) .none kV__law_parts dc__law_parts pm__law_parts an__law_parts cd__law_parts ct__law_parts), sl__law_parts⟩)
    (c__law_parts : PySem.W.codeIn K cd__law_parts "_law_parts" = true)
    (k__law_parts : PySem.W.keepIn K (.ref f__law_parts) = true)
    (a__law_part : PySem.W.nsIn K mainGlobals "_law_part" = some (some (.ref f__law_part)))
    (l__law_part : K.lookup f__law_part = some ⟨oc__law_part, od__law_part, .func (PySem.W.fnOf "_law_part" "_law_part" (defArgs s__law_part) (defBody s__law_part) (defScope s__law_part) .none kV__law_part dc__law_part pm__law_part an__law_part cd__law_part ct__law_part), sl__law_part⟩)
    (c__law_part : PySem.W.codeIn K cd__law_part "_law_part" = true)
    (k__law_part : PySem.W.keepIn K (.ref f__law_part) = true)
    (a__law_program : PySem.W.nsIn K mainGlobals "_law_program" = some (some (.ref f__law_program)))
    (l__law_program : K.lookup f__law_program = some ⟨oc__law_program, od__law_program, .func (PySem.W.fnOf "_law_program" "_law_program" (defArgs s__law_program) (defBody s__law_program) (defScope s__law_program) .none kV__law_program dc__law_program pm__law_program an__law_program cd__law_program ct__law_program), sl__law_program⟩)
    (c__law_program : PySem.W.codeIn K cd__law_program "_law_program" = true)
    (k__law_program : PySem.W.keepIn K (.ref f__law_program) = true)
    (a__law_count : PySem.W.nsIn K mainGlobals "_law_count" = some (some (.ref f__law_count)))
    (l__law_count : K.lookup f__law_count = some ⟨oc__law_count, od__law_count, .func (PySem.W.fnOf "_law_count" "_law_count" (defArgs s__law_count) (defBody s__law_count) (defScope s__law_count) .none kV__law_count dc__law_count pm__law_count an__law_count cd__law_count ct__law_count), sl__law_count⟩)
    (c__law_count : PySem.W.codeIn K cd__law_count "_law_count" = true)
    (k__law_count : PySem.W.keepIn K (.ref f__law_count) = true)
    (a__law_program_error : PySem.W.nsIn K mainGlobals "_law_program_error" = some (some (.ref f__law_program_error)))
    (l__law_program_error : K.lookup f__law_program_error = some ⟨oc__law_program_error, od__law_program_error, .func (PySem.W.fnOf "_law_program_error" "_law_program_error" (defArgs s__law_program_error) (defBody s__law_program_error) (defScope s__law_program_error) .none kV__law_program_error dc__law_program_error pm__law_program_error an__law_program_error cd__law_program_error ct__law_program_error), sl__law_program_error⟩)
    (c__law_program_error : PySem.W.codeIn K cd__law_program_error "_law_program_error" = true)
    (k__law_program_error : PySem.W.keepIn K (.ref f__law_program_error) = true)
    (a__law_first_error : PySem.W.nsIn K mainGlobals "_law_first_error" = some (some (.ref f__law_first_error)))
    (l__law_first_error : K.lookup f__law_first_error = some ⟨oc__law_first_error, od__law_first_error, .func (PySem.W.fnOf "_law_first_error" "_law_first_error" (defArgs s__law_first_error) (defBody s__law_first_error) (defScope s__law_first_error) .none kV__law_first_error dc__law_first_error pm__law_first_error an__law_first_error cd__law_first_error ct__law_first_error), sl__law_first_error⟩)
    (c__law_first_error : PySem.W.codeIn K cd__law_first_error "_law_first_error" = true)
    (k__law_first_error : PySem.W.keepIn K (.ref f__law_first_error) = true)
    (a__law_lots : PySem.W.nsIn K mainGlobals "_law_lots" = some (some (.ref f__law_lots)))
    (l__law_lots : K.lookup f__law_lots = some ⟨oc__law_lots, od__law_lots, .func (PySem.W.fnOf "_law_lots" "_law_lots" (defArgs s__law_lots) (defBody s__law_lots) (defScope s__law_lots) .none kV__law_lots dc__law_lots pm__law_lots an__law_lots cd__law_lots ct__law_lots), sl__law_lots⟩)
    (c__law_lots : PySem.W.codeIn K cd__law_lots "_law_lots" = true)
    (k__law_lots : PySem.W.keepIn K (.ref f__law_lots) = true)
    (a__law_text : PySem.W.nsIn K mainGlobals "_law_text" = some (some (.ref f__law_text)))
    (l__law_text : K.lookup f__law_text = some ⟨oc__law_text, od__law_text, .func (PySem.W.fnOf "_law_text" "_law_text" (defArgs s__law_text) (defBody s__law_text) (defScope s__law_text) .none kV__law_text dc__law_text pm__law_text an__law_text cd__law_text ct__law_text), sl__law_text⟩)
    (c__law_text : PySem.W.codeIn K cd__law_text "_law_text" = true)
    (k__law_text : PySem.W.keepIn K (.ref f__law_text) = true)
    (a__law_near : PySem.W.nsIn K mainGlobals "_law_near" = some (some (.ref f__law_near)))
    (l__law_near : K.lookup f__law_near = some ⟨oc__law_near, od__law_near, .func (PySem.W.fnOf "_law_near" "_law_near" (defArgs s__law_near) (defBody s__law_near) (defScope s__law_near) .none kV__law_near dc__law_near pm__law_near an__law_near cd__law_near ct__law_near), sl__law_near⟩)
    (c__law_near : PySem.W.codeIn K cd__law_near "_law_near" = true)
    (k__law_near : PySem.W.keepIn K (.ref f__law_near) = true)
    (a_law : PySem.W.nsIn K mainGlobals "law" = some (some (.ref f_law)))
    (l_law : K.lookup f_law = some ⟨oc_law, od_law, .func (PySem.W.fnOf "law" "law" (defArgs s_law) (defBody s_law) (defScope s_law) .none kV_law dc_law pm_law an_law cd_law ct_law), sl_law⟩)
    (c_law : PySem.W.codeIn K cd_law "law" = true)
    (k_law : PySem.W.keepIn K (.ref f_law) = true)
    (pg_ProgramReader : PySem.W.plainGet K C_ProgramReader Str.empty = true)
    (hd_ProgramReader : PySem.W.hasDictIn K C_ProgramReader = true)
    (po_ProgramReader : PySem.W.plainOver K C_ProgramReader = true)
    (sa_ProgramReader : PySem.W.findIn K (.ref C_ProgramReader) "__setattr__" = some (some (.builtin "object.__setattr__")))
    (mk_ProgramReader : PySem.W.makesIn K C_ProgramReader = true)
    (kc_ProgramReader : PySem.W.keepIn K (.ref C_ProgramReader) = true)
    (na_text : PySem.W.findIn K (.ref C_ProgramReader) "text" = some none)
    (na_place : PySem.W.findIn K (.ref C_ProgramReader) "place" = some none)
    : ∃ fd : FuncData, (∀ (s : Shared) (u : Value), BindsTo s fd ⟨[u], []⟩ [("script", u)]) ∧ ∀ base : Heap, K.In base → base.Ns mainGlobals mg → DFn P w K mg base CX0 60 fa fd ["script"] sp_law := by
  have e := isLaw.symm.trans (PySem.W.mg_of X G a_law)
  cases e
  exact ⟨PySem.W.fnOf "law" "law" (defArgs s_law) (defBody s_law) (defScope s_law) .none kV_law dc_law pm_law an_law cd_law ct_law, fun s u => .of_eq rfl, fun base _ _ => ok_law (T := {
    n_range := PySem.W.mg_none_of X G z_range,
    n_enumerate := PySem.W.mg_none_of X G z_enumerate,
    n_isinstance := PySem.W.mg_none_of X G z_isinstance,
    n_int := PySem.W.mg_none_of X G z_int,
    n_tuple := PySem.W.mg_none_of X G z_tuple,
    n_all := PySem.W.mg_none_of X G z_all,
    n_len := PySem.W.mg_none_of X G z_len,
    n_str := PySem.W.mg_none_of X G z_str,
    n_abs := PySem.W.mg_none_of X G z_abs,
    n_list := PySem.W.mg_none_of X G z_list,
    n_bool := PySem.W.mg_none_of X G z_bool,
    n_repr := PySem.W.mg_none_of X G z_repr,
    c_MAX_ROOMS := PySem.W.mg_of X G e_MAX_ROOMS,
    c_MAX_PARTS := PySem.W.mg_of X G e_MAX_PARTS,
    c_MAX_DEEP := PySem.W.mg_of X G e_MAX_DEEP,
    c_FIGURES := PySem.W.mg_of X G e_FIGURES,
    f_is_integer := f_is_integer,
    d_is_integer := _,
    F_is_integer := fun_mk (st := s_is_integer) l_is_integer c_is_integer k_is_integer,
    b_is_integer := (fun_mk (st := s_is_integer) l_is_integer c_is_integer k_is_integer).binds (ps := ["value"]) fun _ _ _ _ _ _ us hl => match us, hl with | [_], _ => rfl,
    g_is_integer := PySem.W.mg_of X G a_is_integer,
    f_is_within := f_is_within,
    d_is_within := _,
    F_is_within := fun_mk (st := s_is_within) l_is_within c_is_within k_is_within,
    b_is_within := (fun_mk (st := s_is_within) l_is_within c_is_within k_is_within).binds (ps := ["value", "low", "high"]) fun _ _ _ _ _ _ us hl => match us, hl with | [_, _, _], _ => rfl,
    g_is_within := PySem.W.mg_of X G a_is_within,
    f_are_programs := f_are_programs,
    d_are_programs := _,
    F_are_programs := fun_mk (st := s_are_programs) l_are_programs c_are_programs k_are_programs,
    b_are_programs := (fun_mk (st := s_are_programs) l_are_programs c_are_programs k_are_programs).binds (ps := ["value"]) fun _ _ _ _ _ _ us hl => match us, hl with | [_], _ => rfl,
    g_are_programs := PySem.W.mg_of X G a_are_programs,
    f_is_part := f_is_part,
    d_is_part := _,
    F_is_part := fun_mk (st := s_is_part) l_is_part c_is_part k_is_part,
    b_is_part := (fun_mk (st := s_is_part) l_is_part c_is_part k_is_part).binds (ps := ["many", "value"]) fun _ _ _ _ _ _ us hl => match us, hl with | [_, _], _ => rfl,
    g_is_part := PySem.W.mg_of X G a_is_part,
    f_within := f_within,
    d_within := _,
    F_within := fun_mk (st := s_within) l_within c_within k_within,
    b_within := (fun_mk (st := s_within) l_within c_within k_within).binds (ps := ["part", "spot"]) fun _ _ _ _ _ _ us hl => match us, hl with | [_, _], _ => rfl,
    g_within := PySem.W.mg_of X G a_within,
    f_part_error := f_part_error,
    d_part_error := _,
    F_part_error := fun_mk (st := s_part_error) l_part_error c_part_error k_part_error,
    b_part_error := (fun_mk (st := s_part_error) l_part_error c_part_error k_part_error).binds (ps := ["many", "value", "spot", "rooms", "deep"]) fun _ _ _ _ _ _ us hl => match us, hl with | [_, _, _, _, _], _ => rfl,
    g_part_error := PySem.W.mg_of X G a_part_error,
    f_program_error := f_program_error,
    d_program_error := _,
    F_program_error := fun_mk (st := s_program_error) l_program_error c_program_error k_program_error,
    b_program_error := (fun_mk (st := s_program_error) l_program_error c_program_error k_program_error).binds (ps := ["many", "value"]) fun _ _ _ _ _ _ us hl => match us, hl with | [_, _], _ => rfl,
    g_program_error := PySem.W.mg_of X G a_program_error,
    f_in_brackets := f_in_brackets,
    d_in_brackets := _,
    F_in_brackets := fun_mk (st := s_in_brackets) l_in_brackets c_in_brackets k_in_brackets,
    b_in_brackets := (fun_mk (st := s_in_brackets) l_in_brackets c_in_brackets k_in_brackets).binds (ps := ["program"]) fun _ _ _ _ _ _ us hl => match us, hl with | [_], _ => rfl,
    g_in_brackets := PySem.W.mg_of X G a_in_brackets,
    f_part_text := f_part_text,
    d_part_text := _,
    F_part_text := fun_mk (st := s_part_text) l_part_text c_part_text k_part_text,
    b_part_text := (fun_mk (st := s_part_text) l_part_text c_part_text k_part_text).binds (ps := ["part"]) fun _ _ _ _ _ _ us hl => match us, hl with | [_], _ => rfl,
    g_part_text := PySem.W.mg_of X G a_part_text,
    f_program_text := f_program_text,
    d_program_text := _,
    F_program_text := fun_mk (st := s_program_text) l_program_text c_program_text k_program_text,
    b_program_text := (fun_mk (st := s_program_text) l_program_text c_program_text k_program_text).binds (ps := ["program"]) fun _ _ _ _ _ _ us hl => match us, hl with | [_], _ => rfl,
    g_program_text := PySem.W.mg_of X G a_program_text,
    f_ProgramReader___init__ := f_ProgramReader___init__,
    d_ProgramReader___init__ := _,
    F_ProgramReader___init__ := fun_mk (st := s_ProgramReader___init__) l_ProgramReader___init__ c_ProgramReader___init__ k_ProgramReader___init__,
    b_ProgramReader___init__ := (fun_mk (st := s_ProgramReader___init__) l_ProgramReader___init__ c_ProgramReader___init__ k_ProgramReader___init__).binds (ps := ["self", "text"]) fun _ _ _ _ _ _ us hl => match us, hl with | [_, _], _ => rfl,
    f_ProgramReader_takes := f_ProgramReader_takes,
    d_ProgramReader_takes := _,
    F_ProgramReader_takes := fun_mk (st := s_ProgramReader_takes) l_ProgramReader_takes c_ProgramReader_takes k_ProgramReader_takes,
    b_ProgramReader_takes := (fun_mk (st := s_ProgramReader_takes) l_ProgramReader_takes c_ProgramReader_takes k_ProgramReader_takes).binds (ps := ["self", "sign"]) fun _ _ _ _ _ _ us hl => match us, hl with | [_, _], _ => rfl,
    m_ProgramReader_takes := ⟨a_ProgramReader_takes, i_ProgramReader_takes, k_ProgramReader_takes⟩,
    f_ProgramReader_need := f_ProgramReader_need,
    d_ProgramReader_need := _,
    F_ProgramReader_need := fun_mk (st := s_ProgramReader_need) l_ProgramReader_need c_ProgramReader_need k_ProgramReader_need,
    b_ProgramReader_need := (fun_mk (st := s_ProgramReader_need) l_ProgramReader_need c_ProgramReader_need k_ProgramReader_need).binds (ps := ["self", "sign"]) fun _ _ _ _ _ _ us hl => match us, hl with | [_, _], _ => rfl,
    m_ProgramReader_need := ⟨a_ProgramReader_need, i_ProgramReader_need, k_ProgramReader_need⟩,
    f_ProgramReader_bracketed := f_ProgramReader_bracketed,
    d_ProgramReader_bracketed := _,
    F_ProgramReader_bracketed := fun_mk (st := s_ProgramReader_bracketed) l_ProgramReader_bracketed c_ProgramReader_bracketed k_ProgramReader_bracketed,
    b_ProgramReader_bracketed := (fun_mk (st := s_ProgramReader_bracketed) l_ProgramReader_bracketed c_ProgramReader_bracketed k_ProgramReader_bracketed).binds (ps := ["self", "deep"]) fun _ _ _ _ _ _ us hl => match us, hl with | [_, _], _ => rfl,
    m_ProgramReader_bracketed := ⟨a_ProgramReader_bracketed, i_ProgramReader_bracketed, k_ProgramReader_bracketed⟩,
    f_ProgramReader_parts := f_ProgramReader_parts,
    d_ProgramReader_parts := _,
    F_ProgramReader_parts := fun_mk (st := s_ProgramReader_parts) l_ProgramReader_parts c_ProgramReader_parts k_ProgramReader_parts,
    b_ProgramReader_parts := (fun_mk (st := s_ProgramReader_parts) l_ProgramReader_parts c_ProgramReader_parts k_ProgramReader_parts).binds (ps := ["self", "deep"]) fun _ _ _ _ _ _ us hl => match us, hl with | [_, _], _ => rfl,
    m_ProgramReader_parts := ⟨a_ProgramReader_parts, i_ProgramReader_parts, k_ProgramReader_parts⟩,
    f_ProgramReader_room := f_ProgramReader_room,
    d_ProgramReader_room := _,
    F_ProgramReader_room := fun_mk (st := s_ProgramReader_room) l_ProgramReader_room c_ProgramReader_room k_ProgramReader_room,
    b_ProgramReader_room := (fun_mk (st := s_ProgramReader_room) l_ProgramReader_room c_ProgramReader_room k_ProgramReader_room).binds (ps := ["self"]) fun _ _ _ _ _ _ us hl => match us, hl with | [_], _ => rfl,
    m_ProgramReader_room := ⟨a_ProgramReader_room, i_ProgramReader_room, k_ProgramReader_room⟩,
    f_ProgramReader_one_part := f_ProgramReader_one_part,
    d_ProgramReader_one_part := _,
    F_ProgramReader_one_part := fun_mk (st := s_ProgramReader_one_part) l_ProgramReader_one_part c_ProgramReader_one_part k_ProgramReader_one_part,
    b_ProgramReader_one_part := (fun_mk (st := s_ProgramReader_one_part) l_ProgramReader_one_part c_ProgramReader_one_part k_ProgramReader_one_part).binds (ps := ["self", "deep"]) fun _ _ _ _ _ _ us hl => match us, hl with | [_, _], _ => rfl,
    m_ProgramReader_one_part := ⟨a_ProgramReader_one_part, i_ProgramReader_one_part, k_ProgramReader_one_part⟩,
    f_read_program := f_read_program,
    d_read_program := _,
    F_read_program := fun_mk (st := s_read_program) l_read_program c_read_program k_read_program,
    b_read_program := (fun_mk (st := s_read_program) l_read_program c_read_program k_read_program).binds (ps := ["value"]) fun _ _ _ _ _ _ us hl => match us, hl with | [_], _ => rfl,
    g_read_program := PySem.W.mg_of X G a_read_program,
    f__law_deck := f__law_deck,
    d__law_deck := _,
    F__law_deck := fun_mk (st := s__law_deck) l__law_deck c__law_deck k__law_deck,
    b__law_deck := (fun_mk (st := s__law_deck) l__law_deck c__law_deck k__law_deck).binds (ps := ["script"]) fun _ _ _ _ _ _ us hl => match us, hl with | [_], _ => rfl,
    g__law_deck := PySem.W.mg_of X G a__law_deck,
    f__law_draw := f__law_draw,
    d__law_draw := _,
    F__law_draw := fun_mk (st := s__law_draw) l__law_draw c__law_draw k__law_draw,
    b__law_draw := (fun_mk (st := s__law_draw) l__law_draw c__law_draw k__law_draw).binds (ps := ["deck", "many"]) fun _ _ _ _ _ _ us hl => match us, hl with | [_, _], _ => rfl,
    g__law_draw := PySem.W.mg_of X G a__law_draw,
    f__law_pick := f__law_pick,
    d__law_pick := _,
    F__law_pick := fun_mk (st := s__law_pick) l__law_pick c__law_pick k__law_pick,
    b__law_pick := (fun_mk (st := s__law_pick) l__law_pick c__law_pick k__law_pick).binds (ps := ["deck", "items"]) fun _ _ _ _ _ _ us hl => match us, hl with | [_, _], _ => rfl,
    g__law_pick := PySem.W.mg_of X G a__law_pick,
    f__law_parts := f__law_parts,
    d__law_parts := _,
    F__law_parts := fun_mk (st := s__law_parts) l__law_parts c__law_parts k__law_parts,
    b__law_parts := (fun_mk (st := s__law_parts) l__law_parts c__law_parts k__law_parts).binds (ps := ["deck", "rooms", "left", "deep"]) fun _ _ _ _ _ _ us hl => match us, hl with | [_, _, _, _], _ => rfl,
    g__law_parts := PySem.W.mg_of X G a__law_parts,
    f__law_part := f__law_part,
    d__law_part := _,
    F__law_part := fun_mk (st := s__law_part) l__law_part c__law_part k__law_part,
    b__law_part := (fun_mk (st := s__law_part) l__law_part c__law_part k__law_part).binds (ps := ["deck", "rooms", "left", "deep"]) fun _ _ _ _ _ _ us hl => match us, hl with | [_, _, _, _], _ => rfl,
    g__law_part := PySem.W.mg_of X G a__law_part,
    f__law_program := f__law_program,
    d__law_program := _,
    F__law_program := fun_mk (st := s__law_program) l__law_program c__law_program k__law_program,
    b__law_program := (fun_mk (st := s__law_program) l__law_program c__law_program k__law_program).binds (ps := ["deck", "many", "left"]) fun _ _ _ _ _ _ us hl => match us, hl with | [_, _, _], _ => rfl,
    g__law_program := PySem.W.mg_of X G a__law_program,
    f__law_count := f__law_count,
    d__law_count := _,
    F__law_count := fun_mk (st := s__law_count) l__law_count c__law_count k__law_count,
    b__law_count := (fun_mk (st := s__law_count) l__law_count c__law_count k__law_count).binds (ps := ["program"]) fun _ _ _ _ _ _ us hl => match us, hl with | [_], _ => rfl,
    g__law_count := PySem.W.mg_of X G a__law_count,
    f__law_program_error := f__law_program_error,
    d__law_program_error := _,
    F__law_program_error := fun_mk (st := s__law_program_error) l__law_program_error c__law_program_error k__law_program_error,
    b__law_program_error := (fun_mk (st := s__law_program_error) l__law_program_error c__law_program_error k__law_program_error).binds (ps := ["many", "value"]) fun _ _ _ _ _ _ us hl => match us, hl with | [_, _], _ => rfl,
    g__law_program_error := PySem.W.mg_of X G a__law_program_error,
    f__law_first_error := f__law_first_error,
    d__law_first_error := _,
    F__law_first_error := fun_mk (st := s__law_first_error) l__law_first_error c__law_first_error k__law_first_error,
    b__law_first_error := (fun_mk (st := s__law_first_error) l__law_first_error c__law_first_error k__law_first_error).binds (ps := ["many", "program", "spot", "within_v", "deep", "counted"]) fun _ _ _ _ _ _ us hl => match us, hl with | [_, _, _, _, _, _], _ => rfl,
    g__law_first_error := PySem.W.mg_of X G a__law_first_error,
    f__law_lots := f__law_lots,
    d__law_lots := _,
    F__law_lots := fun_mk (st := s__law_lots) l__law_lots c__law_lots k__law_lots,
    b__law_lots := (fun_mk (st := s__law_lots) l__law_lots c__law_lots k__law_lots).binds (ps := ["many", "part"]) fun _ _ _ _ _ _ us hl => match us, hl with | [_, _], _ => rfl,
    g__law_lots := PySem.W.mg_of X G a__law_lots,
    f__law_text := f__law_text,
    d__law_text := _,
    F__law_text := fun_mk (st := s__law_text) l__law_text c__law_text k__law_text,
    b__law_text := (fun_mk (st := s__law_text) l__law_text c__law_text k__law_text).binds (ps := ["program"]) fun _ _ _ _ _ _ us hl => match us, hl with | [_], _ => rfl,
    g__law_text := PySem.W.mg_of X G a__law_text,
    f__law_near := f__law_near,
    d__law_near := _,
    F__law_near := fun_mk (st := s__law_near) l__law_near c__law_near k__law_near,
    b__law_near := (fun_mk (st := s__law_near) l__law_near c__law_near k__law_near).binds (ps := ["deck", "program"]) fun _ _ _ _ _ _ us hl => match us, hl with | [_, _], _ => rfl,
    g__law_near := PySem.W.mg_of X G a__law_near,
    f_law := _,
    d_law := _,
    F_law := fun_mk (st := s_law) l_law c_law k_law,
    b_law := (fun_mk (st := s_law) l_law c_law k_law).binds (ps := ["script"]) fun _ _ _ _ _ _ us hl => match us, hl with | [_], _ => rfl,
    g_law := PySem.W.mg_of X G a_law,
    k_program_text := fun s ws _ hl => match ws, hl with | [_], _ => .of_eq rfl,
    k_read_program := fun s ws _ hl => match ws, hl with | [_], _ => .of_eq rfl,
    C_ProgramReader := C_ProgramReader,
    cl_ProgramReader := ⟨pg_ProgramReader, hd_ProgramReader, po_ProgramReader, sa_ProgramReader⟩,
    g_ProgramReader := PySem.W.mg_of X G g_ProgramReader,
    mk_ProgramReader := ⟨mk_ProgramReader, a_ProgramReader___init__, i_ProgramReader___init__, kc_ProgramReader⟩,
    a_text := na_text,
    a_place := na_place })⟩
theorem walk {l : PySem.W.OpenLaw} {q : Program} {loose : List Str} {XP : (Str → Option Value) → Heap → Prop} {YP : World → Heap → Prop} {d : DefRec} {K : Params → PySem.W.Frag} (most : l.most = some 63) (nodef : d.params.defaults = [])
    (inY : ∀ (w : World) (h : Heap), YP w h → (K w.params).In h)
    (F : ∀ (w : World) (mg : Str → Option Value) (fa : Addr) (h : Heap), (K w.params).In h → h.Ns mainGlobals mg → mg d.name = some (.ref fa) →
      ∃ fd : FuncData, (∀ (s : Shared) (u : Value), BindsTo s fd ⟨[u], []⟩ [("script", u)]) ∧ ∀ base : Heap, (K w.params).In base → base.Ns mainGlobals mg → DFn l.prog w (K w.params) mg base CX0 60 fa fd ["script"] sp_law) :
    PySem.W.WalkO q loose XP YP l.row.toRowW d [] (fun f vs => PySem.call f vs) :=
  walk_ofD (n := 63) (k := 60) (x := "script") most (by decide) nodef ⟨rfl, by decide, by decide⟩ rfl inY F fun ns _ => ⟨ns, rfl, rfl⟩
end K76
open PySem PySem.W PyProof.Rows in
set_option maxRecDepth 100000 in
set_option maxHeartbeats 0 in
theorem PySem.Challenge.cw_roomways_k76_whole_texts_of_programs_holds : PySem.Challenge.rw_roomways_k76_whole_texts_of_programs.Holds := by
  w_on; o_law; k_head; (case hw => w_witness2)
  k_fill
  refine K76.walk (l := PySem.Challenge.rw_roomways_k76_whole_texts_of_programs) rfl rfl (fun w h Y => PySem.W.kIn_of Y) ?F
  case F =>
    intro w mg fa h KX G isF
    refine' K76.all_mk KX G isF ?z_range ?z_enumerate ?z_isinstance ?z_int ?z_tuple ?z_all ?z_len ?z_str ?z_abs ?z_list ?z_bool ?z_repr ?e_MAX_ROOMS ?e_MAX_PARTS ?e_MAX_DEEP ?e_FIGURES ?g_ProgramReader ?a_is_integer ?l_is_integer ?c_is_integer ?k_is_integer ?a_is_within ?l_is_within ?c_is_within ?k_is_within ?a_are_programs ?l_are_programs ?c_are_programs ?k_are_programs ?a_is_part ?l_is_part ?c_is_part ?k_is_part ?a_within ?l_within ?c_within ?k_within ?a_part_error ?l_part_error ?c_part_error ?k_part_error ?a_program_error ?l_program_error ?c_program_error ?k_program_error ?a_in_brackets ?l_in_brackets ?c_in_brackets ?k_in_brackets ?a_part_text ?l_part_text ?c_part_text ?k_part_text ?a_program_text ?l_program_text ?c_program_text ?k_program_text ?a_ProgramReader___init__ ?i_ProgramReader___init__ ?l_ProgramReader___init__ ?c_ProgramReader___init__ ?k_ProgramReader___init__ ?a_ProgramReader_takes ?i_ProgramReader_takes ?l_ProgramReader_takes ?c_ProgramReader_takes ?k_ProgramReader_takes ?a_ProgramReader_need ?i_ProgramReader_need ?l_ProgramReader_need ?c_ProgramReader_need ?k_ProgramReader_need ?a_ProgramReader_bracketed ?i_ProgramReader_bracketed ?l_ProgramReader_bracketed ?c_ProgramReader_bracketed ?k_ProgramReader_bracketed ?a_ProgramReader_parts ?i_ProgramReader_parts ?l_ProgramReader_parts ?c_ProgramReader_parts ?k_ProgramReader_parts ?a_ProgramReader_room ?i_ProgramReader_room ?l_ProgramReader_room ?c_ProgramReader_room ?k_ProgramReader_room ?a_ProgramReader_one_part ?i_ProgramReader_one_part ?l_ProgramReader_one_part ?c_ProgramReader_one_part ?k_ProgramReader_one_part ?a_read_program ?l_read_program ?c_read_program ?k_read_program ?a__law_deck ?l__law_deck ?c__law_deck ?k__law_deck ?a__law_draw ?l__law_draw ?c__law_draw ?k__law_draw ?a__law_pick ?l__law_pick ?c__law_pick ?k__law_pick ?a__law_parts ?l__law_parts ?c__law_parts ?k__law_parts ?a__law_part ?l__law_part ?c__law_part ?k__law_part ?a__law_program ?l__law_program ?c__law_program ?k__law_program ?a__law_count ?l__law_count ?c__law_count ?k__law_count ?a__law_program_error ?l__law_program_error ?c__law_program_error ?k__law_program_error ?a__law_first_error ?l__law_first_error ?c__law_first_error ?k__law_first_error ?a__law_lots ?l__law_lots ?c__law_lots ?k__law_lots ?a__law_text ?l__law_text ?c__law_text ?k__law_text ?a__law_near ?l__law_near ?c__law_near ?k__law_near ?a_law ?l_law ?c_law ?k_law ?pg_ProgramReader ?hd_ProgramReader ?po_ProgramReader ?sa_ProgramReader ?mk_ProgramReader ?kc_ProgramReader ?na_text ?na_place
    (case z_range => k_is)
    (case z_enumerate => k_is)
    (case z_isinstance => k_is)
    (case z_int => k_is)
    (case z_tuple => k_is)
    (case z_all => k_is)
    (case z_len => k_is)
    (case z_str => k_is)
    (case z_abs => k_is)
    (case z_list => k_is)
    (case z_bool => k_is)
    (case z_repr => k_is)
    (case e_MAX_ROOMS => k_is)
    (case e_MAX_PARTS => k_is)
    (case e_MAX_DEEP => k_is)
    (case e_FIGURES => k_is)
    (case g_ProgramReader => k_is)
    (case a_is_integer => k_is)
    (case l_is_integer => k_is)
    (case c_is_integer => k_is)
    (case k_is_integer => k_is)
    (case a_is_within => k_is)
    (case l_is_within => k_is)
    (case c_is_within => k_is)
    (case k_is_within => k_is)
    (case a_are_programs => k_is)
    (case l_are_programs => k_is)
    (case c_are_programs => k_is)
    (case k_are_programs => k_is)
    (case a_is_part => k_is)
    (case l_is_part => k_is)
    (case c_is_part => k_is)
    (case k_is_part => k_is)
    (case a_within => k_is)
    (case l_within => k_is)
    (case c_within => k_is)
    (case k_within => k_is)
    (case a_part_error => k_is)
    (case l_part_error => k_is)
    (case c_part_error => k_is)
    (case k_part_error => k_is)
    (case a_program_error => k_is)
    (case l_program_error => k_is)
    (case c_program_error => k_is)
    (case k_program_error => k_is)
    (case a_in_brackets => k_is)
    (case l_in_brackets => k_is)
    (case c_in_brackets => k_is)
    (case k_in_brackets => k_is)
    (case a_part_text => k_is)
    (case l_part_text => k_is)
    (case c_part_text => k_is)
    (case k_part_text => k_is)
    (case a_program_text => k_is)
    (case l_program_text => k_is)
    (case c_program_text => k_is)
    (case k_program_text => k_is)
    (case a_ProgramReader___init__ => k_is)
    (case i_ProgramReader___init__ => k_is)
    (case l_ProgramReader___init__ => k_is)
    (case c_ProgramReader___init__ => k_is)
    (case k_ProgramReader___init__ => k_is)
    (case a_ProgramReader_takes => k_is)
    (case i_ProgramReader_takes => k_is)
    (case l_ProgramReader_takes => k_is)
    (case c_ProgramReader_takes => k_is)
    (case k_ProgramReader_takes => k_is)
    (case a_ProgramReader_need => k_is)
    (case i_ProgramReader_need => k_is)
    (case l_ProgramReader_need => k_is)
    (case c_ProgramReader_need => k_is)
    (case k_ProgramReader_need => k_is)
    (case a_ProgramReader_bracketed => k_is)
    (case i_ProgramReader_bracketed => k_is)
    (case l_ProgramReader_bracketed => k_is)
    (case c_ProgramReader_bracketed => k_is)
    (case k_ProgramReader_bracketed => k_is)
    (case a_ProgramReader_parts => k_is)
    (case i_ProgramReader_parts => k_is)
    (case l_ProgramReader_parts => k_is)
    (case c_ProgramReader_parts => k_is)
    (case k_ProgramReader_parts => k_is)
    (case a_ProgramReader_room => k_is)
    (case i_ProgramReader_room => k_is)
    (case l_ProgramReader_room => k_is)
    (case c_ProgramReader_room => k_is)
    (case k_ProgramReader_room => k_is)
    (case a_ProgramReader_one_part => k_is)
    (case i_ProgramReader_one_part => k_is)
    (case l_ProgramReader_one_part => k_is)
    (case c_ProgramReader_one_part => k_is)
    (case k_ProgramReader_one_part => k_is)
    (case a_read_program => k_is)
    (case l_read_program => k_is)
    (case c_read_program => k_is)
    (case k_read_program => k_is)
    (case a__law_deck => k_is)
    (case l__law_deck => k_is)
    (case c__law_deck => k_is)
    (case k__law_deck => k_is)
    (case a__law_draw => k_is)
    (case l__law_draw => k_is)
    (case c__law_draw => k_is)
    (case k__law_draw => k_is)
    (case a__law_pick => k_is)
    (case l__law_pick => k_is)
    (case c__law_pick => k_is)
    (case k__law_pick => k_is)
    (case a__law_parts => k_is)
    (case l__law_parts => k_is)
    (case c__law_parts => k_is)
    (case k__law_parts => k_is)
    (case a__law_part => k_is)
    (case l__law_part => k_is)
    (case c__law_part => k_is)
    (case k__law_part => k_is)
    (case a__law_program => k_is)
    (case l__law_program => k_is)
    (case c__law_program => k_is)
    (case k__law_program => k_is)
    (case a__law_count => k_is)
    (case l__law_count => k_is)
    (case c__law_count => k_is)
    (case k__law_count => k_is)
    (case a__law_program_error => k_is)
    (case l__law_program_error => k_is)
    (case c__law_program_error => k_is)
    (case k__law_program_error => k_is)
    (case a__law_first_error => k_is)
    (case l__law_first_error => k_is)
    (case c__law_first_error => k_is)
    (case k__law_first_error => k_is)
    (case a__law_lots => k_is)
    (case l__law_lots => k_is)
    (case c__law_lots => k_is)
    (case k__law_lots => k_is)
    (case a__law_text => k_is)
    (case l__law_text => k_is)
    (case c__law_text => k_is)
    (case k__law_text => k_is)
    (case a__law_near => k_is)
    (case l__law_near => k_is)
    (case c__law_near => k_is)
    (case k__law_near => k_is)
    (case a_law => k_is)
    (case l_law => k_is)
    (case c_law => k_is)
    (case k_law => k_is)
    (case pg_ProgramReader => k_is)
    (case hd_ProgramReader => k_is)
    (case po_ProgramReader => k_is)
    (case sa_ProgramReader => k_is)
    (case mk_ProgramReader => k_is)
    (case kc_ProgramReader => k_is)
    (case na_text => k_is)
    (case na_place => k_is)
#print axioms PySem.Challenge.cw_roomways_k76_whole_texts_of_programs_holds

